/- By program (gen.py): the functions in their typed form. -/
import Derived.Test.YtcjpeijiaojeiaaGreatFn
import Derived.Test.YtcjpeijiaojeiaaGreatHa
import Derived.Test.YtcjpeijiaojeiaaGreatLb
namespace Go.Proofs.YtcjpeijiaojeiaaGreat
open Go Go.Ev
set_option maxRecDepth 1000000
noncomputable section
abbrev PR:=Tryz.prog
abbrev cL:=List (Nat×aQ TL)
abbrev sL:=List (Nat×aM TL)
def cZ:cL:=[]
abbrev kI:aD (X TL) Int:=aD.xs (aD.sc (aD.im (aD.int .i64)))
abbrev kB:aD (X TL) Bool:=aD.xs (aD.sc (aD.im aD.bool))
abbrev kE:aD (C TL) ByteArray:=aD.im aD.str
abbrev kR {T:Type}(i:Nat)(e:TypeId)(j:aD.fV TL T):=aD.bO i e j
abbrev kA (i:Nat):aD (C TL) Unit:=aD.ar i
abbrev kO {α β γ:Type}(c:aD α β)(f:β→γ)(g:γ→β)(h:∀ b,g (f b)=b):=aD.mU c f g h
abbrev kS {β γ:Type}(n:Nat)(a:aD (List (X TL)) β)(b:aD (List (Nat×En TL)) γ):=aD.cst n a b
abbrev kT:=aD (bg TL)
abbrev kF {T:Type}(j:aD.fV TL T):aD (X TL) T:=aD.xs (aD.sc (aD.im (aD.fz j)))
abbrev kG {T:Type}(j:aD.fV TL T):aD (C TL) T:=aD.im (aD.fz j)
abbrev kP (a b:Nat):aD (X TL) Unit:=aD.xs (aD.sc (aD.ptr a b))
abbrev kJ:aD (C TL) Int:=aD.im (aD.int .i64)
abbrev kC {α β γ:Type}(c:aD α β)(d:aD (List α) γ):=aD.cons c d
abbrev kN {α:Type}:aD (List α) Unit:=aD.nil
abbrev dI:DT TL Int:=DT.one (DI.int .i64)
abbrev dB:DT TL Bool:=DT.one DI.bool
def aLA (cs:cL)(ss:sL)(E:Env)(f:FuncId){X Y:Type}(a:DA TL X)(u:X→Option Y)(r:DA TL Y):Prop:=∀ x,Out.run (gm cs ss) (qx E 12 20 f (a.enc x)) r.dec=u x
theorem bx {P:Program}{cs:cL}{ss:sL}{E:Env}{f:FuncId}{kd:fA}{X Y:Type}{a:DA TL X}{u:X→Option Y}{r:DA TL Y}(h:aLA cs ss E f a u r)(hE:fw P (fG cs ss) E)(hk:kd=.keep∨kd=.pure)(hen:Enters P f):be P f kd (aQ.of a u r):=aFE hE hk hen a u r h
theorem lC {P:Program}{nt:Nat}{q:bW}{b:Code}{d:aM TL}{cs:cL}{ss:sL}(h:bM P (bm d) nt q b)(hd:jX ss q.iL=some d):bM P (fG cs ss) nt q b:=bM.cast h hd
theorem oD {P:Program}{cs:cL}{ss:sL}{f:Nat}{k:fA}{d:aQ TL}(h:be P f k d)(hd:jX cs f=some d):nE P cs ss (f,k):=okD hd h
theorem lB {cs:cL}{ss:sL}{E:Env}{nt:Nat}{an:hP}{q:bW}{b:Code}{X A B:Type}{h:aD (bg TL) X}{oA:aD (bg TL) A}{oB:aD (bg TL) B}{exA exB:Ex}{F:X→Option (A⊕B)}(hE:fw PR (fG cs ss) E)(stp:X→Option (X⊕(A⊕B)))(hcB:gU nt b=true)(hLo:∀ b'∈bC b,∀ q',an.lp (Go.Ev.keyOf b')=some q'→bM PR (fG cs ss) nt q' b')(hA:gz exA exA=true)(hB:gz exB exB=true)(hF:∀ x y,F x=some y→∃ n,bZ stp n x=some y)(hkp:∀ x,Go.Ev.below (h.enc x).n q.kp=true)(hrun:∀ x,Out.run (gm cs ss) (jd E 12 20 an q b (h.enc x)) (nA h oA oB exA exB)=stp x):bM PR (bm (aM.two h.dec F exA exB oA.enc oB.enc)) nt q b:=aD5 hE hcB hLo h oA oB exA exB hA hB stp F hrun hF fun x=>m8.1 (hkp x)
theorem lA {cs:cL}{ss:sL}{E:Env}{nt:Nat}{an:hP}{q:bW}{b:Code}{X Y:Type}{h:aD (bg TL) X}{o:aD (bg TL) Y}{ex:Ex}{F:X→Option Y}(hE:fw PR (fG cs ss) E)(stp:X→Option (X⊕Y))(hcB:gU nt b=true)(hLo:∀ b'∈bC b,∀ q',an.lp (Go.Ev.keyOf b')=some q'→bM PR (fG cs ss) nt q' b')(hA:gz ex ex=true)(hF:∀ x y,F x=some y→∃ n,bZ stp n x=some y)(hkp:∀ x,Go.Ev.below (h.enc x).n q.kp=true)(hrun:∀ x,Out.run (gm cs ss) (jd E 12 20 an q b (h.enc x)) (back h o fun e=>gz e ex)=stp x):bM PR (bm (aM.one h.dec F ex o.enc)) nt q b:=aDL hE hcB hLo h o ex hA stp F hrun hF fun x=>m8.1 (hkp x)
theorem sM {cs:cL}{ss:sL}{E:Env}{f:FuncId}{X Y:Type}{h:aD (bg TL) X}{o:aD (bg TL) Y}{F:X→Option Y}(hE:fw PR (fG cs ss) E)(hen:Enters PR f)(hrun:∀ x,Out.run (gm cs ss) (rB E 12 20 f (h.enc x)) (qt o)=F x):fL PR f (aM.one h.dec F .normal o.enc):=aEq hE hen h o F hrun
theorem sB {nt:Nat}{oD:cT TL}{c:Code}{k k0:Nat}{q0:bW}{an:hP}(hl:an.lp=fun k=>Ev.look [(k0,q0)] k)(hk:nodup ((bC c).map Go.Ev.keyOf)=true)(h0:mem k0 ((bC (bV (bC c) k)).map Go.Ev.keyOf)=false):∀ b∈bC (bV (bC c) k),∀ q,an.lp (Go.Ev.keyOf b)=some q→bM PR oD nt q b:=ae.du hl hk fun p hp=>by rw [List.mem_singleton.1 hp];exact .inl h0
theorem aN {α:Type}{p:α→Prop}:∀ x∈([]:List α),p x:=all_nil
theorem aC {α:Type}{p:α→Prop}{a:α}{l:List α}(h:p a)(t:∀ x∈l,p x):∀ x∈a::l,p x:=all_cons h t
def aH.cc (c:Bool)(a b:aH):aH:=aH.mk (cond c a.device b.device) (cond c a.aA b.aA) (cond c a.bN b.bN) (cond c a.last b.last) (cond c a.aW b.aW) (cond c a.ids b.ids) (cond c a.used b.used)
def ag.cc (c:Bool)(a b:ag):ag:=ag.mk (cond c a.v b.v) (cond c a.cB b.cB) (cond c a.bp b.bp) (cond c a.gone b.gone) (cond c a.bJ b.bJ) (cond c a.binds b.binds)
def aU.cc (c:Bool)(a b:aU):aU:=aU.mk (cond c a.err b.err) (cond c a.n b.n) (aH.cc c a.aE b.aE)
def m6 (ex1:aL):Option fg :=
 some (fg.mk ex1.device ex1.aA)
def Wo (p:aL):Option fg:=m6 p
def td:aQ TL:=aQ.of (DA.one (DT.agg kv)) Wo (DA.one (DT.agg vu))
theorem yw:be PR 234 .pure td:=bx (cs:=[]) (ss:=[]) (E:=aX tab sl sh [(234,Pb)] []) (fun _=>by kernel_rfl) (aY base (aC (SU.ak rfl aN) aN) aN) (.inr rfl) SU.enters
def lX (i1:Int):Option Bool :=
 some (i1 != i1)
def VK (p:Int):Option Bool:=lX p
def ye:aQ TL:=aQ.of (DA.one dI) VK (DA.one dB)
theorem Ew:be PR 226 .pure ye:=bx (cs:=[]) (ss:=[]) (E:=aX tab sl sh [(226,RU)] []) (fun _=>by kernel_rfl) (aY base (aC (SX.ak rfl aN) aN) aN) (.inr rfl) SX.enters
def gZ (i1:Int)(i2:Int):Option Int :=
 ob (lX i1) fun r0 =>
 ob (lX i2) fun r1 =>
 cond (r0)
 (cond (r1)
 (some 0)
 (some (-1)))
 (cond (r1)
 (some 1)
 (cond (decide (i1 < i2))
 (some (-1))
 (cond (decide (i1 > i2))
 (some 1)
 (some 0))))
def Us (p:Int×Int):Option Int:=gZ p.1 p.2
def nL:aQ TL:=aQ.of (DA.cons dI (DA.one dI)) Us (DA.one dI)
theorem pA:be PR 239 .pure nL:=bx (cs:=[(226,ye)]) (ss:=[]) (E:=aX tab sl sh [(239,Qf)] [(226,.pure)]) (fun _=>by kernel_rfl) (aY base (aC (Pg.ak rfl aN) aN) (aC (oD Ew rfl) aN)) (.inr rfl) Pg.enters
abbrev tA:=Int×Int×(List Int)×Int×Int
def Hj (i1:Int)(i2:Int)(l1:List Int)(i3:Int)(i4:Int):Option ((tA)⊕(((Int×Int)⊕(Int×Int)))) :=
 cond (decide (i4 < i3))
 (cond (decide (0≤i4))
 (ob (l1[i4.toNat]?) fun e0 =>
 cond (e0 != i2)
 (some (.inr (.inr (e0,i2))))
 (some (.inl (i1,i2,l1,i3,(aF (i4+1))))))
 none)
 (some (.inr (.inl (i1,i2))))
def AB (p:tA):Option ((tA)⊕(((Int×Int)⊕(Int×Int)))):=Hj p.1 p.2.1 p.2.2.1 p.2.2.2.1 p.2.2.2.2
def Ot (i1:Int)(i2:Int)(l1:List Int)(i3:Int)(i4:Int):Option (((Int×Int)⊕(Int×Int))):=bZ AB ((i3 - i4).toNat+2) (i1,i2,l1,i3,i4)
def aAW:kT (tA):=kO (kS 0 (kC kI (kC kI (kC (kF bA) (kC kI (kC kI kN))))) kN) (fun ((z0,z1,z2,z3,z4,_),_)=>(z0,z1,z2,z3,z4)) (fun (x:tA)=>((x.1,(x.2.1,(x.2.2.1,(x.2.2.2.1,(x.2.2.2.2,()))))),())) (fun _=>rfl)
def I2:kT (Int×Int):=kO (kS 0 (kC kI (kC kI kN)) kN) (fun p=>(p.1.1,p.1.2.1)) (fun (x:Int×Int)=>((x.1,(x.2,())),())) (fun _=>rfl)
def J4:aM TL:=aM.two aAW.dec (fun p=>Ot p.1 p.2.1 p.2.2.1 p.2.2.2.1 p.2.2.2.2) (.exit 0) .ret I2.enc I2.enc
theorem aAa:bM PR (bm J4) Rj MQ (bV (bC xk.body) 3):=lB (cs:=[]) (ss:=[]) (E:=aX tab sl sh [] []) (an:=xk.an) (aY base aN aN) AB (by kernel_rfl) (sB rfl Du.keys (by kernel_rfl)) rfl rfl (fun x y h=>⟨_,h⟩) (fun _=>rfl) fun _=>by kernel_rfl
def iC (l1:List Int):Option Int :=
 ob (Ot 0 0 l1 (l1.length:Int) 0) fun y0 =>
 two y0 (fun a1 =>
 some a1.2) (fun b2 =>
 some b2.1)
def YQ (p:(List Int)):Option Int:=iC p
def nU:aQ TL:=aQ.of (DA.one (DT.one jR)) YQ (DA.one dI)
theorem pH:be PR 216 .pure nU:=bx (cs:=[]) (ss:=[(316003,J4)]) (E:=aX tab sl sh [(216,xk)] []) (fun _=>by kernel_rfl) (aY base (aC (Du.ak rfl (aC (lC aAa rfl) aN)) aN) aN) (.inr rfl) Du.enters
def ox (px1:fg)(px2:fg):Option Int :=
 ob (gZ px1.device px2.device) fun r0 =>
 ob (gZ px1.aA px2.aA) fun r1 =>
 ob (iC [r0,r1]) fun r2 =>
 some r2
def Ub (p:fg×fg):Option Int:=ox p.1 p.2
def ya:aQ TL:=aQ.of (DA.cons (DT.agg vu) (DA.one (DT.agg vu))) Ub (DA.one dI)
theorem Ec:be PR 259 .pure ya:=bx (cs:=[(239,nL),(216,nU)]) (ss:=[]) (E:=aX tab sl sh [(259,RO)] [(239,.pure),(216,.pure)]) (fun _=>by kernel_rfl) (aY base (aC (Pj.ak rfl aN) aN) (aC (oD pA rfl) (aC (oD pH rfl) aN))) (.inr rfl) Pj.enters
abbrev kf:=(List aL)×Int×fg
def Hl (l1:List aL)(i1:Int)(px1:fg):Option ((kf)⊕(kf)) :=
 cond (decide (i1 < (l1.length:Int)))
 (cond (decide (0≤i1))
 (ob (l1[i1.toNat]?) fun e0 =>
 ob (m6 e0) fun r1 =>
 ob (ox r1 px1) fun r2 =>
 cond (decide (r2 < 0))
 (some (.inl (l1,(aF (i1+1)),px1)))
 (some (.inr (l1,i1,px1))))
 none)
 (some (.inr (l1,i1,px1)))
def Am (p:kf):Option ((kf)⊕(kf)):=Hl p.1 p.2.1 p.2.2
def Oz (l1:List aL)(i1:Int)(px1:fg):Option kf:=bZ Am (((l1.length:Int) - i1).toNat+2) (l1,i1,px1)
def aAS:kT (kf):=kO (kS 1 (kC (kF bQ) (kC (aD.xs (aD.sc (aD.dY 258 [] [(0,0)]))) (kC kI kN))) (kC (aD.var 0 274 (kC kJ (kC kJ kN))) kN)) (fun p=>(p.1.1,p.1.2.2.1,(fg.mk p.2.1.1 p.2.1.2.1))) (fun (x:kf)=>((x.1,((),(x.2.1,()))),((x.2.2.device,(x.2.2.aA,())),()))) (fun _=>rfl)
def aAA:kT (kf):=kO (kS 2 (kC (kF bQ) (kC (aD.xs (aD.sc (aD.dY 258 [] [(0,0)]))) (kC kI kN))) (kC (aD.var 0 274 (kC kJ (kC kJ kN))) kN)) (fun p=>(p.1.1,p.1.2.2.1,(fg.mk p.2.1.1 p.2.1.2.1))) (fun (x:kf)=>((x.1,((),(x.2.1,()))),((x.2.2.device,(x.2.2.aA,())),()))) (fun _=>rfl)
def Kq:aM TL:=aM.one aAS.dec (fun p=>Oz p.1 p.2.1 p.2.2) (.exit 0) aAA.enc
theorem aBJ:bM PR (bm Kq) SS Lm (bV (bC wy.body) 2):=lA (cs:=[(234,td),(259,ya)]) (ss:=[]) (E:=aX tab sl sh [(258,Dt)] [(234,.pure),(259,.pure)]) (an:=wy.an) (aY base (aC (Q5.ak rfl aN) aN) (aC (oD yw rfl) (aC (oD Ec rfl) aN))) Am (by kernel_rfl) (sB rfl Rb.keys (by kernel_rfl)) rfl (fun x y h=>⟨_,h⟩) (fun _=>rfl) fun _=>by kernel_rfl
def pW (l1:List aL)(px1:fg):Option (Int×Bool) :=
 ob (Oz l1 0 px1) fun y0 =>
 cond (decide (y0.2.1 < (y0.1.length:Int)))
 (cond (decide (0≤y0.2.1))
 (ob (y0.1[y0.2.1.toNat]?) fun e1 =>
 ob (m6 e1) fun r2 =>
 ob (ox r2 y0.2.2) fun r3 =>
 some (y0.2.1,(r3 == 0)))
 none)
 (some (y0.2.1,false))
def XH (p:(List aL)×fg):Option (Int×Bool):=pW p.1 p.2
def yy:aQ TL:=aQ.of (DA.cons (DT.one eu) (DA.one (DT.agg vu))) XH (DA.cons dI (DA.one dB))
theorem Fx:be PR 233 .pure yy:=bx (cs:=[(234,td),(259,ya)]) (ss:=[(357002,Kq)]) (E:=aX tab sl sh [(233,RI),(257,wy),(258,Dt)] [(234,.pure),(259,.pure)]) (fun _=>by kernel_rfl) (aY base (aC (RV.ak rfl aN) (aC (Rb.ak rfl (aC (lC aBJ rfl) aN)) (aC (Q5.ak rfl aN) aN))) (aC (oD yw rfl) (aC (oD Ec rfl) aN))) (.inr rfl) RV.enters
abbrev so:=(List aL)×(List aL)×Int×Int
def Gs (l1:List aL)(l2:List aL)(i1:Int)(i2:Int):Option ((so)⊕((List aL))) :=
 cond (decide (i2 < i1))
 (cond (decide (0≤i2))
 (ob (l2[i2.toNat]?) fun e0 =>
 ob (m6 e0) fun r1 =>
 ob (pW l1 r1) fun r2 =>
 cond (r2.2)
 (cond (decide (0≤r2.1))
 (cond (decide (r2.1 < (l1.length:Int)))
 (ob (l1[r2.1.toNat]?) fun e3 =>
 cond (decide (0≤r2.1))
 (cond (decide (r2.1 < (l1.length:Int)))
 (ob (l1[r2.1.toNat]?) fun e4 =>
 some (.inl ((l1.set r2.1.toNat (aL.mk e4.device e4.aA (max2 e3.seq e0.seq))),l2,i1,(aF (i2+1)))))
 none)
 none)
 none)
 none)
 (cond (fits ((l1++[(aL.mk 0 0 0)]).length))
 (cond (decide (0≤(aF (r2.1+1))))
 (cond (decide ((aF (r2.1+1))≤((l1++[(aL.mk 0 0 0)]).length:Int)))
 (cond (decide (((l1++[(aL.mk 0 0 0)]).length:Int)≤((l1++[(aL.mk 0 0 0)]).length:Int)))
 (cond (decide (0≤r2.1))
 (cond (decide (r2.1≤((l1++[(aL.mk 0 0 0)]).length:Int)))
 (cond (decide (((l1++[(aL.mk 0 0 0)]).length:Int)≤((l1++[(aL.mk 0 0 0)]).length:Int)))
 (cond (decide (0≤r2.1))
 (cond (decide (r2.1 < (((((l1++[(aL.mk 0 0 0)]).take (((aF (r2.1+1))).toNat))++((((l1++[(aL.mk 0 0 0)]).take ((((l1++[(aL.mk 0 0 0)]).length:Int)).toNat)).drop r2.1.toNat).take (Nat.min ((((l1++[(aL.mk 0 0 0)]).take ((((l1++[(aL.mk 0 0 0)]).length:Int)).toNat)).drop r2.1.toNat).length) ((((l1++[(aL.mk 0 0 0)]).length:Int)).toNat - ((aF (r2.1+1))).toNat))))++(((l1++[(aL.mk 0 0 0)]).take ((l1++[(aL.mk 0 0 0)]).length)).drop (((aF (r2.1+1))).toNat+(Nat.min ((((l1++[(aL.mk 0 0 0)]).take ((((l1++[(aL.mk 0 0 0)]).length:Int)).toNat)).drop r2.1.toNat).length) ((((l1++[(aL.mk 0 0 0)]).length:Int)).toNat - ((aF (r2.1+1))).toNat))))).length:Int)))
 (ob (((((l1++[(aL.mk 0 0 0)]).take (((aF (r2.1+1))).toNat))++((((l1++[(aL.mk 0 0 0)]).take ((((l1++[(aL.mk 0 0 0)]).length:Int)).toNat)).drop r2.1.toNat).take (Nat.min ((((l1++[(aL.mk 0 0 0)]).take ((((l1++[(aL.mk 0 0 0)]).length:Int)).toNat)).drop r2.1.toNat).length) ((((l1++[(aL.mk 0 0 0)]).length:Int)).toNat - ((aF (r2.1+1))).toNat))))++(((l1++[(aL.mk 0 0 0)]).take ((l1++[(aL.mk 0 0 0)]).length)).drop (((aF (r2.1+1))).toNat+(Nat.min ((((l1++[(aL.mk 0 0 0)]).take ((((l1++[(aL.mk 0 0 0)]).length:Int)).toNat)).drop r2.1.toNat).length) ((((l1++[(aL.mk 0 0 0)]).length:Int)).toNat - ((aF (r2.1+1))).toNat)))))[r2.1.toNat]?) fun _ =>
 some (.inl ((((((l1++[(aL.mk 0 0 0)]).take (((aF (r2.1+1))).toNat))++((((l1++[(aL.mk 0 0 0)]).take ((((l1++[(aL.mk 0 0 0)]).length:Int)).toNat)).drop r2.1.toNat).take (Nat.min ((((l1++[(aL.mk 0 0 0)]).take ((((l1++[(aL.mk 0 0 0)]).length:Int)).toNat)).drop r2.1.toNat).length) ((((l1++[(aL.mk 0 0 0)]).length:Int)).toNat - ((aF (r2.1+1))).toNat))))++(((l1++[(aL.mk 0 0 0)]).take ((l1++[(aL.mk 0 0 0)]).length)).drop (((aF (r2.1+1))).toNat+(Nat.min ((((l1++[(aL.mk 0 0 0)]).take ((((l1++[(aL.mk 0 0 0)]).length:Int)).toNat)).drop r2.1.toNat).length) ((((l1++[(aL.mk 0 0 0)]).length:Int)).toNat - ((aF (r2.1+1))).toNat))))).set r2.1.toNat e0),l2,i1,(aF (i2+1)))))
 none)
 none)
 none)
 none)
 none)
 none)
 none)
 none)
 none))
 none)
 (some (.inr l1))
def AJ (p:so):Option ((so)⊕((List aL))):=Gs p.1 p.2.1 p.2.2.1 p.2.2.2
def Oq (l1:List aL)(l2:List aL)(i1:Int)(i2:Int):Option ((List aL)):=bZ AJ ((i1 - i2).toNat+2) (l1,l2,i1,i2)
def aA4:kT (so):=kO (kS 1 (kC (aD.xs (aD.sc (kA 0))) (kC (kF bQ) (kC kI (kC kI kN)))) (kC (kR 0 66 bQ) kN)) (fun p=>(p.2.1,p.1.2.1,p.1.2.2.1,p.1.2.2.2.1)) (fun (x:so)=>(((),(x.2.1,(x.2.2.1,(x.2.2.2,())))),(x.1,()))) (fun _=>rfl)
def Zk:kT ((List aL)):=kO (kS 2 (kC (aD.xs (aD.sc (kA 1))) kN) (kC (kR 1 66 bQ) kN)) (fun p=>p.2.1) (fun (x:(List aL))=>(((),()),(x,()))) (fun _=>rfl)
def JP:aM TL:=aM.one aA4.dec (fun p=>Oq p.1 p.2.1 p.2.2.1 p.2.2.2) (.exit 0) Zk.enc
theorem aBR:bM PR (bm JP) Pv LO (bV (bC xd.body) 4):=lA (cs:=[(234,td),(233,yy)]) (ss:=[]) (E:=aX tab sl sh [] [(234,.pure),(233,.pure)]) (an:=xd.an) (aY base aN (aC (oD yw rfl) (aC (oD Fx rfl) aN))) AJ (by kernel_rfl) (sB rfl DE.keys (by kernel_rfl)) rfl (fun x y h=>⟨_,h⟩) (fun _=>rfl) fun _=>by kernel_rfl
def laid (l1:List aL)(l2:List aL):Option ((List aL)) :=
 cond (decide (0≤(l1.length:Int)))
 (cond (decide ((l1.length:Int)≤(aF ((l1.length:Int)+(l2.length:Int)))))
 (cond (fits (((aF ((l1.length:Int)+(l2.length:Int)))).toNat))
 (ob (Oq ((l1.take (Nat.min l1.length ((List.replicate (((l1.length:Int)).toNat) (aL.mk 0 0 0)).length)))++(((List.replicate (((l1.length:Int)).toNat) (aL.mk 0 0 0)).take ((List.replicate (((l1.length:Int)).toNat) (aL.mk 0 0 0)).length)).drop (Nat.min l1.length ((List.replicate (((l1.length:Int)).toNat) (aL.mk 0 0 0)).length)))) l2 (l2.length:Int) 0) fun y0 =>
 cond (fits (([]++y0).length))
 (some ([]++y0))
 none)
 none)
 none)
 none
def CE (p:(List aL)×(List aL)):Option ((List aL)):=laid p.1 p.2
def NY:aQ TL:=⟨(List aL)×(List aL),(List aL),(DA.cons (DT.one eu) (DA.one (DT.one eu)):DA TL ((List aL)×(List aL))).dec,CE,fun l=>[.c (.im (.fz (bQ.put l)))]⟩
def Nz:sL:=[(309004,JP)]
def Ll:Env:=aX tab sl sh [(209,xd)] []
theorem Yc:fw PR (fG cZ Nz) Ll:=aY base (aC (DE.ak rfl (aC (lC aBR rfl) aN)) aN) aN
theorem aDe (x:(List aL)×(List aL)):Out.run (gm cZ Nz) (qF Ll 12 20 209 66 ((DA.cons (DT.one eu) (DA.one (DT.one eu)):DA TL ((List aL)×(List aL))).enc x)) bQ.un=CE x:=by kernel_rfl
theorem aEf:be PR 209 (.fresh 66) NY:=aCh Yc (loops:=12) (n:=20) DE.enters (DA.cons (DT.one eu) (DA.one (DT.one eu))) CE bQ aDe
def iA (lx1:aH):Option aH :=
 cond (fits lx1.aW.length)
 (cond (fits lx1.ids.length)
 (cond (fits lx1.used.length)
 (some lx1)
 none)
 none)
 none
def ku:aD (List (C TL)) aH:=kO (kC kJ (kC kJ (kC kJ (kC kJ (kC (kG cD) (kC (kG aj) (kC (kG bA) kN))))))) (fun (z0,z1,z2,z3,z4,z5,z6,_)=>(aH.mk z0 z1 z2 z3 z4 z5 z6)) (fun (x:aH)=>(x.device,(x.aA,(x.bN,(x.last,(x.aW,(x.ids,(x.used,())))))))) (fun _=>rfl)
def zC:kT (aH):=kO (kS 0 (kC (aD.xs (aD.sa ku)) kN) kN) (fun p=>p.1.1) (fun (x:aH)=>((x,()),())) (fun _=>rfl)
def zH:kT (aH):=kO (kS 3 (kC (aD.xs (aD.sa (kC kJ (kC kJ (kC kJ (kC kJ (kC (kA 0) (kC (kA 1) (kC (kA 2) kN))))))))) kN) (kC (kR 0 133 cD) (kC (kR 1 153 aj) (kC (kR 2 3 bA) kN)))) (fun (((z0,z1,z2,z3,_),_),z4,z5,z6,_)=>(aH.mk z0 z1 z2 z3 z4 z5 z6)) (fun (x:aH)=>(((x.device,(x.aA,(x.bN,(x.last,((),((),((),()))))))),()),(x.aW,(x.ids,(x.used,()))))) (fun _=>rfl)
def XF (p:aH):Option aH:=iA p
def tV:aM TL:=aM.one zC.dec XF .normal zH.enc
theorem yz:fL PR 41 tV:=sM (cs:=[]) (ss:=[]) (E:=aX tab sl sh [(41,UE)] [(91,(.eB 133)),(92,(.eB 153)),(93,(.eB 3))]) (aY base (aC (Sm.ak rfl aN) aN) (aC (eQ PD) (aC (eQ wO) (aC (eQ wP) aN)))) Sm.enters fun _=>by kernel_rfl
def IC (i1:Int)(i2:Int)(bx1:aG)(bx2:aG):Option ((Int×Int×aG×aG)⊕(aG×aG)) :=
 cond (decide (i2 < i1))
 (cond (decide (0≤i2))
 (cond (decide (i2 < (bx1.aK.length:Int)))
 (ob (bx1.aK[i2.toNat]?) fun e0 =>
 ob (iA e0) fun y1 =>
 cond (decide (0≤i2))
 (cond (decide (i2 < (bx1.aK.length:Int)))
 (ob (bx1.aK[i2.toNat]?) fun _ =>
 some (.inl (i1,(aF (i2+1)),(aG.mk bx1.af bx1.free (bx1.aK.set i2.toNat y1) bx1.bB),bx2)))
 none)
 none)
 none)
 none)
 (some (.inr (bx1,bx2)))
def B1 (p:Int×Int×aG×aG):Option ((Int×Int×aG×aG)⊕(aG×aG)):=IC p.1 p.2.1 p.2.2.1 p.2.2.2
def Pn (i1:Int)(i2:Int)(bx1:aG)(bx2:aG):Option (aG×aG):=bZ B1 ((i1 - i2).toNat+2) (i1,i2,bx1,bx2)
def Me:kT (Int×Int×aG×aG):=kO (kS 10 (kC (kP 0 0) (kC (kP 1 0) (kC (aD.xs (aD.sc (kA 2))) (kC kI (kC kI kN))))) (kC (aD.var 0 29 (kC (kA 3) (kC (kA 4) (kC (kA 2) (kC (kA 5) kN))))) (kC (aD.var 1 29 (kC (kA 6) (kC (kA 7) (kC (kA 8) (kC (kA 9) kN))))) (kC (kR 2 43 ch) (kC (kR 3 65 cY) (kC (kR 4 153 aj) (kC (kR 5 3 bA) (kC (kR 6 65 cY) (kC (kR 7 153 aj) (kC (kR 8 43 ch) (kC (kR 9 3 bA) kN))))))))))) (fun p=>(p.1.2.2.2.1,p.1.2.2.2.2.1,(aG.mk p.2.2.2.2.1 p.2.2.2.2.2.1 p.2.2.2.1 p.2.2.2.2.2.2.1),(aG.mk p.2.2.2.2.2.2.2.1 p.2.2.2.2.2.2.2.2.1 (t8 p.2).1 (t8 p.2).2.1))) (fun (x:Int×Int×aG×aG)=>(((),((),((),(x.1,(x.2.1,()))))),(((),((),((),((),())))),(((),((),((),((),())))),(x.2.2.1.aK,(x.2.2.1.af,(x.2.2.1.free,(x.2.2.1.bB,(x.2.2.2.af,(x.2.2.2.free,(x.2.2.2.aK,(x.2.2.2.bB,())))))))))))) (fun _=>rfl)
def Kx:kT (aG×aG):=kO (kS 20 (kC (kP 0 0) (kC (kP 1 0) kN)) (kC (aD.var 0 29 (kC (kA 3) (kC (kA 4) (kC (kA 2) (kC (kA 5) kN))))) (kC (aD.var 1 29 (kC (kA 6) (kC (kA 7) (kC (kA 8) (kC (kA 9) kN))))) (kC (kR 2 43 ch) (kC (kR 3 65 cY) (kC (kR 4 153 aj) (kC (kR 5 3 bA) (kC (kR 6 65 cY) (kC (kR 7 153 aj) (kC (kR 8 43 ch) (kC (kR 9 3 bA) kN))))))))))) (fun p=>((aG.mk p.2.2.2.2.1 p.2.2.2.2.2.1 p.2.2.2.1 p.2.2.2.2.2.2.1),(aG.mk p.2.2.2.2.2.2.2.1 p.2.2.2.2.2.2.2.2.1 (t8 p.2).1 (t8 p.2).2.1))) (fun (x:aG×aG)=>(((),((),())),(((),((),((),((),())))),(((),((),((),((),())))),(x.1.aK,(x.1.af,(x.1.free,(x.1.bB,(x.2.af,(x.2.free,(x.2.aK,(x.2.bB,())))))))))))) (fun _=>rfl)
def Mt:aM TL:=aM.one Me.dec (fun p=>Pn p.1 p.2.1 p.2.2.1 p.2.2.2) (.exit 0) Kx.enc
theorem aDF:bM PR (bm Mt) UM Na (bV (bC xy.body) 3):=lA (cs:=[]) (ss:=[(41,tV)]) (E:=aX tab sl sh [] [(41,.sum)]) (an:=xy.an) (aY base aN (aC (eF rfl yz) aN)) B1 (by kernel_rfl) (sB rfl EC.keys (by kernel_rfl)) rfl (fun x y h=>⟨_,h⟩) (fun _=>rfl) fun _=>by kernel_rfl
def vZ (bx1:aG):Option aG :=
 cond (fits bx1.af.length)
 (cond (fits bx1.free.length)
 (cond (fits bx1.aK.length)
 (cond (fits bx1.bB.length)
 (ob (Pn (bx1.aK.length:Int) 0 bx1 (aG.mk [] [] [] [])) fun y0 =>
 some y0.1)
 none)
 none)
 none)
 none
def fX:aD (List (C TL)) aG:=kO (kC (kG cY) (kC (kG aj) (kC (kG ch) (kC (kG bA) kN)))) (fun p=>(aG.mk p.1 p.2.1 p.2.2.1 p.2.2.2.1)) (fun (x:aG)=>(x.af,(x.free,(x.aK,(x.bB,()))))) (fun _=>rfl)
def Gd:kT (aG):=kO (kS 0 (kC (aD.xs (aD.sa fX)) kN) kN) (fun p=>p.1.1) (fun (x:aG)=>((x,()),())) (fun _=>rfl)
def HT:kT (aG):=kO (kS 4 (kC (aD.xs (aD.sa (kC (kA 0) (kC (kA 1) (kC (kA 2) (kC (kA 3) kN)))))) kN) (kC (kR 0 65 cY) (kC (kR 1 153 aj) (kC (kR 2 43 ch) (kC (kR 3 3 bA) kN))))) (fun (_,z0,z1,z2,z3,_)=>(aG.mk z0 z1 z2 z3)) (fun (x:aG)=>((((),((),((),((),())))),()),(x.af,(x.free,(x.aK,(x.bB,())))))) (fun _=>rfl)
def YR (p:aG):Option aG:=vZ p
def Gv:aM TL:=aM.one Gd.dec YR .normal HT.enc
theorem YH:fL PR 77 Gv:=sM (cs:=[]) (ss:=[(177003,Mt)]) (E:=aX tab sl sh [(77,xy)] [(126,(.eB 65)),(92,(.eB 153)),(127,(.eB 43)),(93,(.eB 3))]) (aY base (aC (EC.ak rfl (aC (lC aDF rfl) aN)) aN) (aC (eQ OI) (aC (eQ wO) (aC (eQ N1) (aC (eQ wP) aN))))) EC.enters fun _=>by kernel_rfl
def I7 (l1:List Op)(i1:Int)(i2:Int):Option (((List Op)×Int×Int)⊕((List Op))) :=
 cond (decide (i2 < i1))
 (cond (decide (0≤i2))
 (cond (decide (i2 < (l1.length:Int)))
 (ob (l1[i2.toNat]?) fun e0 =>
 cond (fits e0.cz.length)
 (cond (decide (0≤i2))
 (cond (decide (i2 < (l1.length:Int)))
 (ob (l1[i2.toNat]?) fun e1 =>
 some (.inl ((l1.set i2.toNat (Op.mk e1.aP e1.bc e1.cW e1.kind e1.key e1.text e1.n e1.time e0.cz)),i1,(aF (i2+1)))))
 none)
 none)
 none)
 none)
 none)
 (some (.inr l1))
def BP (p:(List Op)×Int×Int):Option (((List Op)×Int×Int)⊕((List Op))):=I7 p.1 p.2.1 p.2.2
def Rc (l1:List Op)(i1:Int)(i2:Int):Option ((List Op)):=bZ BP ((i1 - i2).toNat+2) (l1,i1,i2)
def aDN:kT ((List Op)×Int×Int):=kO (kS 1 (kC (aD.xs (aD.sc (kA 0))) (kC (aD.xs (aD.sc (kA 0))) (kC kI (kC kI kN)))) (kC (kR 0 61 eH) kN)) (fun p=>(p.2.1,p.1.2.2.1,p.1.2.2.2.1)) (fun (x:(List Op)×Int×Int)=>(((),((),(x.2.1,(x.2.2,())))),(x.1,()))) (fun _=>rfl)
def aAo:kT ((List Op)):=kO (kS 2 (kC (aD.xs (aD.sc (kA 0))) kN) (kC (kR 0 61 eH) kN)) (fun p=>p.2.1) (fun (x:(List Op))=>(((),()),(x,()))) (fun _=>rfl)
def Ma:aM TL:=aM.one aDN.dec (fun p=>Rc p.1 p.2.1 p.2.2) (.exit 0) aAo.enc
theorem aD8:bM PR (bm Ma) T6 O0 (bV (bC yC.body) 3):=lA (cs:=[]) (ss:=[]) (E:=aX tab sl sh [] [(50,(.eB 59))]) (an:=yC.an) (aY base aN (aC (eQ Cm) aN)) BP (by kernel_rfl) (sB rfl E4.keys (by kernel_rfl)) rfl (fun x y h=>⟨_,h⟩) (fun _=>rfl) fun _=>by kernel_rfl
def vk (l1:List Op):Option ((List Op)) :=
 cond (fits l1.length)
 (ob (Rc l1 (l1.length:Int) 0) fun y0 =>
 some y0)
 none
def Zo:kT ((List Op)):=kO (kS 0 (kC (kF eH) kN) kN) (fun p=>p.1.1) (fun (x:(List Op))=>((x,()),())) (fun _=>rfl)
def Yx:kT ((List Op)):=kO (kS 1 (kC (aD.xs (aD.sc (kA 0))) kN) (kC (kR 0 61 eH) kN)) (fun p=>p.2.1) (fun (x:(List Op))=>(((),()),(x,()))) (fun _=>rfl)
def ZN (p:(List Op)):Option ((List Op)):=vk p
def JG:aM TL:=aM.one Zo.dec ZN .normal Yx.enc
theorem ZU:fL PR 78 JG:=sM (cs:=[]) (ss:=[(178003,Ma)]) (E:=aX tab sl sh [(78,yC)] [(51,(.eB 61))]) (aY base (aC (E4.ak rfl (aC (lC aD8 rfl) aN)) aN) (aC (eQ aFo) aN)) E4.enters fun _=>by kernel_rfl
def eJ (d1:aw):Option aw :=
 ob (vZ d1.book) fun y0 =>
 ob (vk d1.log) fun y1 =>
 cond (fits d1.lost.length)
 (cond (fits d1.aI.a0.v.length)
 (cond (fits d1.aI.a0.cB.length)
 (cond (fits d1.aI.a0.bp.length)
 (cond (fits d1.aI.a0.gone.length)
 (cond (fits d1.aI.a0.bJ.length)
 (cond (fits d1.aI.a0.binds.length)
 (cond (fits d1.aI.a1.v.length)
 (cond (fits d1.aI.a1.cB.length)
 (cond (fits d1.aI.a1.bp.length)
 (cond (fits d1.aI.a1.gone.length)
 (cond (fits d1.aI.a1.bJ.length)
 (cond (fits d1.aI.a1.binds.length)
 (cond (fits d1.aI.a2.v.length)
 (cond (fits d1.aI.a2.cB.length)
 (cond (fits d1.aI.a2.bp.length)
 (cond (fits d1.aI.a2.gone.length)
 (cond (fits d1.aI.a2.bJ.length)
 (cond (fits d1.aI.a2.binds.length)
 (ob (iA d1.dev.a0.aB.aE) fun y2 =>
 ob (iA d1.dev.a1.aB.aE) fun y3 =>
 ob (iA d1.dev.a2.aB.aE) fun y4 =>
 ob (iA d1.dev.a3.aB.aE) fun y5 =>
 ob (iA d1.dev.a4.aB.aE) fun y6 =>
 ob (iA d1.dev.a5.aB.aE) fun y7 =>
 some (aw.mk y0 d1.aI y1 (eP.mk (Device.mk d1.dev.a0.aA d1.dev.a0.aO (aU.mk d1.dev.a0.aB.err d1.dev.a0.aB.n y2)) (Device.mk d1.dev.a1.aA d1.dev.a1.aO (aU.mk d1.dev.a1.aB.err d1.dev.a1.aB.n y3)) (Device.mk d1.dev.a2.aA d1.dev.a2.aO (aU.mk d1.dev.a2.aB.err d1.dev.a2.aB.n y4)) (Device.mk d1.dev.a3.aA d1.dev.a3.aO (aU.mk d1.dev.a3.aB.err d1.dev.a3.aB.n y5)) (Device.mk d1.dev.a4.aA d1.dev.a4.aO (aU.mk d1.dev.a4.aB.err d1.dev.a4.aB.n y6)) (Device.mk d1.dev.a5.aA d1.dev.a5.aO (aU.mk d1.dev.a5.aB.err d1.dev.a5.aB.n y7))) d1.lost d1.now))
 none)
 none)
 none)
 none)
 none)
 none)
 none)
 none)
 none)
 none)
 none)
 none)
 none)
 none)
 none)
 none)
 none)
 none)
 none
def iy:aD (List (C TL)) aw:=kO (kC (kG cY) (kC (kG aj) (kC (kG ch) (kC (kG bA) (kC (kG bQ) (kC (kG dU) (kC (kG dE) (kC (kG bQ) (kC (kG dS) (kC (kG dQ) (kC (kG bQ) (kC (kG dU) (kC (kG dE) (kC (kG bQ) (kC (kG dS) (kC (kG dQ) (kC (kG bQ) (kC (kG dU) (kC (kG dE) (kC (kG bQ) (kC (kG dS) (kC (kG dQ) (kC (kG eH) (kC kJ (kC kJ (kC kJ (kC kJ (kC kJ (kC kJ (kC kJ (kC kJ (kC (kG cD) (kC (kG aj) (kC (kG bA) (kC kJ (kC kJ (kC kJ (kC kJ (kC kJ (kC kJ (kC kJ (kC kJ (kC (kG cD) (kC (kG aj) (kC (kG bA) (kC kJ (kC kJ (kC kJ (kC kJ (kC kJ (kC kJ (kC kJ (kC kJ (kC (kG cD) (kC (kG aj) (kC (kG bA) (kC kJ (kC kJ (kC kJ (kC kJ (kC kJ (kC kJ (kC kJ (kC kJ (kC (kG cD) (kC (kG aj) (kC (kG bA) (kC kJ (kC kJ (kC kJ (kC kJ (kC kJ (kC kJ (kC kJ (kC kJ (kC (kG cD) (kC (kG aj) (kC (kG bA) (kC kJ (kC kJ (kC kJ (kC kJ (kC kJ (kC kJ (kC kJ (kC kJ (kC (kG cD) (kC (kG aj) (kC (kG bA) (kC (kG bQ) (kC kJ kN))))))))))))))))))))))))))))))))))))))))))))))))))))))))))))))))))))))))))))))))))))))))))) (fun p=>(aw.mk (aG.mk p.1 p.2.1 p.2.2.1 p.2.2.2.1) (gQ.mk (ag.mk p.2.2.2.2.1 p.2.2.2.2.2.1 p.2.2.2.2.2.2.1 p.2.2.2.2.2.2.2.1 (t8 p).1 (t8 p).2.1) (ag.mk (t8 p).2.2.1 (t8 p).2.2.2.1 (t8 p).2.2.2.2.1 (t8 p).2.2.2.2.2.1 (t8 p).2.2.2.2.2.2.1 (t8 p).2.2.2.2.2.2.2.1) (ag.mk (t8 (t8 p)).1 (t8 (t8 p)).2.1 (t8 (t8 p)).2.2.1 (t8 (t8 p)).2.2.2.1 (t8 (t8 p)).2.2.2.2.1 (t8 (t8 p)).2.2.2.2.2.1)) (t8 (t8 p)).2.2.2.2.2.2.1 (eP.mk (Device.mk (t8 (t8 p)).2.2.2.2.2.2.2.1 (t8 (t8 (t8 p))).1 (aU.mk (t8 (t8 (t8 p))).2.1 (t8 (t8 (t8 p))).2.2.1 (aH.mk (t8 (t8 (t8 p))).2.2.2.1 (t8 (t8 (t8 p))).2.2.2.2.1 (t8 (t8 (t8 p))).2.2.2.2.2.1 (t8 (t8 (t8 p))).2.2.2.2.2.2.1 (t8 (t8 (t8 p))).2.2.2.2.2.2.2.1 (t32 p).1 (t32 p).2.1))) (Device.mk (t32 p).2.2.1 (t32 p).2.2.2.1 (aU.mk (t32 p).2.2.2.2.1 (t32 p).2.2.2.2.2.1 (aH.mk (t32 p).2.2.2.2.2.2.1 (t32 p).2.2.2.2.2.2.2.1 (t8 (t32 p)).1 (t8 (t32 p)).2.1 (t8 (t32 p)).2.2.1 (t8 (t32 p)).2.2.2.1 (t8 (t32 p)).2.2.2.2.1))) (Device.mk (t8 (t32 p)).2.2.2.2.2.1 (t8 (t32 p)).2.2.2.2.2.2.1 (aU.mk (t8 (t32 p)).2.2.2.2.2.2.2.1 (t8 (t8 (t32 p))).1 (aH.mk (t8 (t8 (t32 p))).2.1 (t8 (t8 (t32 p))).2.2.1 (t8 (t8 (t32 p))).2.2.2.1 (t8 (t8 (t32 p))).2.2.2.2.1 (t8 (t8 (t32 p))).2.2.2.2.2.1 (t8 (t8 (t32 p))).2.2.2.2.2.2.1 (t8 (t8 (t32 p))).2.2.2.2.2.2.2.1))) (Device.mk (t8 (t8 (t8 (t32 p)))).1 (t8 (t8 (t8 (t32 p)))).2.1 (aU.mk (t8 (t8 (t8 (t32 p)))).2.2.1 (t8 (t8 (t8 (t32 p)))).2.2.2.1 (aH.mk (t8 (t8 (t8 (t32 p)))).2.2.2.2.1 (t8 (t8 (t8 (t32 p)))).2.2.2.2.2.1 (t8 (t8 (t8 (t32 p)))).2.2.2.2.2.2.1 (t8 (t8 (t8 (t32 p)))).2.2.2.2.2.2.2.1 (t32 (t32 p)).1 (t32 (t32 p)).2.1 (t32 (t32 p)).2.2.1))) (Device.mk (t32 (t32 p)).2.2.2.1 (t32 (t32 p)).2.2.2.2.1 (aU.mk (t32 (t32 p)).2.2.2.2.2.1 (t32 (t32 p)).2.2.2.2.2.2.1 (aH.mk (t32 (t32 p)).2.2.2.2.2.2.2.1 (t8 (t32 (t32 p))).1 (t8 (t32 (t32 p))).2.1 (t8 (t32 (t32 p))).2.2.1 (t8 (t32 (t32 p))).2.2.2.1 (t8 (t32 (t32 p))).2.2.2.2.1 (t8 (t32 (t32 p))).2.2.2.2.2.1))) (Device.mk (t8 (t32 (t32 p))).2.2.2.2.2.2.1 (t8 (t32 (t32 p))).2.2.2.2.2.2.2.1 (aU.mk (t8 (t8 (t32 (t32 p)))).1 (t8 (t8 (t32 (t32 p)))).2.1 (aH.mk (t8 (t8 (t32 (t32 p)))).2.2.1 (t8 (t8 (t32 (t32 p)))).2.2.2.1 (t8 (t8 (t32 (t32 p)))).2.2.2.2.1 (t8 (t8 (t32 (t32 p)))).2.2.2.2.2.1 (t8 (t8 (t32 (t32 p)))).2.2.2.2.2.2.1 (t8 (t8 (t32 (t32 p)))).2.2.2.2.2.2.2.1 (t8 (t8 (t8 (t32 (t32 p))))).1)))) (t8 (t8 (t8 (t32 (t32 p))))).2.1 (t8 (t8 (t8 (t32 (t32 p))))).2.2.1)) (fun (x:aw)=>(x.book.af,(x.book.free,(x.book.aK,(x.book.bB,(x.aI.a0.v,(x.aI.a0.cB,(x.aI.a0.bp,(x.aI.a0.gone,(x.aI.a0.bJ,(x.aI.a0.binds,(x.aI.a1.v,(x.aI.a1.cB,(x.aI.a1.bp,(x.aI.a1.gone,(x.aI.a1.bJ,(x.aI.a1.binds,(x.aI.a2.v,(x.aI.a2.cB,(x.aI.a2.bp,(x.aI.a2.gone,(x.aI.a2.bJ,(x.aI.a2.binds,(x.log,(x.dev.a0.aA,(x.dev.a0.aO,(x.dev.a0.aB.err,(x.dev.a0.aB.n,(x.dev.a0.aB.aE.device,(x.dev.a0.aB.aE.aA,(x.dev.a0.aB.aE.bN,(x.dev.a0.aB.aE.last,(x.dev.a0.aB.aE.aW,(x.dev.a0.aB.aE.ids,(x.dev.a0.aB.aE.used,(x.dev.a1.aA,(x.dev.a1.aO,(x.dev.a1.aB.err,(x.dev.a1.aB.n,(x.dev.a1.aB.aE.device,(x.dev.a1.aB.aE.aA,(x.dev.a1.aB.aE.bN,(x.dev.a1.aB.aE.last,(x.dev.a1.aB.aE.aW,(x.dev.a1.aB.aE.ids,(x.dev.a1.aB.aE.used,(x.dev.a2.aA,(x.dev.a2.aO,(x.dev.a2.aB.err,(x.dev.a2.aB.n,(x.dev.a2.aB.aE.device,(x.dev.a2.aB.aE.aA,(x.dev.a2.aB.aE.bN,(x.dev.a2.aB.aE.last,(x.dev.a2.aB.aE.aW,(x.dev.a2.aB.aE.ids,(x.dev.a2.aB.aE.used,(x.dev.a3.aA,(x.dev.a3.aO,(x.dev.a3.aB.err,(x.dev.a3.aB.n,(x.dev.a3.aB.aE.device,(x.dev.a3.aB.aE.aA,(x.dev.a3.aB.aE.bN,(x.dev.a3.aB.aE.last,(x.dev.a3.aB.aE.aW,(x.dev.a3.aB.aE.ids,(x.dev.a3.aB.aE.used,(x.dev.a4.aA,(x.dev.a4.aO,(x.dev.a4.aB.err,(x.dev.a4.aB.n,(x.dev.a4.aB.aE.device,(x.dev.a4.aB.aE.aA,(x.dev.a4.aB.aE.bN,(x.dev.a4.aB.aE.last,(x.dev.a4.aB.aE.aW,(x.dev.a4.aB.aE.ids,(x.dev.a4.aB.aE.used,(x.dev.a5.aA,(x.dev.a5.aO,(x.dev.a5.aB.err,(x.dev.a5.aB.n,(x.dev.a5.aB.aE.device,(x.dev.a5.aB.aE.aA,(x.dev.a5.aB.aE.bN,(x.dev.a5.aB.aE.last,(x.dev.a5.aB.aE.aW,(x.dev.a5.aB.aE.ids,(x.dev.a5.aB.aE.used,(x.lost,(x.now,())))))))))))))))))))))))))))))))))))))))))))))))))))))))))))))))))))))))))))))))))))))))))))) (fun _=>rfl)
def Z9:kT (aw):=kO (kS 0 (kC (aD.xs (aD.sa iy)) kN) kN) (fun p=>p.1.1) (fun (x:aw)=>((x,()),())) (fun _=>rfl)
def ZL:kT (aw):=kO (kS 42 (kC (aD.xs (aD.sa (kC (kA 0) (kC (kA 1) (kC (kA 2) (kC (kA 3) (kC (kA 4) (kC (kA 5) (kC (kA 6) (kC (kA 7) (kC (kA 8) (kC (kA 9) (kC (kA 10) (kC (kA 11) (kC (kA 12) (kC (kA 13) (kC (kA 14) (kC (kA 15) (kC (kA 16) (kC (kA 17) (kC (kA 18) (kC (kA 19) (kC (kA 20) (kC (kA 21) (kC (kA 22) (kC kJ (kC kJ (kC kJ (kC kJ (kC kJ (kC kJ (kC kJ (kC kJ (kC (kA 23) (kC (kA 24) (kC (kA 25) (kC kJ (kC kJ (kC kJ (kC kJ (kC kJ (kC kJ (kC kJ (kC kJ (kC (kA 26) (kC (kA 27) (kC (kA 28) (kC kJ (kC kJ (kC kJ (kC kJ (kC kJ (kC kJ (kC kJ (kC kJ (kC (kA 29) (kC (kA 30) (kC (kA 31) (kC kJ (kC kJ (kC kJ (kC kJ (kC kJ (kC kJ (kC kJ (kC kJ (kC (kA 32) (kC (kA 33) (kC (kA 34) (kC kJ (kC kJ (kC kJ (kC kJ (kC kJ (kC kJ (kC kJ (kC kJ (kC (kA 35) (kC (kA 36) (kC (kA 37) (kC kJ (kC kJ (kC kJ (kC kJ (kC kJ (kC kJ (kC kJ (kC kJ (kC (kA 38) (kC (kA 39) (kC (kA 40) (kC (kA 41) (kC kJ kN))))))))))))))))))))))))))))))))))))))))))))))))))))))))))))))))))))))))))))))))))))))))))))) kN) (kC (kR 0 65 cY) (kC (kR 1 153 aj) (kC (kR 2 43 ch) (kC (kR 3 3 bA) (kC (kR 4 66 bQ) (kC (kR 5 142 dU) (kC (kR 6 145 dE) (kC (kR 7 59 bQ) (kC (kR 8 129 dS) (kC (kR 9 149 dQ) (kC (kR 10 66 bQ) (kC (kR 11 142 dU) (kC (kR 12 145 dE) (kC (kR 13 59 bQ) (kC (kR 14 129 dS) (kC (kR 15 149 dQ) (kC (kR 16 66 bQ) (kC (kR 17 142 dU) (kC (kR 18 145 dE) (kC (kR 19 59 bQ) (kC (kR 20 129 dS) (kC (kR 21 149 dQ) (kC (kR 22 61 eH) (kC (kR 23 133 cD) (kC (kR 24 153 aj) (kC (kR 25 3 bA) (kC (kR 26 133 cD) (kC (kR 27 153 aj) (kC (kR 28 3 bA) (kC (kR 29 133 cD) (kC (kR 30 153 aj) (kC (kR 31 3 bA) (kC (kR 32 133 cD) (kC (kR 33 153 aj) (kC (kR 34 3 bA) (kC (kR 35 133 cD) (kC (kR 36 153 aj) (kC (kR 37 3 bA) (kC (kR 38 133 cD) (kC (kR 39 153 aj) (kC (kR 40 3 bA) (kC (kR 41 66 bQ) kN))))))))))))))))))))))))))))))))))))))))))) (fun p=>(aw.mk (aG.mk p.2.1 p.2.2.1 p.2.2.2.1 p.2.2.2.2.1) (gQ.mk (ag.mk p.2.2.2.2.2.1 p.2.2.2.2.2.2.1 p.2.2.2.2.2.2.2.1 p.2.2.2.2.2.2.2.2.1 (t8 p.2).1 (t8 p.2).2.1) (ag.mk (t8 p.2).2.2.1 (t8 p.2).2.2.2.1 (t8 p.2).2.2.2.2.1 (t8 p.2).2.2.2.2.2.1 (t8 p.2).2.2.2.2.2.2.1 (t8 p.2).2.2.2.2.2.2.2.1) (ag.mk (t8 (t8 p.2)).1 (t8 (t8 p.2)).2.1 (t8 (t8 p.2)).2.2.1 (t8 (t8 p.2)).2.2.2.1 (t8 (t8 p.2)).2.2.2.2.1 (t8 (t8 p.2)).2.2.2.2.2.1)) (t8 (t8 p.2)).2.2.2.2.2.2.1 (eP.mk (Device.mk (t8 (t8 p.1.1)).2.2.2.2.2.2.2.1 (t8 (t8 (t8 p.1.1))).1 (aU.mk (t8 (t8 (t8 p.1.1))).2.1 (t8 (t8 (t8 p.1.1))).2.2.1 (aH.mk (t8 (t8 (t8 p.1.1))).2.2.2.1 (t8 (t8 (t8 p.1.1))).2.2.2.2.1 (t8 (t8 (t8 p.1.1))).2.2.2.2.2.1 (t8 (t8 (t8 p.1.1))).2.2.2.2.2.2.1 (t8 (t8 p.2)).2.2.2.2.2.2.2.1 (t8 (t8 (t8 p.2))).1 (t8 (t8 (t8 p.2))).2.1))) (Device.mk (t32 p.1.1).2.2.1 (t32 p.1.1).2.2.2.1 (aU.mk (t32 p.1.1).2.2.2.2.1 (t32 p.1.1).2.2.2.2.2.1 (aH.mk (t32 p.1.1).2.2.2.2.2.2.1 (t32 p.1.1).2.2.2.2.2.2.2.1 (t8 (t32 p.1.1)).1 (t8 (t32 p.1.1)).2.1 (t8 (t8 (t8 p.2))).2.2.1 (t8 (t8 (t8 p.2))).2.2.2.1 (t8 (t8 (t8 p.2))).2.2.2.2.1))) (Device.mk (t8 (t32 p.1.1)).2.2.2.2.2.1 (t8 (t32 p.1.1)).2.2.2.2.2.2.1 (aU.mk (t8 (t32 p.1.1)).2.2.2.2.2.2.2.1 (t8 (t8 (t32 p.1.1))).1 (aH.mk (t8 (t8 (t32 p.1.1))).2.1 (t8 (t8 (t32 p.1.1))).2.2.1 (t8 (t8 (t32 p.1.1))).2.2.2.1 (t8 (t8 (t32 p.1.1))).2.2.2.2.1 (t8 (t8 (t8 p.2))).2.2.2.2.2.1 (t8 (t8 (t8 p.2))).2.2.2.2.2.2.1 (t8 (t8 (t8 p.2))).2.2.2.2.2.2.2.1))) (Device.mk (t8 (t8 (t8 (t32 p.1.1)))).1 (t8 (t8 (t8 (t32 p.1.1)))).2.1 (aU.mk (t8 (t8 (t8 (t32 p.1.1)))).2.2.1 (t8 (t8 (t8 (t32 p.1.1)))).2.2.2.1 (aH.mk (t8 (t8 (t8 (t32 p.1.1)))).2.2.2.2.1 (t8 (t8 (t8 (t32 p.1.1)))).2.2.2.2.2.1 (t8 (t8 (t8 (t32 p.1.1)))).2.2.2.2.2.2.1 (t8 (t8 (t8 (t32 p.1.1)))).2.2.2.2.2.2.2.1 (t32 p.2).1 (t32 p.2).2.1 (t32 p.2).2.2.1))) (Device.mk (t32 (t32 p.1.1)).2.2.2.1 (t32 (t32 p.1.1)).2.2.2.2.1 (aU.mk (t32 (t32 p.1.1)).2.2.2.2.2.1 (t32 (t32 p.1.1)).2.2.2.2.2.2.1 (aH.mk (t32 (t32 p.1.1)).2.2.2.2.2.2.2.1 (t8 (t32 (t32 p.1.1))).1 (t8 (t32 (t32 p.1.1))).2.1 (t8 (t32 (t32 p.1.1))).2.2.1 (t32 p.2).2.2.2.1 (t32 p.2).2.2.2.2.1 (t32 p.2).2.2.2.2.2.1))) (Device.mk (t8 (t32 (t32 p.1.1))).2.2.2.2.2.2.1 (t8 (t32 (t32 p.1.1))).2.2.2.2.2.2.2.1 (aU.mk (t8 (t8 (t32 (t32 p.1.1)))).1 (t8 (t8 (t32 (t32 p.1.1)))).2.1 (aH.mk (t8 (t8 (t32 (t32 p.1.1)))).2.2.1 (t8 (t8 (t32 (t32 p.1.1)))).2.2.2.1 (t8 (t8 (t32 (t32 p.1.1)))).2.2.2.2.1 (t8 (t8 (t32 (t32 p.1.1)))).2.2.2.2.2.1 (t32 p.2).2.2.2.2.2.2.1 (t32 p.2).2.2.2.2.2.2.2.1 (t8 (t32 p.2)).1)))) (t8 (t32 p.2)).2.1 (t8 (t8 (t8 (t32 (t32 p.1.1))))).2.2.1)) (fun (x:aw)=>((((),((),((),((),((),((),((),((),((),((),((),((),((),((),((),((),((),((),((),((),((),((),((),(x.dev.a0.aA,(x.dev.a0.aO,(x.dev.a0.aB.err,(x.dev.a0.aB.n,(x.dev.a0.aB.aE.device,(x.dev.a0.aB.aE.aA,(x.dev.a0.aB.aE.bN,(x.dev.a0.aB.aE.last,((),((),((),(x.dev.a1.aA,(x.dev.a1.aO,(x.dev.a1.aB.err,(x.dev.a1.aB.n,(x.dev.a1.aB.aE.device,(x.dev.a1.aB.aE.aA,(x.dev.a1.aB.aE.bN,(x.dev.a1.aB.aE.last,((),((),((),(x.dev.a2.aA,(x.dev.a2.aO,(x.dev.a2.aB.err,(x.dev.a2.aB.n,(x.dev.a2.aB.aE.device,(x.dev.a2.aB.aE.aA,(x.dev.a2.aB.aE.bN,(x.dev.a2.aB.aE.last,((),((),((),(x.dev.a3.aA,(x.dev.a3.aO,(x.dev.a3.aB.err,(x.dev.a3.aB.n,(x.dev.a3.aB.aE.device,(x.dev.a3.aB.aE.aA,(x.dev.a3.aB.aE.bN,(x.dev.a3.aB.aE.last,((),((),((),(x.dev.a4.aA,(x.dev.a4.aO,(x.dev.a4.aB.err,(x.dev.a4.aB.n,(x.dev.a4.aB.aE.device,(x.dev.a4.aB.aE.aA,(x.dev.a4.aB.aE.bN,(x.dev.a4.aB.aE.last,((),((),((),(x.dev.a5.aA,(x.dev.a5.aO,(x.dev.a5.aB.err,(x.dev.a5.aB.n,(x.dev.a5.aB.aE.device,(x.dev.a5.aB.aE.aA,(x.dev.a5.aB.aE.bN,(x.dev.a5.aB.aE.last,((),((),((),((),(x.now,()))))))))))))))))))))))))))))))))))))))))))))))))))))))))))))))))))))))))))))))))))))))))))),()),(x.book.af,(x.book.free,(x.book.aK,(x.book.bB,(x.aI.a0.v,(x.aI.a0.cB,(x.aI.a0.bp,(x.aI.a0.gone,(x.aI.a0.bJ,(x.aI.a0.binds,(x.aI.a1.v,(x.aI.a1.cB,(x.aI.a1.bp,(x.aI.a1.gone,(x.aI.a1.bJ,(x.aI.a1.binds,(x.aI.a2.v,(x.aI.a2.cB,(x.aI.a2.bp,(x.aI.a2.gone,(x.aI.a2.bJ,(x.aI.a2.binds,(x.log,(x.dev.a0.aB.aE.aW,(x.dev.a0.aB.aE.ids,(x.dev.a0.aB.aE.used,(x.dev.a1.aB.aE.aW,(x.dev.a1.aB.aE.ids,(x.dev.a1.aB.aE.used,(x.dev.a2.aB.aE.aW,(x.dev.a2.aB.aE.ids,(x.dev.a2.aB.aE.used,(x.dev.a3.aB.aE.aW,(x.dev.a3.aB.aE.ids,(x.dev.a3.aB.aE.used,(x.dev.a4.aB.aE.aW,(x.dev.a4.aB.aE.ids,(x.dev.a4.aB.aE.used,(x.dev.a5.aB.aE.aW,(x.dev.a5.aB.aE.ids,(x.dev.a5.aB.aE.used,(x.lost,())))))))))))))))))))))))))))))))))))))))))))) (fun _=>rfl)
def ZK (p:aw):Option aw:=eJ p
def IT:aM TL:=aM.one Z9.dec ZK .normal ZL.enc
theorem ZP:fL PR 38 IT:=sM (cs:=[]) (ss:=[(77,Gv),(78,JG),(41,tV)]) (E:=aX tab sl sh [(38,UR)] [(77,.sum),(78,.sum),(79,(.eB 66)),(80,(.eB 142)),(81,(.eB 145)),(50,(.eB 59)),(82,(.eB 129)),(83,(.eB 149)),(41,.sum)]) (aY base (aC (Sr.ak rfl aN) aN) (aC (eF rfl YH) (aC (eF rfl ZU) (aC (eQ P4) (aC (eQ PB) (aC (eQ PG) (aC (eQ Cm) (aC (eQ Ou) (aC (eQ PY) (aC (eF rfl yz) aN)))))))))) Sr.enters fun _=>by kernel_rfl
def dx (i1:Int):Option aU :=
 some (aU.mk i1 0 (aH.mk 0 0 0 0 [] [] []))
def X6 (p:Int):Option aU:=dx p
def jm:aQ TL:=aQ.of (DA.one dI) X6 (DA.one (DT.agg LS))
theorem ki:be PR 39 .keep jm:=bx (cs:=[]) (ss:=[]) (E:=aX tab sl sh [(39,UQ)] []) (fun _=>by kernel_rfl) (aY base (aC (TV.ak rfl aN) aN) aN) (.inl rfl) TV.enters
def jo (l1:List aL)(i1:Int)(i2:Int):Option Bool :=
  cond (fits l1.length) (some (l1.any fun e=>e.device == i1 && e.aA == i2)) none
def XT (p:(List aL)×Int×Int):Option Bool:=jo p.1 p.2.1 p.2.2
def nS:aQ TL:=aQ.of (DA.cons (DT.one eu) (DA.cons dI (DA.one dI))) XT (DA.one dB)
theorem W9 {l:TL}{a:List aL}(h:l9 (.fz l)=some a):l=.eK a:=by
  cases l<;>simp only [l9,Option.some.injEq,reduceCtorEq] at h
  rw [h]
theorem Ie:∀ {a:List aL} {G:Fz} {xs:List Value},dG G (a.map jq).flatten xs→xs=kH (a.map fun e=>(e.device,e.aA,e.seq))
  | [],_,_,h=>by cases h;rfl
  | e::r,_,_,h=>by
    cases h with | cons h1 h=>cases h with | cons h2 h=>cases h with | cons h3 h =>
    cases h1;cases h2;cases h3
    rw [Ie h];rfl
theorem pE:be PR 129 (.rd 89 66) nS:=by
  refine ⟨enters_of Tryz.func129 (by kernel_rfl) (c:=ah Tryz.f129.body) rfl,by simp [io],?_⟩
  rintro l ys rs ⟨x,y,hx,hy,rfl⟩ G w k cells t sv xs vs hk hsv hc hlen hrep _ hys
  have hle:=(DA.cons (DT.one eu) (DA.cons dI (DA.one dI))).ok (.c (.im (.fz l))::ys) x hx
  obtain ⟨a,ha,hx⟩:=cm.1 hx
  cases W9 ha
  obtain ⟨b',hb',hx⟩:=cm.1 hx
  cases hx
  cases hle with
  | cons _ h2 =>
  have h3:=qG h2 hys
  obtain ⟨i1,i2⟩:=b'
  cases h3 with
  | cons v1 h3=>cases h3 with
  | cons v2 h3 =>
  cases h3;cases v1;cases v2
  obtain ⟨ad,cap,rfl,_,hcs⟩:=hc
  have hcell:w.cell? ⟨k,89,none⟩=some (.slice ad (LI.aJ (TL.eK a)).length cap):=by rw [ic hk];simpa using hsv
  have hln:(LI.aJ (TL.eK a)).length=a.length:=by simp [LI.aJ]
  rw [hln] at hcell hcs
  have hF:jo a i1 i2=some y:=hy
  unfold jo at hF
  cases hft:fits a.length with
  | false=>rw [hft] at hF;cases hF
  | true =>
  rw [hft,cond_true] at hF
  cases hF
  have hl:=of_decide_eq_true hft
  replace hrep:dG G (a.map jq).flatten xs:=hrep
  obtain rfl:=Ie hrep
  have hm:(a.map fun e=>(e.device,e.aA,e.seq)).length=a.length:=by simp
  refine Calls.mono (Yz w k ad cap (a.map fun e=>(e.device,e.aA,e.seq)) i1 i2 (by rw [hm];exact hcell) (by rw [hm];exact hl) (by rw [hm];exact hcs)) ?_
  rintro en w' ⟨rfl,hb'⟩
  refine ⟨_,rfl,?_,hb'⟩
  rw [List.any_map]
  exact .bool
def tQ (c1:bY):Option (aU×bY) :=
 cond (decide (0≤c1.c.device) && decide (c1.c.device < 6))
 (cond (decide ((cond (decide (c1.c.device=0)) c1.d.dev.a0.aA (cond (decide (c1.c.device=1)) c1.d.dev.a1.aA (cond (decide (c1.c.device=2)) c1.d.dev.a2.aA (cond (decide (c1.c.device=3)) c1.d.dev.a3.aA (cond (decide (c1.c.device=4)) c1.d.dev.a4.aA c1.d.dev.a5.aA))))) > 0))
 (ob (jo c1.d.lost c1.c.device (cond (decide (c1.c.device=0)) c1.d.dev.a0.aA (cond (decide (c1.c.device=1)) c1.d.dev.a1.aA (cond (decide (c1.c.device=2)) c1.d.dev.a2.aA (cond (decide (c1.c.device=3)) c1.d.dev.a3.aA (cond (decide (c1.c.device=4)) c1.d.dev.a4.aA c1.d.dev.a5.aA)))))) fun r0 =>
 cond (!r0)
 (ob (dx 7) fun r1 =>
 some (r1,c1))
 (cond (decide ((cond (decide (c1.c.device=0)) c1.d.dev.a0.aA (cond (decide (c1.c.device=1)) c1.d.dev.a1.aA (cond (decide (c1.c.device=2)) c1.d.dev.a2.aA (cond (decide (c1.c.device=3)) c1.d.dev.a3.aA (cond (decide (c1.c.device=4)) c1.d.dev.a4.aA c1.d.dev.a5.aA)))))≥1048576))
 (ob (dx 11) fun r2 =>
 some (r2,c1))
 (some ((aU.mk 0 (cond (decide (c1.c.device=0)) (cond (decide (c1.c.device=0)) (aF ((cond (decide (c1.c.device=0)) c1.d.dev.a0.aA (cond (decide (c1.c.device=1)) c1.d.dev.a1.aA (cond (decide (c1.c.device=2)) c1.d.dev.a2.aA (cond (decide (c1.c.device=3)) c1.d.dev.a3.aA (cond (decide (c1.c.device=4)) c1.d.dev.a4.aA c1.d.dev.a5.aA)))))+1)) c1.d.dev.a0.aA) (cond (decide (c1.c.device=1)) (cond (decide (c1.c.device=1)) (aF ((cond (decide (c1.c.device=0)) c1.d.dev.a0.aA (cond (decide (c1.c.device=1)) c1.d.dev.a1.aA (cond (decide (c1.c.device=2)) c1.d.dev.a2.aA (cond (decide (c1.c.device=3)) c1.d.dev.a3.aA (cond (decide (c1.c.device=4)) c1.d.dev.a4.aA c1.d.dev.a5.aA)))))+1)) c1.d.dev.a1.aA) (cond (decide (c1.c.device=2)) (cond (decide (c1.c.device=2)) (aF ((cond (decide (c1.c.device=0)) c1.d.dev.a0.aA (cond (decide (c1.c.device=1)) c1.d.dev.a1.aA (cond (decide (c1.c.device=2)) c1.d.dev.a2.aA (cond (decide (c1.c.device=3)) c1.d.dev.a3.aA (cond (decide (c1.c.device=4)) c1.d.dev.a4.aA c1.d.dev.a5.aA)))))+1)) c1.d.dev.a2.aA) (cond (decide (c1.c.device=3)) (cond (decide (c1.c.device=3)) (aF ((cond (decide (c1.c.device=0)) c1.d.dev.a0.aA (cond (decide (c1.c.device=1)) c1.d.dev.a1.aA (cond (decide (c1.c.device=2)) c1.d.dev.a2.aA (cond (decide (c1.c.device=3)) c1.d.dev.a3.aA (cond (decide (c1.c.device=4)) c1.d.dev.a4.aA c1.d.dev.a5.aA)))))+1)) c1.d.dev.a3.aA) (cond (decide (c1.c.device=4)) (cond (decide (c1.c.device=4)) (aF ((cond (decide (c1.c.device=0)) c1.d.dev.a0.aA (cond (decide (c1.c.device=1)) c1.d.dev.a1.aA (cond (decide (c1.c.device=2)) c1.d.dev.a2.aA (cond (decide (c1.c.device=3)) c1.d.dev.a3.aA (cond (decide (c1.c.device=4)) c1.d.dev.a4.aA c1.d.dev.a5.aA)))))+1)) c1.d.dev.a4.aA) (cond (decide (c1.c.device=5)) (aF ((cond (decide (c1.c.device=0)) c1.d.dev.a0.aA (cond (decide (c1.c.device=1)) c1.d.dev.a1.aA (cond (decide (c1.c.device=2)) c1.d.dev.a2.aA (cond (decide (c1.c.device=3)) c1.d.dev.a3.aA (cond (decide (c1.c.device=4)) c1.d.dev.a4.aA c1.d.dev.a5.aA)))))+1)) c1.d.dev.a5.aA)))))) (aH.mk 0 0 0 0 [] [] [])),(bY.mk (aw.mk c1.d.book c1.d.aI c1.d.log (eP.mk (Device.mk (cond (decide (c1.c.device=0)) (aF ((cond (decide (c1.c.device=0)) c1.d.dev.a0.aA (cond (decide (c1.c.device=1)) c1.d.dev.a1.aA (cond (decide (c1.c.device=2)) c1.d.dev.a2.aA (cond (decide (c1.c.device=3)) c1.d.dev.a3.aA (cond (decide (c1.c.device=4)) c1.d.dev.a4.aA c1.d.dev.a5.aA)))))+1)) c1.d.dev.a0.aA) c1.d.dev.a0.aO c1.d.dev.a0.aB) (Device.mk (cond (decide (c1.c.device=1)) (aF ((cond (decide (c1.c.device=0)) c1.d.dev.a0.aA (cond (decide (c1.c.device=1)) c1.d.dev.a1.aA (cond (decide (c1.c.device=2)) c1.d.dev.a2.aA (cond (decide (c1.c.device=3)) c1.d.dev.a3.aA (cond (decide (c1.c.device=4)) c1.d.dev.a4.aA c1.d.dev.a5.aA)))))+1)) c1.d.dev.a1.aA) c1.d.dev.a1.aO c1.d.dev.a1.aB) (Device.mk (cond (decide (c1.c.device=2)) (aF ((cond (decide (c1.c.device=0)) c1.d.dev.a0.aA (cond (decide (c1.c.device=1)) c1.d.dev.a1.aA (cond (decide (c1.c.device=2)) c1.d.dev.a2.aA (cond (decide (c1.c.device=3)) c1.d.dev.a3.aA (cond (decide (c1.c.device=4)) c1.d.dev.a4.aA c1.d.dev.a5.aA)))))+1)) c1.d.dev.a2.aA) c1.d.dev.a2.aO c1.d.dev.a2.aB) (Device.mk (cond (decide (c1.c.device=3)) (aF ((cond (decide (c1.c.device=0)) c1.d.dev.a0.aA (cond (decide (c1.c.device=1)) c1.d.dev.a1.aA (cond (decide (c1.c.device=2)) c1.d.dev.a2.aA (cond (decide (c1.c.device=3)) c1.d.dev.a3.aA (cond (decide (c1.c.device=4)) c1.d.dev.a4.aA c1.d.dev.a5.aA)))))+1)) c1.d.dev.a3.aA) c1.d.dev.a3.aO c1.d.dev.a3.aB) (Device.mk (cond (decide (c1.c.device=4)) (aF ((cond (decide (c1.c.device=0)) c1.d.dev.a0.aA (cond (decide (c1.c.device=1)) c1.d.dev.a1.aA (cond (decide (c1.c.device=2)) c1.d.dev.a2.aA (cond (decide (c1.c.device=3)) c1.d.dev.a3.aA (cond (decide (c1.c.device=4)) c1.d.dev.a4.aA c1.d.dev.a5.aA)))))+1)) c1.d.dev.a4.aA) c1.d.dev.a4.aO c1.d.dev.a4.aB) (Device.mk (cond (decide (c1.c.device=5)) (aF ((cond (decide (c1.c.device=0)) c1.d.dev.a0.aA (cond (decide (c1.c.device=1)) c1.d.dev.a1.aA (cond (decide (c1.c.device=2)) c1.d.dev.a2.aA (cond (decide (c1.c.device=3)) c1.d.dev.a3.aA (cond (decide (c1.c.device=4)) c1.d.dev.a4.aA c1.d.dev.a5.aA)))))+1)) c1.d.dev.a5.aA) c1.d.dev.a5.aO c1.d.dev.a5.aB)) c1.d.lost c1.d.now) c1.c)))))
 (cond (decide ((cond (decide (c1.c.device=0)) c1.d.dev.a0.aA (cond (decide (c1.c.device=1)) c1.d.dev.a1.aA (cond (decide (c1.c.device=2)) c1.d.dev.a2.aA (cond (decide (c1.c.device=3)) c1.d.dev.a3.aA (cond (decide (c1.c.device=4)) c1.d.dev.a4.aA c1.d.dev.a5.aA)))))≥1048576))
 (ob (dx 11) fun r3 =>
 some (r3,c1))
 (some ((aU.mk 0 (cond (decide (c1.c.device=0)) (cond (decide (c1.c.device=0)) (aF ((cond (decide (c1.c.device=0)) c1.d.dev.a0.aA (cond (decide (c1.c.device=1)) c1.d.dev.a1.aA (cond (decide (c1.c.device=2)) c1.d.dev.a2.aA (cond (decide (c1.c.device=3)) c1.d.dev.a3.aA (cond (decide (c1.c.device=4)) c1.d.dev.a4.aA c1.d.dev.a5.aA)))))+1)) c1.d.dev.a0.aA) (cond (decide (c1.c.device=1)) (cond (decide (c1.c.device=1)) (aF ((cond (decide (c1.c.device=0)) c1.d.dev.a0.aA (cond (decide (c1.c.device=1)) c1.d.dev.a1.aA (cond (decide (c1.c.device=2)) c1.d.dev.a2.aA (cond (decide (c1.c.device=3)) c1.d.dev.a3.aA (cond (decide (c1.c.device=4)) c1.d.dev.a4.aA c1.d.dev.a5.aA)))))+1)) c1.d.dev.a1.aA) (cond (decide (c1.c.device=2)) (cond (decide (c1.c.device=2)) (aF ((cond (decide (c1.c.device=0)) c1.d.dev.a0.aA (cond (decide (c1.c.device=1)) c1.d.dev.a1.aA (cond (decide (c1.c.device=2)) c1.d.dev.a2.aA (cond (decide (c1.c.device=3)) c1.d.dev.a3.aA (cond (decide (c1.c.device=4)) c1.d.dev.a4.aA c1.d.dev.a5.aA)))))+1)) c1.d.dev.a2.aA) (cond (decide (c1.c.device=3)) (cond (decide (c1.c.device=3)) (aF ((cond (decide (c1.c.device=0)) c1.d.dev.a0.aA (cond (decide (c1.c.device=1)) c1.d.dev.a1.aA (cond (decide (c1.c.device=2)) c1.d.dev.a2.aA (cond (decide (c1.c.device=3)) c1.d.dev.a3.aA (cond (decide (c1.c.device=4)) c1.d.dev.a4.aA c1.d.dev.a5.aA)))))+1)) c1.d.dev.a3.aA) (cond (decide (c1.c.device=4)) (cond (decide (c1.c.device=4)) (aF ((cond (decide (c1.c.device=0)) c1.d.dev.a0.aA (cond (decide (c1.c.device=1)) c1.d.dev.a1.aA (cond (decide (c1.c.device=2)) c1.d.dev.a2.aA (cond (decide (c1.c.device=3)) c1.d.dev.a3.aA (cond (decide (c1.c.device=4)) c1.d.dev.a4.aA c1.d.dev.a5.aA)))))+1)) c1.d.dev.a4.aA) (cond (decide (c1.c.device=5)) (aF ((cond (decide (c1.c.device=0)) c1.d.dev.a0.aA (cond (decide (c1.c.device=1)) c1.d.dev.a1.aA (cond (decide (c1.c.device=2)) c1.d.dev.a2.aA (cond (decide (c1.c.device=3)) c1.d.dev.a3.aA (cond (decide (c1.c.device=4)) c1.d.dev.a4.aA c1.d.dev.a5.aA)))))+1)) c1.d.dev.a5.aA)))))) (aH.mk 0 0 0 0 [] [] [])),(bY.mk (aw.mk c1.d.book c1.d.aI c1.d.log (eP.mk (Device.mk (cond (decide (c1.c.device=0)) (aF ((cond (decide (c1.c.device=0)) c1.d.dev.a0.aA (cond (decide (c1.c.device=1)) c1.d.dev.a1.aA (cond (decide (c1.c.device=2)) c1.d.dev.a2.aA (cond (decide (c1.c.device=3)) c1.d.dev.a3.aA (cond (decide (c1.c.device=4)) c1.d.dev.a4.aA c1.d.dev.a5.aA)))))+1)) c1.d.dev.a0.aA) c1.d.dev.a0.aO c1.d.dev.a0.aB) (Device.mk (cond (decide (c1.c.device=1)) (aF ((cond (decide (c1.c.device=0)) c1.d.dev.a0.aA (cond (decide (c1.c.device=1)) c1.d.dev.a1.aA (cond (decide (c1.c.device=2)) c1.d.dev.a2.aA (cond (decide (c1.c.device=3)) c1.d.dev.a3.aA (cond (decide (c1.c.device=4)) c1.d.dev.a4.aA c1.d.dev.a5.aA)))))+1)) c1.d.dev.a1.aA) c1.d.dev.a1.aO c1.d.dev.a1.aB) (Device.mk (cond (decide (c1.c.device=2)) (aF ((cond (decide (c1.c.device=0)) c1.d.dev.a0.aA (cond (decide (c1.c.device=1)) c1.d.dev.a1.aA (cond (decide (c1.c.device=2)) c1.d.dev.a2.aA (cond (decide (c1.c.device=3)) c1.d.dev.a3.aA (cond (decide (c1.c.device=4)) c1.d.dev.a4.aA c1.d.dev.a5.aA)))))+1)) c1.d.dev.a2.aA) c1.d.dev.a2.aO c1.d.dev.a2.aB) (Device.mk (cond (decide (c1.c.device=3)) (aF ((cond (decide (c1.c.device=0)) c1.d.dev.a0.aA (cond (decide (c1.c.device=1)) c1.d.dev.a1.aA (cond (decide (c1.c.device=2)) c1.d.dev.a2.aA (cond (decide (c1.c.device=3)) c1.d.dev.a3.aA (cond (decide (c1.c.device=4)) c1.d.dev.a4.aA c1.d.dev.a5.aA)))))+1)) c1.d.dev.a3.aA) c1.d.dev.a3.aO c1.d.dev.a3.aB) (Device.mk (cond (decide (c1.c.device=4)) (aF ((cond (decide (c1.c.device=0)) c1.d.dev.a0.aA (cond (decide (c1.c.device=1)) c1.d.dev.a1.aA (cond (decide (c1.c.device=2)) c1.d.dev.a2.aA (cond (decide (c1.c.device=3)) c1.d.dev.a3.aA (cond (decide (c1.c.device=4)) c1.d.dev.a4.aA c1.d.dev.a5.aA)))))+1)) c1.d.dev.a4.aA) c1.d.dev.a4.aO c1.d.dev.a4.aB) (Device.mk (cond (decide (c1.c.device=5)) (aF ((cond (decide (c1.c.device=0)) c1.d.dev.a0.aA (cond (decide (c1.c.device=1)) c1.d.dev.a1.aA (cond (decide (c1.c.device=2)) c1.d.dev.a2.aA (cond (decide (c1.c.device=3)) c1.d.dev.a3.aA (cond (decide (c1.c.device=4)) c1.d.dev.a4.aA c1.d.dev.a5.aA)))))+1)) c1.d.dev.a5.aA) c1.d.dev.a5.aO c1.d.dev.a5.aB)) c1.d.lost c1.d.now) c1.c)))))
 none
def K8:aD (List (Nat×En TL)) bY:=kO (kC (aD.var 0 100 (kC (kA 1) (kC (kA 2) (kC (kA 3) (kC (kA 4) (kC (kA 5) (kC (kA 6) (kC (kA 7) (kC (kA 8) (kC (kA 9) (kC (kA 10) (kC (kA 11) (kC (kA 12) (kC (kA 13) (kC (kA 14) (kC (kA 15) (kC (kA 16) (kC (kA 17) (kC (kA 18) (kC (kA 19) (kC (kA 20) (kC (kA 21) (kC (kA 22) (kC (kA 23) (kC kJ (kC kJ (kC kJ (kC kJ (kC kJ (kC kJ (kC kJ (kC kJ (kC (kA 24) (kC (kA 25) (kC (kA 26) (kC kJ (kC kJ (kC kJ (kC kJ (kC kJ (kC kJ (kC kJ (kC kJ (kC (kA 27) (kC (kA 28) (kC (kA 29) (kC kJ (kC kJ (kC kJ (kC kJ (kC kJ (kC kJ (kC kJ (kC kJ (kC (kA 30) (kC (kA 31) (kC (kA 32) (kC kJ (kC kJ (kC kJ (kC kJ (kC kJ (kC kJ (kC kJ (kC kJ (kC (kA 33) (kC (kA 34) (kC (kA 35) (kC kJ (kC kJ (kC kJ (kC kJ (kC kJ (kC kJ (kC kJ (kC kJ (kC (kA 36) (kC (kA 37) (kC (kA 38) (kC kJ (kC kJ (kC kJ (kC kJ (kC kJ (kC kJ (kC kJ (kC kJ (kC (kA 39) (kC (kA 40) (kC (kA 41) (kC (kA 42) (kC kJ (kC kJ (kC kJ (kC kJ (kC kJ (kC kJ (kC (kG gL) (kC (kG eH) kN))))))))))))))))))))))))))))))))))))))))))))))))))))))))))))))))))))))))))))))))))))))))))))))))))) (kC (kR 1 65 cY) (kC (kR 2 153 aj) (kC (kR 3 43 ch) (kC (kR 4 3 bA) (kC (kR 5 66 bQ) (kC (kR 6 142 dU) (kC (kR 7 145 dE) (kC (kR 8 59 bQ) (kC (kR 9 129 dS) (kC (kR 10 149 dQ) (kC (kR 11 66 bQ) (kC (kR 12 142 dU) (kC (kR 13 145 dE) (kC (kR 14 59 bQ) (kC (kR 15 129 dS) (kC (kR 16 149 dQ) (kC (kR 17 66 bQ) (kC (kR 18 142 dU) (kC (kR 19 145 dE) (kC (kR 20 59 bQ) (kC (kR 21 129 dS) (kC (kR 22 149 dQ) (kC (kR 23 61 eH) (kC (kR 24 133 cD) (kC (kR 25 153 aj) (kC (kR 26 3 bA) (kC (kR 27 133 cD) (kC (kR 28 153 aj) (kC (kR 29 3 bA) (kC (kR 30 133 cD) (kC (kR 31 153 aj) (kC (kR 32 3 bA) (kC (kR 33 133 cD) (kC (kR 34 153 aj) (kC (kR 35 3 bA) (kC (kR 36 133 cD) (kC (kR 37 153 aj) (kC (kR 38 3 bA) (kC (kR 39 133 cD) (kC (kR 40 153 aj) (kC (kR 41 3 bA) (kC (kR 42 66 bQ) kN))))))))))))))))))))))))))))))))))))))))))) (fun p=>(bY.mk (aw.mk (aG.mk p.2.1 p.2.2.1 p.2.2.2.1 p.2.2.2.2.1) (gQ.mk (ag.mk p.2.2.2.2.2.1 p.2.2.2.2.2.2.1 p.2.2.2.2.2.2.2.1 (t8 p).1 (t8 p).2.1 (t8 p).2.2.1) (ag.mk (t8 p).2.2.2.1 (t8 p).2.2.2.2.1 (t8 p).2.2.2.2.2.1 (t8 p).2.2.2.2.2.2.1 (t8 p).2.2.2.2.2.2.2.1 (t8 (t8 p)).1) (ag.mk (t8 (t8 p)).2.1 (t8 (t8 p)).2.2.1 (t8 (t8 p)).2.2.2.1 (t8 (t8 p)).2.2.2.2.1 (t8 (t8 p)).2.2.2.2.2.1 (t8 (t8 p)).2.2.2.2.2.2.1)) (t8 (t8 p)).2.2.2.2.2.2.2.1 (eP.mk (Device.mk (t8 (t8 p.1)).2.2.2.2.2.2.2.1 (t8 (t8 (t8 p.1))).1 (aU.mk (t8 (t8 (t8 p.1))).2.1 (t8 (t8 (t8 p.1))).2.2.1 (aH.mk (t8 (t8 (t8 p.1))).2.2.2.1 (t8 (t8 (t8 p.1))).2.2.2.2.1 (t8 (t8 (t8 p.1))).2.2.2.2.2.1 (t8 (t8 (t8 p.1))).2.2.2.2.2.2.1 (t8 (t8 (t8 p))).1 (t8 (t8 (t8 p))).2.1 (t8 (t8 (t8 p))).2.2.1))) (Device.mk (t32 p.1).2.2.1 (t32 p.1).2.2.2.1 (aU.mk (t32 p.1).2.2.2.2.1 (t32 p.1).2.2.2.2.2.1 (aH.mk (t32 p.1).2.2.2.2.2.2.1 (t32 p.1).2.2.2.2.2.2.2.1 (t8 (t32 p.1)).1 (t8 (t32 p.1)).2.1 (t8 (t8 (t8 p))).2.2.2.1 (t8 (t8 (t8 p))).2.2.2.2.1 (t8 (t8 (t8 p))).2.2.2.2.2.1))) (Device.mk (t8 (t32 p.1)).2.2.2.2.2.1 (t8 (t32 p.1)).2.2.2.2.2.2.1 (aU.mk (t8 (t32 p.1)).2.2.2.2.2.2.2.1 (t8 (t8 (t32 p.1))).1 (aH.mk (t8 (t8 (t32 p.1))).2.1 (t8 (t8 (t32 p.1))).2.2.1 (t8 (t8 (t32 p.1))).2.2.2.1 (t8 (t8 (t32 p.1))).2.2.2.2.1 (t8 (t8 (t8 p))).2.2.2.2.2.2.1 (t8 (t8 (t8 p))).2.2.2.2.2.2.2.1 (t32 p).1))) (Device.mk (t8 (t8 (t8 (t32 p.1)))).1 (t8 (t8 (t8 (t32 p.1)))).2.1 (aU.mk (t8 (t8 (t8 (t32 p.1)))).2.2.1 (t8 (t8 (t8 (t32 p.1)))).2.2.2.1 (aH.mk (t8 (t8 (t8 (t32 p.1)))).2.2.2.2.1 (t8 (t8 (t8 (t32 p.1)))).2.2.2.2.2.1 (t8 (t8 (t8 (t32 p.1)))).2.2.2.2.2.2.1 (t8 (t8 (t8 (t32 p.1)))).2.2.2.2.2.2.2.1 (t32 p).2.1 (t32 p).2.2.1 (t32 p).2.2.2.1))) (Device.mk (t32 (t32 p.1)).2.2.2.1 (t32 (t32 p.1)).2.2.2.2.1 (aU.mk (t32 (t32 p.1)).2.2.2.2.2.1 (t32 (t32 p.1)).2.2.2.2.2.2.1 (aH.mk (t32 (t32 p.1)).2.2.2.2.2.2.2.1 (t8 (t32 (t32 p.1))).1 (t8 (t32 (t32 p.1))).2.1 (t8 (t32 (t32 p.1))).2.2.1 (t32 p).2.2.2.2.1 (t32 p).2.2.2.2.2.1 (t32 p).2.2.2.2.2.2.1))) (Device.mk (t8 (t32 (t32 p.1))).2.2.2.2.2.2.1 (t8 (t32 (t32 p.1))).2.2.2.2.2.2.2.1 (aU.mk (t8 (t8 (t32 (t32 p.1)))).1 (t8 (t8 (t32 (t32 p.1)))).2.1 (aH.mk (t8 (t8 (t32 (t32 p.1)))).2.2.1 (t8 (t8 (t32 (t32 p.1)))).2.2.2.1 (t8 (t8 (t32 (t32 p.1)))).2.2.2.2.1 (t8 (t8 (t32 (t32 p.1)))).2.2.2.2.2.1 (t32 p).2.2.2.2.2.2.2.1 (t8 (t32 p)).1 (t8 (t32 p)).2.1)))) (t8 (t32 p)).2.2.1 (t8 (t8 (t8 (t32 (t32 p.1))))).2.2.1) (cH.mk (t8 (t8 (t8 (t32 (t32 p.1))))).2.2.2.1 (t8 (t8 (t8 (t32 (t32 p.1))))).2.2.2.2.1 (t8 (t8 (t8 (t32 (t32 p.1))))).2.2.2.2.2.1 (t8 (t8 (t8 (t32 (t32 p.1))))).2.2.2.2.2.2.1 (t8 (t8 (t8 (t32 (t32 p.1))))).2.2.2.2.2.2.2.1 (t32 (t32 (t32 p.1))).1 (t32 (t32 (t32 p.1))).2.1))) (fun (x:bY)=>(((),((),((),((),((),((),((),((),((),((),((),((),((),((),((),((),((),((),((),((),((),((),((),(x.d.dev.a0.aA,(x.d.dev.a0.aO,(x.d.dev.a0.aB.err,(x.d.dev.a0.aB.n,(x.d.dev.a0.aB.aE.device,(x.d.dev.a0.aB.aE.aA,(x.d.dev.a0.aB.aE.bN,(x.d.dev.a0.aB.aE.last,((),((),((),(x.d.dev.a1.aA,(x.d.dev.a1.aO,(x.d.dev.a1.aB.err,(x.d.dev.a1.aB.n,(x.d.dev.a1.aB.aE.device,(x.d.dev.a1.aB.aE.aA,(x.d.dev.a1.aB.aE.bN,(x.d.dev.a1.aB.aE.last,((),((),((),(x.d.dev.a2.aA,(x.d.dev.a2.aO,(x.d.dev.a2.aB.err,(x.d.dev.a2.aB.n,(x.d.dev.a2.aB.aE.device,(x.d.dev.a2.aB.aE.aA,(x.d.dev.a2.aB.aE.bN,(x.d.dev.a2.aB.aE.last,((),((),((),(x.d.dev.a3.aA,(x.d.dev.a3.aO,(x.d.dev.a3.aB.err,(x.d.dev.a3.aB.n,(x.d.dev.a3.aB.aE.device,(x.d.dev.a3.aB.aE.aA,(x.d.dev.a3.aB.aE.bN,(x.d.dev.a3.aB.aE.last,((),((),((),(x.d.dev.a4.aA,(x.d.dev.a4.aO,(x.d.dev.a4.aB.err,(x.d.dev.a4.aB.n,(x.d.dev.a4.aB.aE.device,(x.d.dev.a4.aB.aE.aA,(x.d.dev.a4.aB.aE.bN,(x.d.dev.a4.aB.aE.last,((),((),((),(x.d.dev.a5.aA,(x.d.dev.a5.aO,(x.d.dev.a5.aB.err,(x.d.dev.a5.aB.n,(x.d.dev.a5.aB.aE.device,(x.d.dev.a5.aB.aE.aA,(x.d.dev.a5.aB.aE.bN,(x.d.dev.a5.aB.aE.last,((),((),((),((),(x.d.now,(x.c.kind,(x.c.device,(x.c.aA,(x.c.aO,(x.c.n,(x.c.cj,(x.c.ops,())))))))))))))))))))))))))))))))))))))))))))))))))))))))))))))))))))))))))))))))))))))))))))))))))),(x.d.book.af,(x.d.book.free,(x.d.book.aK,(x.d.book.bB,(x.d.aI.a0.v,(x.d.aI.a0.cB,(x.d.aI.a0.bp,(x.d.aI.a0.gone,(x.d.aI.a0.bJ,(x.d.aI.a0.binds,(x.d.aI.a1.v,(x.d.aI.a1.cB,(x.d.aI.a1.bp,(x.d.aI.a1.gone,(x.d.aI.a1.bJ,(x.d.aI.a1.binds,(x.d.aI.a2.v,(x.d.aI.a2.cB,(x.d.aI.a2.bp,(x.d.aI.a2.gone,(x.d.aI.a2.bJ,(x.d.aI.a2.binds,(x.d.log,(x.d.dev.a0.aB.aE.aW,(x.d.dev.a0.aB.aE.ids,(x.d.dev.a0.aB.aE.used,(x.d.dev.a1.aB.aE.aW,(x.d.dev.a1.aB.aE.ids,(x.d.dev.a1.aB.aE.used,(x.d.dev.a2.aB.aE.aW,(x.d.dev.a2.aB.aE.ids,(x.d.dev.a2.aB.aE.used,(x.d.dev.a3.aB.aE.aW,(x.d.dev.a3.aB.aE.ids,(x.d.dev.a3.aB.aE.used,(x.d.dev.a4.aB.aE.aW,(x.d.dev.a4.aB.aE.ids,(x.d.dev.a4.aB.aE.used,(x.d.dev.a5.aB.aE.aW,(x.d.dev.a5.aB.aE.ids,(x.d.dev.a5.aB.aE.used,(x.d.lost,())))))))))))))))))))))))))))))))))))))))))))) (fun _=>rfl)
def lV:kT (bY):=kO (kS 43 (kC (kP 0 0) kN) K8) (fun p=>p.2) (fun (x:bY)=>(((),()),x)) (fun _=>rfl)
def vQ:aD (List (C TL)) aU:=kO (kC kJ (kC kJ (kC kJ (kC kJ (kC kJ (kC kJ (kC (kG cD) (kC (kG aj) (kC (kG bA) kN))))))))) (fun p=>(aU.mk p.1 p.2.1 (aH.mk p.2.2.1 p.2.2.2.1 p.2.2.2.2.1 p.2.2.2.2.2.1 p.2.2.2.2.2.2.1 p.2.2.2.2.2.2.2.1 (t8 p).1))) (fun (x:aU)=>(x.err,(x.n,(x.aE.device,(x.aE.aA,(x.aE.bN,(x.aE.last,(x.aE.aW,(x.aE.ids,(x.aE.used,())))))))))) (fun _=>rfl)
def Ej:kT (aU×bY):=kO (kS 86 (kC (aD.xs (aD.sa vQ)) kN) K8) (fun p=>(p.1.1,p.2)) (fun (x:aU×bY)=>((x.1,()),x.2)) (fun _=>rfl)
def Uy (p:bY):Option (aU×bY):=tQ p
def Ei:aM TL:=aM.one lV.dec Uy .normal Ej.enc
theorem Uz:fL PR 84 Ei:=sM (cs:=[(129,nS),(39,jm)]) (ss:=[]) (E:=aX tab sl sh [(84,T8),(128,my)] [(129,(.rd 89 66)),(39,.keep)]) (aY base (aC (To.ak rfl aN) (aC (oV.ak rfl aN) aN)) (aC (oD pE rfl) (aC (oD ki rfl) aN))) To.enters fun _=>by kernel_rfl
def ib (i1:Int)(i2:Int)(i3:Int):Option Bool :=
 some (cond (decide (i1≥i2)) (decide (i1≤i3)) false)
def VB (p:Int×Int×Int):Option Bool:=ib p.1 p.2.1 p.2.2
def nK:aQ TL:=aQ.of (DA.cons dI (DA.cons dI (DA.one dI))) VB (DA.one dB)
theorem oy:be PR 122 .pure nK:=bx (cs:=[]) (ss:=[]) (E:=aX tab sl sh [(122,Ph)] []) (fun _=>by kernel_rfl) (aY base (aC (R4.ak rfl aN) aN) aN) (.inr rfl) R4.enters
def gJ (lx1:aH):Option aH :=
 cond (fits lx1.aW.length)
 (cond (fits lx1.ids.length)
 (cond (fits lx1.used.length)
 (some lx1)
 none)
 none)
 none
def V7 (p:aH):Option aH:=gJ p
def nN:aM TL:=aM.one zC.dec V7 .normal zH.enc
theorem pB:fL PR 151 nN:=sM (cs:=[]) (ss:=[]) (E:=aX tab sl sh [(151,RZ)] [(91,(.eB 133)),(92,(.eB 153)),(93,(.eB 3))]) (aY base (aC (QA.ak rfl aN) aN) (aC (eQ PD) (aC (eQ wO) (aC (eQ wP) aN)))) QA.enters fun _=>by kernel_rfl
def Xt (i1:Int)(i2:Int)(bx1:aG)(bx2:aG):Option ((Int×Int×aG×aG)⊕(aG×aG)) :=
 cond (decide (i2 < i1))
 (cond (decide (0≤i2))
 (cond (decide (i2 < (bx1.aK.length:Int)))
 (ob (bx1.aK[i2.toNat]?) fun e0 =>
 ob (gJ e0) fun y1 =>
 cond (decide (0≤i2))
 (cond (decide (i2 < (bx1.aK.length:Int)))
 (ob (bx1.aK[i2.toNat]?) fun _ =>
 some (.inl (i1,(aF (i2+1)),(aG.mk bx1.af bx1.free (bx1.aK.set i2.toNat y1) bx1.bB),bx2)))
 none)
 none)
 none)
 none)
 (some (.inr (bx1,bx2)))
def ID (p:Int×Int×aG×aG):Option ((Int×Int×aG×aG)⊕(aG×aG)):=Xt p.1 p.2.1 p.2.2.1 p.2.2.2
def PH (i1:Int)(i2:Int)(bx1:aG)(bx2:aG):Option (aG×aG):=bZ ID ((i1 - i2).toNat+2) (i1,i2,bx1,bx2)
def KI:aM TL:=aM.one Me.dec (fun p=>PH p.1 p.2.1 p.2.2.1 p.2.2.2) (.exit 0) Kx.enc
theorem aBK:bM PR (bm KI) Rf Lf (bV (bC wi.body) 3):=lA (cs:=[]) (ss:=[(151,nN)]) (E:=aX tab sl sh [] [(151,.sum)]) (an:=wi.an) (aY base aN (aC (eF rfl pB) aN)) ID (by kernel_rfl) (sB rfl Dm.keys (by kernel_rfl)) rfl (fun x y h=>⟨_,h⟩) (fun _=>rfl) fun _=>by kernel_rfl
def gE (bx1:aG):Option aG :=
 cond (fits bx1.af.length)
 (cond (fits bx1.free.length)
 (cond (fits bx1.aK.length)
 (cond (fits bx1.bB.length)
 (ob (PH (bx1.aK.length:Int) 0 bx1 (aG.mk [] [] [] [])) fun y0 =>
 some y0.1)
 none)
 none)
 none)
 none
def XB (p:aG):Option aG:=gE p
def nR:aM TL:=aM.one Gd.dec XB .normal HT.enc
theorem pD:fL PR 124 nR:=sM (cs:=[]) (ss:=[(224003,KI)]) (E:=aX tab sl sh [(124,wi)] [(126,(.eB 65)),(92,(.eB 153)),(127,(.eB 43)),(93,(.eB 3))]) (aY base (aC (Dm.ak rfl (aC (lC aBK rfl) aN)) aN) (aC (eQ OI) (aC (eQ wO) (aC (eQ N1) (aC (eQ wP) aN))))) Dm.enters fun _=>by kernel_rfl
abbrev sf:=(List bP)×Int×Int×Int×ByteArray
def H2 (l1:List bP)(i1:Int)(i2:Int)(i3:Int)(s1:ByteArray):Option ((sf)⊕(((Int×ByteArray)⊕(Int×ByteArray)))) :=
 cond (decide (i3 < i2))
 (cond (decide (0≤i3))
 (ob (l1[i3.toNat]?) fun e0 =>
 cond (cA e0.key s1)
 (some (.inr (.inr (i3,s1))))
 (some (.inl (l1,i1,i2,(aF (i3+1)),s1))))
 none)
 (some (.inr (.inl (i1,s1))))
def AI (p:sf):Option ((sf)⊕(((Int×ByteArray)⊕(Int×ByteArray)))):=H2 p.1 p.2.1 p.2.2.1 p.2.2.2.1 p.2.2.2.2
def PN (l1:List bP)(i1:Int)(i2:Int)(i3:Int)(s1:ByteArray):Option (((Int×ByteArray)⊕(Int×ByteArray))):=bZ AI ((i2 - i3).toNat+2) (l1,i1,i2,i3,s1)
def aAp:kT (sf):=kO (kS 1 (kC (kF cY) (kC (aD.xs (aD.sc (aD.dY 149 [] [(0,0)]))) (kC kI (kC kI (kC kI kN))))) (kC (aD.var 0 9 (kC kE kN)) kN)) (fun p=>(p.1.1,p.1.2.2.1,p.1.2.2.2.1,p.1.2.2.2.2.1,p.2.1.1)) (fun (x:sf)=>((x.1,((),(x.2.1,(x.2.2.1,(x.2.2.2.1,()))))),((x.2.2.2.2,()),()))) (fun _=>rfl)
def IN:kT (Int×ByteArray):=kO (kS 2 (kC kI kN) (kC (aD.var 0 9 (kC kE kN)) kN)) (fun p=>(p.1.1,p.2.1.1)) (fun (x:Int×ByteArray)=>((x.1,()),((x.2,()),()))) (fun _=>rfl)
def Kf:aM TL:=aM.two aAp.dec (fun p=>PN p.1 p.2.1 p.2.2.1 p.2.2.2.1 p.2.2.2.2) (.exit 0) .ret IN.enc IN.enc
theorem aAC:bM PR (bm Kf) Ro Lg (bV (bC xj.body) 2):=lB (cs:=[]) (ss:=[]) (E:=aX tab sl sh [(149,Pf)] []) (an:=xj.an) (aY base (aC (aJ6.ak rfl aN) aN) aN) AI (by kernel_rfl) (sB rfl SA.keys (by kernel_rfl)) rfl rfl (fun x y h=>⟨_,h⟩) (fun _=>rfl) fun _=>by kernel_rfl
def nP (bx1:aG)(s1:ByteArray):Option Int :=
 ob (PN bx1.af 0 (bx1.af.length:Int) 0 s1) fun y0 =>
 two y0 (fun _ =>
 some (-1)) (fun b2 =>
 some b2.1)
def Up (p:aG×ByteArray):Option Int:=nP p.1 p.2
def tF:aQ TL:=aQ.of (DA.cons (DT.agg fq) (DA.one (DT.one DI.str))) Up (DA.one dI)
theorem yb:be PR 121 .pure tF:=bx (cs:=[]) (ss:=[(248002,Kf)]) (E:=aX tab sl sh [(121,Rl),(148,xj)] []) (fun _=>by kernel_rfl) (aY base (aC (Pd.ak rfl aN) (aC (SA.ak rfl (aC (lC aAC rfl) aN)) aN)) aN) (.inr rfl) Pd.enters
abbrev sg:=Int×(List Range)×Int×Int
def Ha (i1:Int)(l1:List Range)(i2:Int)(i3:Int):Option ((sg)⊕(Int)) :=
 cond (decide (i3 < i2))
 (cond (decide (0≤i3))
 (ob (l1[i3.toNat]?) fun e0 =>
 some (.inl ((aF (i1+(aF (e0.bU - e0.from_)))),l1,i2,(aF (i3+1)))))
 none)
 (some (.inr i1))
def AC (p:sg):Option ((sg)⊕(Int)):=Ha p.1 p.2.1 p.2.2.1 p.2.2.2
def Og (i1:Int)(l1:List Range)(i2:Int)(i3:Int):Option Int:=bZ AC ((i2 - i3).toNat+2) (i1,l1,i2,i3)
def aAq:kT (sg):=kO (kS 0 (kC kI (kC (kF aj) (kC kI (kC kI kN)))) kN) (fun ((z0,z1,z2,z3,_),_)=>(z0,z1,z2,z3)) (fun (x:sg)=>((x.1,(x.2.1,(x.2.2.1,(x.2.2.2,())))),())) (fun _=>rfl)
def uX:kT (Int):=kO (kS 0 (kC kI kN) kN) (fun p=>p.1.1) (fun (x:Int)=>((x,()),())) (fun _=>rfl)
def Kh:aM TL:=aM.one aAq.dec (fun p=>Og p.1 p.2.1 p.2.2.1 p.2.2.2) (.exit 0) uX.enc
theorem aBq:bM PR (bm Kh) Rm MG (bV (bC xL.body) 3):=lA (cs:=[]) (ss:=[]) (E:=aX tab sl sh [] []) (an:=xL.an) (aY base aN aN) AC (by kernel_rfl) (sB rfl De.keys (by kernel_rfl)) rfl (fun x y h=>⟨_,h⟩) (fun _=>rfl) fun _=>by kernel_rfl
def uk (l1:List Range):Option Int :=
 ob (Og 0 l1 (l1.length:Int) 0) fun y0 =>
 some y0
def W5 (p:(List Range)):Option Int:=uk p
def GX:aQ TL:=aQ.of (DA.one (DT.one ev)) W5 (DA.one dI)
theorem XR:be PR 205 .pure GX:=bx (cs:=[]) (ss:=[(305003,Kh)]) (E:=aX tab sl sh [(205,xL)] []) (fun _=>by kernel_rfl) (aY base (aC (De.ak rfl (aC (lC aBq rfl) aN)) aN) aN) (.inr rfl) De.enters
def lc (l1:List Range):Option ((List Range)) :=
 cond (decide (0≤(l1.length:Int)))
 (cond (fits (((l1.length:Int)).toNat))
 (some ((l1.take (Nat.min l1.length ((List.replicate (((l1.length:Int)).toNat) (Range.mk 0 0)).length)))++(((List.replicate (((l1.length:Int)).toNat) (Range.mk 0 0)).take ((List.replicate (((l1.length:Int)).toNat) (Range.mk 0 0)).length)).drop (Nat.min l1.length ((List.replicate (((l1.length:Int)).toNat) (Range.mk 0 0)).length)))))
 none)
 none
def Wz:kT ((List Range)):=kO (kS 0 (kC (kF aj) kN) kN) (fun p=>p.1.1) (fun (x:(List Range))=>((x,()),())) (fun _=>rfl)
def Wl:kT ((List Range)):=kO (kS 1 (kC (aD.xs (aD.sc (kA 0))) kN) (kC (kR 0 153 aj) kN)) (fun p=>p.2.1) (fun (x:(List Range))=>(((),()),(x,()))) (fun _=>rfl)
def X9 (p:(List Range)):Option ((List Range)):=lc p
def tX:aM TL:=aM.one Wz.dec X9 .normal Wl.enc
theorem yv:fL PR 150 tX:=sM (cs:=[]) (ss:=[]) (E:=aX tab sl sh [(150,Pq)] []) (aY base (aC (R9.ak rfl aN) aN) aN) R9.enters fun _=>by kernel_rfl
abbrev sd:=Int×(List Range)×(List Range)×(List Range)×Int×Int
def G8 (i1:Int)(l1:List Range)(l2:List Range)(l3:List Range)(i2:Int)(i3:Int):Option ((sd)⊕((List Range)×(List Range))) :=
 cond (decide (i3 < i2))
 (cond (decide (0≤i3))
 (ob (l3[i3.toNat]?) fun e0 =>
 cond (decide ((min2 i1 (aF (e0.bU - e0.from_))) > 0))
 (cond (fits ((l1++[(Range.mk e0.from_ (aF (e0.from_+(min2 i1 (aF (e0.bU - e0.from_))))))]).length))
 (cond (decide ((aF (e0.from_+(min2 i1 (aF (e0.bU - e0.from_))))) < e0.bU))
 (cond (fits ((l2++[(Range.mk (aF (e0.from_+(min2 i1 (aF (e0.bU - e0.from_))))) e0.bU)]).length))
 (some (.inl ((aF (i1 - (min2 i1 (aF (e0.bU - e0.from_))))),(l1++[(Range.mk e0.from_ (aF (e0.from_+(min2 i1 (aF (e0.bU - e0.from_))))))]),(l2++[(Range.mk (aF (e0.from_+(min2 i1 (aF (e0.bU - e0.from_))))) e0.bU)]),l3,i2,(aF (i3+1)))))
 none)
 (some (.inl ((aF (i1 - (min2 i1 (aF (e0.bU - e0.from_))))),(l1++[(Range.mk e0.from_ (aF (e0.from_+(min2 i1 (aF (e0.bU - e0.from_))))))]),l2,l3,i2,(aF (i3+1))))))
 none)
 (cond (decide ((aF (e0.from_+(min2 i1 (aF (e0.bU - e0.from_))))) < e0.bU))
 (cond (fits ((l2++[(Range.mk (aF (e0.from_+(min2 i1 (aF (e0.bU - e0.from_))))) e0.bU)]).length))
 (some (.inl ((aF (i1 - (min2 i1 (aF (e0.bU - e0.from_))))),l1,(l2++[(Range.mk (aF (e0.from_+(min2 i1 (aF (e0.bU - e0.from_))))) e0.bU)]),l3,i2,(aF (i3+1)))))
 none)
 (some (.inl ((aF (i1 - (min2 i1 (aF (e0.bU - e0.from_))))),l1,l2,l3,i2,(aF (i3+1)))))))
 none)
 (some (.inr (l1,l2)))
def AL (p:sd):Option ((sd)⊕((List Range)×(List Range))):=G8 p.1 p.2.1 p.2.2.1 p.2.2.2.1 p.2.2.2.2.1 p.2.2.2.2.2
def P3 (i1:Int)(l1:List Range)(l2:List Range)(l3:List Range)(i2:Int)(i3:Int):Option ((List Range)×(List Range)):=bZ AL ((i2 - i3).toNat+2) (i1,l1,l2,l3,i2,i3)
def aA7:kT (sd):=kO (kS 2 (kC kI (kC (aD.xs (aD.sc (kA 0))) (kC (aD.xs (aD.sc (kA 1))) (kC (kF aj) (kC kI (kC kI kN)))))) (kC (kR 0 153 aj) (kC (kR 1 153 aj) kN))) (fun ((z0,_,_,z1,z2,z3,_),z4,z5,_)=>(z0,z4,z5,z1,z2,z3)) (fun (x:sd)=>((x.1,((),((),(x.2.2.2.1,(x.2.2.2.2.1,(x.2.2.2.2.2,())))))),(x.2.1,(x.2.2.1,())))) (fun _=>rfl)
def Zj:kT ((List Range)×(List Range)):=kO (kS 4 (kC (aD.xs (aD.sc (kA 2))) (kC (aD.xs (aD.sc (kA 3))) kN)) (kC (kR 2 153 aj) (kC (kR 3 153 aj) kN))) (fun p=>(p.2.1,p.2.2.1)) (fun (x:(List Range)×(List Range))=>(((),((),())),(x.1,(x.2,())))) (fun _=>rfl)
def J0:aM TL:=aM.one aA7.dec (fun p=>P3 p.1 p.2.1 p.2.2.1 p.2.2.2.1 p.2.2.2.2.1 p.2.2.2.2.2) (.exit 1) Zj.enc
theorem aA5:bM PR (bm J0) Qz LH (bV (bC xS.body) 6):=lA (cs:=[]) (ss:=[]) (E:=aX tab sl sh [] []) (an:=xS.an) (aY base aN aN) AL (by kernel_rfl) (sB rfl Dg.keys (by kernel_rfl)) rfl (fun x y h=>⟨_,h⟩) (fun _=>rfl) fun _=>by kernel_rfl
def pQ (l1:List Range)(i1:Int):Option ((List Range)×(List Range)×Int) :=
 cond (decide (i1 < 0))
 (some ([],[],1))
 (ob (uk l1) fun r0 =>
 cond (decide (i1 > r0))
 (some ([],[],14))
 (ob (P3 i1 [] [] l1 (l1.length:Int) 0) fun y1 =>
 ob (lc y1.1) fun y2 =>
 ob (lc y1.2) fun y3 =>
 some (y2,y3,0)))
def WL (p:(List Range)×Int):Option ((List Range)×(List Range)×Int):=pQ p.1 p.2
def F2:aQ TL:=aQ.of (DA.cons (DT.one ev) (DA.one dI)) WL (DA.cons (DT.one ev) (DA.cons (DT.one ev) (DA.one dI)))
theorem Ve:be PR 179 .keep F2:=bx (cs:=[(205,GX)]) (ss:=[(150,tX),(279006,J0)]) (E:=aX tab sl sh [(179,xS)] [(205,.pure),(150,.sum)]) (fun _=>by kernel_rfl) (aY base (aC (Dg.ak rfl (aC (lC aA5 rfl) aN)) aN) (aC (oD XR rfl) (aC (eF rfl yv) aN))) (.inl rfl) Dg.enters
abbrev gk:=(List Range)×(List Range)×Int×Range
def HU (l1:List Range)(l2:List Range)(i1:Int)(rx1:Range):Option ((gk)⊕(gk)) :=
 cond (decide (i1 < (l1.length:Int)))
 (cond (decide (0≤i1))
 (ob (l1[i1.toNat]?) fun e0 =>
 cond (decide (e0.bU < rx1.from_))
 (cond (decide (0≤i1))
 (ob (l1[i1.toNat]?) fun e1 =>
 cond (fits ((l2++[e1]).length))
 (some (.inl (l1,(l2++[e1]),(aF (i1+1)),rx1)))
 none)
 none)
 (some (.inr (l1,l2,i1,rx1))))
 none)
 (some (.inr (l1,l2,i1,rx1)))
def Al (p:gk):Option ((gk)⊕(gk)):=HU p.1 p.2.1 p.2.2.1 p.2.2.2
def Oy (l1:List Range)(l2:List Range)(i1:Int)(rx1:Range):Option gk:=bZ Al (((l1.length:Int) - i1).toNat+2) (l1,l2,i1,rx1)
def JZ:kT (gk):=kO (kS 2 (kC (kF aj) (kC (kP 0 0) (kC (aD.xs (aD.sc (kA 1))) (kC kI kN)))) (kC (aD.var 0 153 (kC kJ (kC kJ kN))) (kC (kR 1 153 aj) kN))) (fun p=>(p.1.1,p.2.2.1,p.1.2.2.2.1,(Range.mk p.2.1.1 p.2.1.2.1))) (fun (x:gk)=>((x.1,((),((),(x.2.2.1,())))),((x.2.2.2.from_,(x.2.2.2.bU,())),(x.2.1,())))) (fun _=>rfl)
def Z0:kT (gk):=kO (kS 4 (kC (kF aj) (kC (kP 0 0) (kC (aD.xs (aD.sc (kA 3))) (kC kI kN)))) (kC (aD.var 0 153 (kC kJ (kC kJ kN))) (kC (kR 3 153 aj) kN))) (fun p=>(p.1.1,p.2.2.1,p.1.2.2.2.1,(Range.mk p.2.1.1 p.2.1.2.1))) (fun (x:gk)=>((x.1,((),((),(x.2.2.1,())))),((x.2.2.2.from_,(x.2.2.2.bU,())),(x.2.1,())))) (fun _=>rfl)
def Kg:aM TL:=aM.one JZ.dec (fun p=>Oy p.1 p.2.1 p.2.2.1 p.2.2.2) (.exit 0) Z0.enc
theorem aAY:bM PR (bm Kg) D0 MM (bV (bC oU.body) 5):=lA (cs:=[]) (ss:=[]) (E:=aX tab sl sh [] []) (an:=oU.an) (aY base aN aN) Al (by kernel_rfl) (ae.du rfl xc.keys (aC (.inl (by kernel_rfl)) (aC (.inl (by kernel_rfl)) aN))) rfl (fun x y h=>⟨_,h⟩) (fun _=>rfl) fun _=>by kernel_rfl
def Hi (l1:List Range)(l2:List Range)(i1:Int)(rx1:Range):Option ((gk)⊕(gk)) :=
 cond (decide (i1 < (l1.length:Int)))
 (cond (decide (0≤i1))
 (ob (l1[i1.toNat]?) fun e0 =>
 cond (decide (e0.from_≤rx1.bU))
 (cond (decide (0≤i1))
 (ob (l1[i1.toNat]?) fun e1 =>
 cond (decide (0≤i1))
 (ob (l1[i1.toNat]?) fun e2 =>
 some (.inl (l1,l2,(aF (i1+1)),(Range.mk (min2 rx1.from_ e1.from_) (max2 rx1.bU e2.bU)))))
 none)
 none)
 (some (.inr (l1,l2,i1,rx1))))
 none)
 (some (.inr (l1,l2,i1,rx1)))
def AD (p:gk):Option ((gk)⊕(gk)):=Hi p.1 p.2.1 p.2.2.1 p.2.2.2
def On (l1:List Range)(l2:List Range)(i1:Int)(rx1:Range):Option gk:=bZ AD (((l1.length:Int) - i1).toNat+2) (l1,l2,i1,rx1)
def ZC:kT (gk):=kO (kS 4 (kC (kF aj) (kC (kP 0 0) (kC (aD.xs (aD.sc (kA 1))) (kC kI kN)))) (kC (aD.var 0 153 (kC kJ (kC kJ kN))) (kC (kR 1 153 aj) kN))) (fun p=>(p.1.1,p.2.2.1,p.1.2.2.2.1,(Range.mk p.2.1.1 p.2.1.2.1))) (fun (x:gk)=>((x.1,((),((),(x.2.2.1,())))),((x.2.2.2.from_,(x.2.2.2.bU,())),(x.2.1,())))) (fun _=>rfl)
def Ka:aM TL:=aM.one JZ.dec (fun p=>On p.1 p.2.1 p.2.2.1 p.2.2.2) (.exit 2) ZC.enc
theorem aBr:bM PR (bm Ka) D0 MX (bV (bC oU.body) 8):=lA (cs:=[]) (ss:=[]) (E:=aX tab sl sh [] []) (an:=oU.an) (aY base aN aN) AD (by kernel_rfl) (ae.du rfl xc.keys (aC (.inl (by kernel_rfl)) (aC (.inl (by kernel_rfl)) aN))) rfl (fun x y h=>⟨_,h⟩) (fun _=>rfl) fun _=>by kernel_rfl
def n7 (l1:List Range)(rx1:Range):Option ((List Range)) :=
 cond (cond (decide (rx1.from_≥rx1.bU)) true (cond (decide (rx1.from_ < 0)) true (decide (rx1.bU > 1073741824))))
 (ob (lc l1) fun y0 =>
 some y0)
 (ob (Oy l1 [] 0 rx1) fun y1 =>
 ob (On y1.1 y1.2.1 y1.2.2.1 y1.2.2.2) fun y2 =>
 cond (decide (0≤(y2.2.1.length:Int)))
 (cond (decide ((y2.2.1.length:Int)=(y2.2.1.length:Int)))
 (cond (decide ((y2.2.1.length:Int)≤(y2.2.1.length:Int)))
 (cond (fits (((y2.2.1.take (((y2.2.1.length:Int)).toNat))++[y2.2.2.2]).length))
 (cond (decide (0≤y2.2.2.1))
 (cond (decide (y2.2.2.1≤(y2.1.length:Int)))
 (cond (decide ((y2.1.length:Int)≤(y2.1.length:Int)))
 (cond (fits ((((y2.2.1.take (((y2.2.1.length:Int)).toNat))++[y2.2.2.2])++((y2.1.take (((y2.1.length:Int)).toNat)).drop y2.2.2.1.toNat)).length))
 (ob (lc (((y2.2.1.take (((y2.2.1.length:Int)).toNat))++[y2.2.2.2])++((y2.1.take (((y2.1.length:Int)).toNat)).drop y2.2.2.1.toNat))) fun y3 =>
 some y3)
 none)
 none)
 none)
 none)
 none)
 none)
 none)
 none)
def XX (p:(List Range)×Range):Option ((List Range)):=n7 p.1 p.2
def ta:aQ TL:=aQ.of (DA.cons (DT.one ev) (DA.one (DT.agg Mq))) XX (DA.one (DT.one ev))
theorem yx:be PR 123 .keep ta:=bx (cs:=[]) (ss:=[(150,tX),(223005,Kg),(223008,Ka)]) (E:=aX tab sl sh [(123,oU)] [(150,.sum)]) (fun _=>by kernel_rfl) (aY base (aC (xc.ak rfl (aC (lC aAY rfl) (aC (lC aBr rfl) aN))) aN) (aC (eF rfl yv) aN)) (.inl rfl) xc.enters
abbrev sk:=Int×(List Range)×Int×Int×aG×aH×Want
def Fo (i1:Int)(l1:List Range)(i2:Int)(i3:Int)(bx1:aG)(lx1:aH)(w1:Want):Option ((sk)⊕(Int×aG×aH×Want)) :=
 cond (decide (i3 < i2))
 (cond (decide (0≤i3))
 (ob (l1[i3.toNat]?) fun e0 =>
 ob (n7 lx1.ids e0) fun r1 =>
 some (.inl (i1,l1,i2,(aF (i3+1)),bx1,(aH.mk lx1.device lx1.aA lx1.bN lx1.last lx1.aW r1 lx1.used),w1)))
 none)
 (some (.inr (i1,bx1,lx1,w1)))
def zM (p:sk):Option ((sk)⊕(Int×aG×aH×Want)):=Fo p.1 p.2.1 p.2.2.1 p.2.2.2.1 p.2.2.2.2.1 p.2.2.2.2.2.1 p.2.2.2.2.2.2
def wD (i1:Int)(l1:List Range)(i2:Int)(i3:Int)(bx1:aG)(lx1:aH)(w1:Want):Option (Int×aG×aH×Want):=bZ zM ((i2 - i3).toNat+2) (i1,l1,i2,i3,bx1,lx1,w1)
def qM:aD (List (C TL)) Want:=kO (kC kE (kC kJ (kC kJ (kC kJ kN)))) (fun p=>(Want.mk p.1 p.2.1 p.2.2.1 p.2.2.2.1)) (fun (x:Want)=>(x.key,(x.bj,(x.cE,(x.ids,()))))) (fun _=>rfl)
def Z2:kT (sk):=kO (kS 8 (kC (kP 0 0) (kC (kP 1 0) (kC (kP 2 0) (kC kI (kC (kF aj) (kC kI (kC kI kN))))))) (kC (aD.var 0 29 (kC (kA 3) (kC (kG aj) (kC (kA 4) (kC (kA 5) kN))))) (kC (aD.var 1 43 (kC kJ (kC kJ (kC kJ (kC kJ (kC (kA 6) (kC (kG aj) (kC (kA 7) kN)))))))) (kC (aD.var 2 105 qM) (kC (kR 3 65 cY) (kC (kR 4 43 ch) (kC (kR 5 3 bA) (kC (kR 6 133 cD) (kC (kR 7 3 bA) kN))))))))) (fun ((_,_,_,z0,z1,z2,z3,_),(_,z4,_),(z5,z6,z7,z8,_,z9,_),z10,z11,z12,z13,z14,z15,_)=>(z0,z1,z2,z3,(aG.mk z11 z4 z12 z13),(aH.mk z5 z6 z7 z8 z14 z9 z15),z10)) (fun (x:sk)=>(((),((),((),(x.1,(x.2.1,(x.2.2.1,(x.2.2.2.1,()))))))),(((),(x.2.2.2.2.1.free,((),((),())))),((x.2.2.2.2.2.1.device,(x.2.2.2.2.2.1.aA,(x.2.2.2.2.2.1.bN,(x.2.2.2.2.2.1.last,((),(x.2.2.2.2.2.1.ids,((),()))))))),(x.2.2.2.2.2.2,(x.2.2.2.2.1.af,(x.2.2.2.2.1.aK,(x.2.2.2.2.1.bB,(x.2.2.2.2.2.1.aW,(x.2.2.2.2.2.1.used,())))))))))) (fun _=>rfl)
def YM:kT (Int×aG×aH×Want):=kO (kS 16 (kC (kP 0 0) (kC (kP 1 0) (kC (kP 2 0) (kC kI kN)))) (kC (aD.var 0 29 (kC (kA 3) (kC (kG aj) (kC (kA 4) (kC (kA 5) kN))))) (kC (aD.var 1 43 (kC kJ (kC kJ (kC kJ (kC kJ (kC (kA 6) (kC (kG aj) (kC (kA 7) kN)))))))) (kC (aD.var 2 105 qM) (kC (kR 3 65 cY) (kC (kR 4 43 ch) (kC (kR 5 3 bA) (kC (kR 6 133 cD) (kC (kR 7 3 bA) kN))))))))) (fun ((_,_,_,z0,_),(_,z1,_),(z2,z3,z4,z5,_,z6,_),z7,z8,z9,z10,z11,z12,_)=>(z0,(aG.mk z8 z1 z9 z10),(aH.mk z2 z3 z4 z5 z11 z6 z12),z7)) (fun (x:Int×aG×aH×Want)=>(((),((),((),(x.1,())))),(((),(x.2.1.free,((),((),())))),((x.2.2.1.device,(x.2.2.1.aA,(x.2.2.1.bN,(x.2.2.1.last,((),(x.2.2.1.ids,((),()))))))),(x.2.2.2,(x.2.1.af,(x.2.1.aK,(x.2.1.bB,(x.2.2.1.aW,(x.2.2.1.used,())))))))))) (fun _=>rfl)
def I0:aM TL:=aM.one Z2.dec (fun p=>wD p.1 p.2.1 p.2.2.1 p.2.2.2.1 p.2.2.2.2.1 p.2.2.2.2.2.1 p.2.2.2.2.2.2) (.exit 1) YM.enc
theorem Ze:bM PR (bm I0) Ra K1 (bV (bC xC.body) 15):=lA (cs:=[(123,ta)]) (ss:=[]) (E:=aX tab sl sh [] [(123,.keep)]) (an:=xC.an) (aY base aN (aC (oD yx rfl) aN)) zM (by kernel_rfl) (sB rfl Dq.keys (by kernel_rfl)) rfl (fun x y h=>⟨_,h⟩) (fun _=>rfl) fun _=>by kernel_rfl
def l8 (w1:Want)(bx1:aG)(lx1:aH):Option (Int×aG×aH) :=
 ob (nP bx1 w1.key) fun r0 =>
 ob (ib w1.bj 0 2199023255552) fun r1 =>
 cond (!r1)
 (some (1,bx1,lx1))
 (ob (ib w1.cE 0 2199023255552) fun r2 =>
 cond (!r2)
 (some (1,bx1,lx1))
 (ob (ib w1.ids 0 50) fun r3 =>
 cond (!r3)
 (some (1,bx1,lx1))
 (cond (cond (decide (r0 < 0)) (!cA w1.key cr) false)
 (some (2,bx1,lx1))
 (cond (cond (cA w1.key cr) (decide ((aF (w1.bj+w1.cE)) > 0)) false)
 (some (1,bx1,lx1))
 (cond (!cA w1.key cr)
 (cond (decide (0≤r0))
 (cond (decide (r0 < (bx1.af.length:Int)))
 (ob (bx1.af[r0.toNat]?) fun e4 =>
 cond (decide (e4.bj < w1.bj))
 (some (14,bx1,lx1))
 (cond (decide (0≤r0))
 (cond (decide (r0 < (bx1.af.length:Int)))
 (ob (bx1.af[r0.toNat]?) fun e5 =>
 cond (decide (e5.cE < w1.cE))
 (some (14,bx1,lx1))
 (ob (pQ bx1.free w1.ids) fun r6 =>
 cond (r6.2.2 != 0)
 (some (r6.2.2,bx1,lx1))
 (ob (wD r0 r6.1 (r6.1.length:Int) 0 (aG.mk bx1.af r6.2.1 bx1.aK bx1.bB) lx1 w1) fun y7 =>
 cond (!cA y7.2.2.2.key cr)
 (cond (decide (0≤y7.1))
 (cond (decide (y7.1 < (y7.2.1.af.length:Int)))
 (ob (y7.2.1.af[y7.1.toNat]?) fun e8 =>
 cond (decide (0≤y7.1))
 (cond (decide (y7.1 < (y7.2.1.af.length:Int)))
 (ob (y7.2.1.af[y7.1.toNat]?) fun e9 =>
 cond (decide (0≤y7.1))
 (cond (decide (y7.1 < ((y7.2.1.af.set y7.1.toNat (bP.mk e9.key e9.bc e9.lo e9.hi e9.start (aF (e8.bj - y7.2.2.2.bj)) e9.cE)).length:Int)))
 (ob ((y7.2.1.af.set y7.1.toNat (bP.mk e9.key e9.bc e9.lo e9.hi e9.start (aF (e8.bj - y7.2.2.2.bj)) e9.cE))[y7.1.toNat]?) fun e10 =>
 cond (decide (0≤y7.1))
 (cond (decide (y7.1 < ((y7.2.1.af.set y7.1.toNat (bP.mk e9.key e9.bc e9.lo e9.hi e9.start (aF (e8.bj - y7.2.2.2.bj)) e9.cE)).length:Int)))
 (ob ((y7.2.1.af.set y7.1.toNat (bP.mk e9.key e9.bc e9.lo e9.hi e9.start (aF (e8.bj - y7.2.2.2.bj)) e9.cE))[y7.1.toNat]?) fun e11 =>
 cond (fits ((y7.2.2.1.aW++[(Slice.mk y7.2.2.2.key y7.2.2.2.bj y7.2.2.2.cE 0 0)]).length))
 (some (0,(aG.mk ((y7.2.1.af.set y7.1.toNat (bP.mk e9.key e9.bc e9.lo e9.hi e9.start (aF (e8.bj - y7.2.2.2.bj)) e9.cE)).set y7.1.toNat (bP.mk e11.key e11.bc e11.lo e11.hi e11.start e11.bj (aF (e10.cE - y7.2.2.2.cE)))) y7.2.1.free y7.2.1.aK y7.2.1.bB),(aH.mk y7.2.2.1.device y7.2.2.1.aA y7.2.2.1.bN y7.2.2.1.last (y7.2.2.1.aW++[(Slice.mk y7.2.2.2.key y7.2.2.2.bj y7.2.2.2.cE 0 0)]) y7.2.2.1.ids y7.2.2.1.used)))
 none)
 none)
 none)
 none)
 none)
 none)
 none)
 none)
 none)
 (some (0,y7.2.1,y7.2.2.1)))))
 none)
 none))
 none)
 none)
 (ob (pQ bx1.free w1.ids) fun r12 =>
 cond (r12.2.2 != 0)
 (some (r12.2.2,bx1,lx1))
 (ob (wD r0 r12.1 (r12.1.length:Int) 0 (aG.mk bx1.af r12.2.1 bx1.aK bx1.bB) lx1 w1) fun y13 =>
 cond (!cA y13.2.2.2.key cr)
 (cond (decide (0≤y13.1))
 (cond (decide (y13.1 < (y13.2.1.af.length:Int)))
 (ob (y13.2.1.af[y13.1.toNat]?) fun e14 =>
 cond (decide (0≤y13.1))
 (cond (decide (y13.1 < (y13.2.1.af.length:Int)))
 (ob (y13.2.1.af[y13.1.toNat]?) fun e15 =>
 cond (decide (0≤y13.1))
 (cond (decide (y13.1 < ((y13.2.1.af.set y13.1.toNat (bP.mk e15.key e15.bc e15.lo e15.hi e15.start (aF (e14.bj - y13.2.2.2.bj)) e15.cE)).length:Int)))
 (ob ((y13.2.1.af.set y13.1.toNat (bP.mk e15.key e15.bc e15.lo e15.hi e15.start (aF (e14.bj - y13.2.2.2.bj)) e15.cE))[y13.1.toNat]?) fun e16 =>
 cond (decide (0≤y13.1))
 (cond (decide (y13.1 < ((y13.2.1.af.set y13.1.toNat (bP.mk e15.key e15.bc e15.lo e15.hi e15.start (aF (e14.bj - y13.2.2.2.bj)) e15.cE)).length:Int)))
 (ob ((y13.2.1.af.set y13.1.toNat (bP.mk e15.key e15.bc e15.lo e15.hi e15.start (aF (e14.bj - y13.2.2.2.bj)) e15.cE))[y13.1.toNat]?) fun e17 =>
 cond (fits ((y13.2.2.1.aW++[(Slice.mk y13.2.2.2.key y13.2.2.2.bj y13.2.2.2.cE 0 0)]).length))
 (some (0,(aG.mk ((y13.2.1.af.set y13.1.toNat (bP.mk e15.key e15.bc e15.lo e15.hi e15.start (aF (e14.bj - y13.2.2.2.bj)) e15.cE)).set y13.1.toNat (bP.mk e17.key e17.bc e17.lo e17.hi e17.start e17.bj (aF (e16.cE - y13.2.2.2.cE)))) y13.2.1.free y13.2.1.aK y13.2.1.bB),(aH.mk y13.2.2.1.device y13.2.2.1.aA y13.2.2.1.bN y13.2.2.1.last (y13.2.2.1.aW++[(Slice.mk y13.2.2.2.key y13.2.2.2.bj y13.2.2.2.cE 0 0)]) y13.2.2.1.ids y13.2.2.1.used)))
 none)
 none)
 none)
 none)
 none)
 none)
 none)
 none)
 none)
 (some (0,y13.2.1,y13.2.2.1)))))))))
def WK:kT (Want×aG×aH):=kO (kS 7 (kC (kP 0 0) (kC (kP 1 0) (kC (aD.xs (aD.sa qM)) kN))) (kC (aD.var 0 29 (kC (kA 2) (kC (kG aj) (kC (kA 3) (kC (kA 4) kN))))) (kC (aD.var 1 43 (kC kJ (kC kJ (kC kJ (kC kJ (kC (kA 5) (kC (kG aj) (kC (kA 6) kN)))))))) (kC (kR 2 65 cY) (kC (kR 3 43 ch) (kC (kR 4 3 bA) (kC (kR 5 133 cD) (kC (kR 6 3 bA) kN)))))))) (fun ((_,_,z0,_),(_,z1,_),(z2,z3,z4,z5,_,z6,_),z7,z8,z9,z10,z11,_)=>(z0,(aG.mk z7 z1 z8 z9),(aH.mk z2 z3 z4 z5 z10 z6 z11))) (fun (x:Want×aG×aH)=>(((),((),(x.1,()))),(((),(x.2.1.free,((),((),())))),((x.2.2.device,(x.2.2.aA,(x.2.2.bN,(x.2.2.last,((),(x.2.2.ids,((),()))))))),(x.2.1.af,(x.2.1.aK,(x.2.1.bB,(x.2.2.aW,(x.2.2.used,()))))))))) (fun _=>rfl)
def Vo:kT (Int×aG×aH):=kO (kS 19 (kC kI kN) (kC (aD.var 0 29 (kC (kA 14) (kC (kG aj) (kC (kA 15) (kC (kA 16) kN))))) (kC (aD.var 1 43 (kC kJ (kC kJ (kC kJ (kC kJ (kC (kA 17) (kC (kG aj) (kC (kA 18) kN)))))))) (kC (aD.dead 2) (kC (aD.dead 3) (kC (aD.dead 4) (kC (aD.dead 5) (kC (aD.dead 6) (kC (kR 14 65 cY) (kC (kR 15 43 ch) (kC (kR 16 3 bA) (kC (kR 17 133 cD) (kC (kR 18 3 bA) kN))))))))))))) (fun p=>(p.1.1,(aG.mk p.2.2.2.2.2.2.2.2.1 p.2.1.2.1 (t8 p.2).1 (t8 p.2).2.1),(aH.mk p.2.2.1.1 p.2.2.1.2.1 p.2.2.1.2.2.1 p.2.2.1.2.2.2.1 (t8 p.2).2.2.1 p.2.2.1.2.2.2.2.2.1 (t8 p.2).2.2.2.1))) (fun (x:Int×aG×aH)=>((x.1,()),(((),(x.2.1.free,((),((),())))),((x.2.2.device,(x.2.2.aA,(x.2.2.bN,(x.2.2.last,((),(x.2.2.ids,((),()))))))),((),((),((),((),((),(x.2.1.af,(x.2.1.aK,(x.2.1.bB,(x.2.2.aW,(x.2.2.used,())))))))))))))) (fun _=>rfl)
def WA (p:Want×aG×aH):Option (Int×aG×aH):=l8 p.1 p.2.1 p.2.2
def F8:aM TL:=aM.one WK.dec WA .normal Vo.enc
theorem WE:fL PR 156 F8:=sM (cs:=[(121,tF),(122,nK),(179,F2)]) (ss:=[(256015,I0)]) (E:=aX tab sl sh [(156,xC)] [(121,.pure),(122,.pure),(179,.keep)]) (aY base (aC (Dq.ak rfl (aC (lC Ze rfl) aN)) aN) (aC (oD yb rfl) (aC (oD oy rfl) (aC (oD Ve rfl) aN)))) Dq.enters fun _=>by kernel_rfl
abbrev tB:=(List Want)×Int×Int×Int×Want
def G9 (l1:List Want)(i1:Int)(i2:Int)(i3:Int)(w1:Want):Option ((tB)⊕(((Int×Want)⊕(Int×Want)))) :=
 cond (decide (i3 < i2))
 (cond (decide (0≤i3))
 (ob (l1[i3.toNat]?) fun e0 =>
 cond (cA e0.key w1.key)
 (some (.inr (.inr (i3,w1))))
 (some (.inl (l1,i1,i2,(aF (i3+1)),w1))))
 none)
 (some (.inr (.inl (i1,w1))))
def Af (p:tB):Option ((tB)⊕(((Int×Want)⊕(Int×Want)))):=G9 p.1 p.2.1 p.2.2.1 p.2.2.2.1 p.2.2.2.2
def Cy (l1:List Want)(i1:Int)(i2:Int)(i3:Int)(w1:Want):Option (((Int×Want)⊕(Int×Want))):=bZ Af ((i2 - i3).toNat+2) (l1,i1,i2,i3,w1)
def aAG:kT (tB):=kO (kS 1 (kC (kF gL) (kC (aD.xs (aD.sc (aD.dY 155 [] [(0,0)]))) (kC kI (kC kI (kC kI kN))))) (kC (aD.var 0 105 qM) kN)) (fun ((z0,_,z1,z2,z3,_),z4,_)=>(z0,z1,z2,z3,z4)) (fun (x:tB)=>((x.1,((),(x.2.1,(x.2.2.1,(x.2.2.2.1,()))))),(x.2.2.2.2,()))) (fun _=>rfl)
def I4:kT (Int×Want):=kO (kS 2 (kC kI kN) (kC (aD.var 0 105 qM) kN)) (fun p=>(p.1.1,p.2.1)) (fun (x:Int×Want)=>((x.1,()),(x.2,()))) (fun _=>rfl)
def Jl:aM TL:=aM.two aAG.dec (fun p=>Cy p.1 p.2.1 p.2.2.1 p.2.2.2.1 p.2.2.2.2) (.exit 0) .ret I4.enc I4.enc
theorem aBx:bM PR (bm Jl) Pk Mr (bV (bC wa.body) 2):=lB (cs:=[]) (ss:=[]) (E:=aX tab sl sh [(155,Py)] []) (an:=wa.an) (aY base (aC (aJE.ak rfl aN) aN) aN) Af (by kernel_rfl) (sB rfl Pc.keys (by kernel_rfl)) rfl rfl (fun x y h=>⟨_,h⟩) (fun _=>rfl) fun _=>by kernel_rfl
abbrev sy:=(List Want)×Int×(List Want)×Int×Int×aG×Int×aG×aH×aG×aH
def Hd (l1:List Want)(i1:Int)(l2:List Want)(i2:Int)(i3:Int)(bx1:aG)(i4:Int)(bx2:aG)(lx1:aH)(bx3:aG)(lx2:aH):Option ((sy)⊕(((Int×aG×Int×aG×aH×aG×aH)⊕(Int×aG×Int×aG×aH×aG×aH×(List bP)×(List aH)×(List Int)×(List Slice)×(List Int))))) :=
 cond (decide (i3 < i2))
 (cond (decide (0≤i3))
 (ob (l2[i3.toNat]?) fun e0 =>
 ob (ib e0.bj 0 2199023255552) fun r1 =>
 cond (!r1)
 (ob (l8 e0 bx3 lx2) fun y4 =>
 cond (y4.1 != 0)
 (ob (gE bx1) fun y5 =>
 some (.inr (.inr (y4.1,bx1,i4,y5,(aH.mk 0 0 0 0 [] [] []),y4.2.1,y4.2.2,bx2.af,bx2.aK,bx2.bB,lx1.aW,lx1.used))))
 (some (.inl (l1,i1,l2,i2,(aF (i3+1)),bx1,i4,bx2,lx1,y4.2.1,y4.2.2))))
 (ob (ib e0.cE 0 2199023255552) fun r2 =>
 cond (!r2)
 (ob (l8 e0 bx3 lx2) fun y6 =>
 cond (y6.1 != 0)
 (ob (gE bx1) fun y7 =>
 some (.inr (.inr (y6.1,bx1,i4,y7,(aH.mk 0 0 0 0 [] [] []),y6.2.1,y6.2.2,bx2.af,bx2.aK,bx2.bB,lx1.aW,lx1.used))))
 (some (.inl (l1,i1,l2,i2,(aF (i3+1)),bx1,i4,bx2,lx1,y6.2.1,y6.2.2))))
 (ob (ib e0.ids 0 50) fun r3 =>
 cond (!(!r3))
 (cond (decide (0≤i3))
 (cond (decide (i3≤(l1.length:Int)))
 (ob (Cy (l1.take i3.toNat) 0 ((l1.take i3.toNat).length:Int) 0 e0) fun y8 =>
 two y8 (fun a9 =>
 ob (l8 a9.2 bx3 lx2) fun y12 =>
 cond (y12.1 != 0)
 (ob (gE bx1) fun y13 =>
 some (.inr (.inr (y12.1,bx1,i4,y13,(aH.mk 0 0 0 0 [] [] []),y12.2.1,y12.2.2,bx2.af,bx2.aK,bx2.bB,lx1.aW,lx1.used))))
 (some (.inl (l1,i1,l2,i2,(aF (i3+1)),bx1,i4,bx2,lx1,y12.2.1,y12.2.2)))) (fun b10 =>
 cond (decide (b10.1≥0))
 (ob (gE bx1) fun y11 =>
 some (.inr (.inr (7,bx1,i4,y11,(aH.mk 0 0 0 0 [] [] []),bx3,lx2,bx2.af,bx2.aK,bx2.bB,lx1.aW,lx1.used))))
 (ob (l8 b10.2 bx3 lx2) fun y14 =>
 cond (y14.1 != 0)
 (ob (gE bx1) fun y15 =>
 some (.inr (.inr (y14.1,bx1,i4,y15,(aH.mk 0 0 0 0 [] [] []),y14.2.1,y14.2.2,bx2.af,bx2.aK,bx2.bB,lx1.aW,lx1.used))))
 (some (.inl (l1,i1,l2,i2,(aF (i3+1)),bx1,i4,bx2,lx1,y14.2.1,y14.2.2))))))
 none)
 none)
 (ob (l8 e0 bx3 lx2) fun y16 =>
 cond (y16.1 != 0)
 (ob (gE bx1) fun y17 =>
 some (.inr (.inr (y16.1,bx1,i4,y17,(aH.mk 0 0 0 0 [] [] []),y16.2.1,y16.2.2,bx2.af,bx2.aK,bx2.bB,lx1.aW,lx1.used))))
 (some (.inl (l1,i1,l2,i2,(aF (i3+1)),bx1,i4,bx2,lx1,y16.2.1,y16.2.2)))))))
 none)
 (some (.inr (.inl (i1,bx1,i4,bx2,lx1,bx3,lx2))))
def AU (p:sy):Option ((sy)⊕(((Int×aG×Int×aG×aH×aG×aH)⊕(Int×aG×Int×aG×aH×aG×aH×(List bP)×(List aH)×(List Int)×(List Slice)×(List Int))))):=Hd p.1 p.2.1 p.2.2.1 p.2.2.2.1 p.2.2.2.2.1 p.2.2.2.2.2.1 p.2.2.2.2.2.2.1 p.2.2.2.2.2.2.2.1 p.2.2.2.2.2.2.2.2.1 p.2.2.2.2.2.2.2.2.2.1 p.2.2.2.2.2.2.2.2.2.2
def wN (l1:List Want)(i1:Int)(l2:List Want)(i2:Int)(i3:Int)(bx1:aG)(i4:Int)(bx2:aG)(lx1:aH)(bx3:aG)(lx2:aH):Option (((Int×aG×Int×aG×aH×aG×aH)⊕(Int×aG×Int×aG×aH×aG×aH×(List bP)×(List aH)×(List Int)×(List Slice)×(List Int)))):=bZ AU ((i2 - i3).toNat+2) (l1,i1,l2,i2,i3,bx1,i4,bx2,lx1,bx3,lx2)
def aBu:kT (sy):=kO (kS 16 (kC (kF gL) (kC (kP 0 0) (kC (kP 1 0) (kC (kP 2 0) (kC (kP 3 0) (kC kI (kC (kP 4 0) (kC (kP 5 0) (kC (kF gL) (kC kI (kC kI kN))))))))))) (kC (aD.var 0 29 fX) (kC (aD.var 1 3 (kC kJ kN)) (kC (aD.var 2 29 (kC (kA 6) (kC (kG aj) (kC (kA 7) (kC (kA 8) kN))))) (kC (aD.var 3 43 (kC kJ (kC kJ (kC kJ (kC kJ (kC (kA 9) (kC (kG aj) (kC (kA 10) kN)))))))) (kC (aD.var 4 29 (kC (kA 11) (kC (kG aj) (kC (kA 12) (kC (kA 13) kN))))) (kC (aD.var 5 43 (kC kJ (kC kJ (kC kJ (kC kJ (kC (kA 14) (kC (kG aj) (kC (kA 15) kN)))))))) (kC (kR 6 65 cY) (kC (kR 7 43 ch) (kC (kR 8 3 bA) (kC (kR 9 133 cD) (kC (kR 10 3 bA) (kC (kR 11 65 cY) (kC (kR 12 43 ch) (kC (kR 13 3 bA) (kC (kR 14 133 cD) (kC (kR 15 3 bA) kN))))))))))))))))) (fun p=>(p.1.1,p.1.2.2.2.2.2.1,(t8 p.1).1,(t8 p.1).2.1,(t8 p.1).2.2.1,p.2.1,p.2.2.1.1,(aG.mk p.2.2.2.2.2.2.2.1 p.2.2.2.1.2.1 p.2.2.2.2.2.2.2.2.1 (t8 p.2).1),(aH.mk p.2.2.2.2.1.1 p.2.2.2.2.1.2.1 p.2.2.2.2.1.2.2.1 p.2.2.2.2.1.2.2.2.1 (t8 p.2).2.1 p.2.2.2.2.1.2.2.2.2.2.1 (t8 p.2).2.2.1),(aG.mk (t8 p.2).2.2.2.1 p.2.2.2.2.2.1.2.1 (t8 p.2).2.2.2.2.1 (t8 p.2).2.2.2.2.2.1),(aH.mk p.2.2.2.2.2.2.1.1 p.2.2.2.2.2.2.1.2.1 p.2.2.2.2.2.2.1.2.2.1 p.2.2.2.2.2.2.1.2.2.2.1 (t8 p.2).2.2.2.2.2.2.1 p.2.2.2.2.2.2.1.2.2.2.2.2.1 (t8 p.2).2.2.2.2.2.2.2.1))) (fun (x:sy)=>((x.1,((),((),((),((),(x.2.1,((),((),(x.2.2.1,(x.2.2.2.1,(x.2.2.2.2.1,()))))))))))),(x.2.2.2.2.2.1,((x.2.2.2.2.2.2.1,()),(((),(x.2.2.2.2.2.2.2.1.free,((),((),())))),((x.2.2.2.2.2.2.2.2.1.device,(x.2.2.2.2.2.2.2.2.1.aA,(x.2.2.2.2.2.2.2.2.1.bN,(x.2.2.2.2.2.2.2.2.1.last,((),(x.2.2.2.2.2.2.2.2.1.ids,((),()))))))),(((),(x.2.2.2.2.2.2.2.2.2.1.free,((),((),())))),((x.2.2.2.2.2.2.2.2.2.2.device,(x.2.2.2.2.2.2.2.2.2.2.aA,(x.2.2.2.2.2.2.2.2.2.2.bN,(x.2.2.2.2.2.2.2.2.2.2.last,((),(x.2.2.2.2.2.2.2.2.2.2.ids,((),()))))))),(x.2.2.2.2.2.2.2.1.af,(x.2.2.2.2.2.2.2.1.aK,(x.2.2.2.2.2.2.2.1.bB,(x.2.2.2.2.2.2.2.2.1.aW,(x.2.2.2.2.2.2.2.2.1.used,(x.2.2.2.2.2.2.2.2.2.1.af,(x.2.2.2.2.2.2.2.2.2.1.aK,(x.2.2.2.2.2.2.2.2.2.1.bB,(x.2.2.2.2.2.2.2.2.2.2.aW,(x.2.2.2.2.2.2.2.2.2.2.used,())))))))))))))))))) (fun _=>rfl)
def Yp:kT (Int×aG×Int×aG×aH×aG×aH):=kO (kS 32 (kC (kP 1 0) (kC (kP 2 0) (kC (kP 3 0) (kC kI (kC (kP 4 0) (kC (kP 5 0) kN)))))) (kC (aD.var 0 29 fX) (kC (aD.var 1 3 (kC kJ kN)) (kC (aD.var 2 29 (kC (kA 6) (kC (kG aj) (kC (kA 7) (kC (kA 8) kN))))) (kC (aD.var 3 43 (kC kJ (kC kJ (kC kJ (kC kJ (kC (kA 9) (kC (kG aj) (kC (kA 10) kN)))))))) (kC (aD.var 4 29 (kC (kA 27) (kC (kG aj) (kC (kA 28) (kC (kA 29) kN))))) (kC (aD.var 5 43 (kC kJ (kC kJ (kC kJ (kC kJ (kC (kA 30) (kC (kG aj) (kC (kA 31) kN)))))))) (kC (kR 6 65 cY) (kC (kR 7 43 ch) (kC (kR 8 3 bA) (kC (kR 9 133 cD) (kC (kR 10 3 bA) (kC (kR 27 65 cY) (kC (kR 28 43 ch) (kC (kR 29 3 bA) (kC (kR 30 133 cD) (kC (kR 31 3 bA) kN))))))))))))))))) (fun p=>(p.1.2.2.2.1,p.2.1,p.2.2.1.1,(aG.mk p.2.2.2.2.2.2.2.1 p.2.2.2.1.2.1 p.2.2.2.2.2.2.2.2.1 (t8 p.2).1),(aH.mk p.2.2.2.2.1.1 p.2.2.2.2.1.2.1 p.2.2.2.2.1.2.2.1 p.2.2.2.2.1.2.2.2.1 (t8 p.2).2.1 p.2.2.2.2.1.2.2.2.2.2.1 (t8 p.2).2.2.1),(aG.mk (t8 p.2).2.2.2.1 p.2.2.2.2.2.1.2.1 (t8 p.2).2.2.2.2.1 (t8 p.2).2.2.2.2.2.1),(aH.mk p.2.2.2.2.2.2.1.1 p.2.2.2.2.2.2.1.2.1 p.2.2.2.2.2.2.1.2.2.1 p.2.2.2.2.2.2.1.2.2.2.1 (t8 p.2).2.2.2.2.2.2.1 p.2.2.2.2.2.2.1.2.2.2.2.2.1 (t8 p.2).2.2.2.2.2.2.2.1))) (fun (x:Int×aG×Int×aG×aH×aG×aH)=>(((),((),((),(x.1,((),((),())))))),(x.2.1,((x.2.2.1,()),(((),(x.2.2.2.1.free,((),((),())))),((x.2.2.2.2.1.device,(x.2.2.2.2.1.aA,(x.2.2.2.2.1.bN,(x.2.2.2.2.1.last,((),(x.2.2.2.2.1.ids,((),()))))))),(((),(x.2.2.2.2.2.1.free,((),((),())))),((x.2.2.2.2.2.2.device,(x.2.2.2.2.2.2.aA,(x.2.2.2.2.2.2.bN,(x.2.2.2.2.2.2.last,((),(x.2.2.2.2.2.2.ids,((),()))))))),(x.2.2.2.1.af,(x.2.2.2.1.aK,(x.2.2.2.1.bB,(x.2.2.2.2.1.aW,(x.2.2.2.2.1.used,(x.2.2.2.2.2.1.af,(x.2.2.2.2.2.1.aK,(x.2.2.2.2.2.1.bB,(x.2.2.2.2.2.2.aW,(x.2.2.2.2.2.2.used,())))))))))))))))))) (fun _=>rfl)
def Z7:kT (Int×aG×Int×aG×aH×aG×aH×(List bP)×(List aH)×(List Int)×(List Slice)×(List Int)):=kO (kS 39 (kC (kP 1 0) (kC (kP 2 0) (kC (kP 3 0) (kC kI (kC (kP 4 0) (kC (kP 5 0) kN)))))) (kC (aD.var 0 29 fX) (kC (aD.var 1 3 (kC kJ kN)) (kC (aD.var 2 29 (kC (kA 27) (kC (kA 28) (kC (kA 29) (kC (kA 30) kN))))) (kC (aD.var 3 43 (kC kJ (kC kJ (kC kJ (kC kJ (kC (kA 31) (kC (kA 32) (kC (kA 33) kN)))))))) (kC (aD.var 4 29 (kC (kA 34) (kC (kG aj) (kC (kA 35) (kC (kA 36) kN))))) (kC (aD.var 5 43 (kC kJ (kC kJ (kC kJ (kC kJ (kC (kA 37) (kC (kG aj) (kC (kA 38) kN)))))))) (kC (kR 6 65 cY) (kC (kR 7 43 ch) (kC (kR 8 3 bA) (kC (kR 9 133 cD) (kC (kR 10 3 bA) (kC (kR 27 65 cY) (kC (kR 28 153 aj) (kC (kR 29 43 ch) (kC (kR 30 3 bA) (kC (kR 31 133 cD) (kC (kR 32 153 aj) (kC (kR 33 3 bA) (kC (kR 34 65 cY) (kC (kR 35 43 ch) (kC (kR 36 3 bA) (kC (kR 37 133 cD) (kC (kR 38 3 bA) kN)))))))))))))))))))))))) (fun p=>(p.1.2.2.2.1,p.2.1,p.2.2.1.1,(aG.mk (t8 p.2).2.2.2.1 (t8 p.2).2.2.2.2.1 (t8 p.2).2.2.2.2.2.1 (t8 p.2).2.2.2.2.2.2.1),(aH.mk p.2.2.2.2.1.1 p.2.2.2.2.1.2.1 p.2.2.2.2.1.2.2.1 p.2.2.2.2.1.2.2.2.1 (t8 p.2).2.2.2.2.2.2.2.1 (t8 (t8 p.2)).1 (t8 (t8 p.2)).2.1),(aG.mk (t8 (t8 p.2)).2.2.1 p.2.2.2.2.2.1.2.1 (t8 (t8 p.2)).2.2.2.1 (t8 (t8 p.2)).2.2.2.2.1),(aH.mk p.2.2.2.2.2.2.1.1 p.2.2.2.2.2.2.1.2.1 p.2.2.2.2.2.2.1.2.2.1 p.2.2.2.2.2.2.1.2.2.2.1 (t8 (t8 p.2)).2.2.2.2.2.1 p.2.2.2.2.2.2.1.2.2.2.2.2.1 (t8 (t8 p.2)).2.2.2.2.2.2.1),p.2.2.2.2.2.2.2.1,p.2.2.2.2.2.2.2.2.1,(t8 p.2).1,(t8 p.2).2.1,(t8 p.2).2.2.1)) (fun (x:Int×aG×Int×aG×aH×aG×aH×(List bP)×(List aH)×(List Int)×(List Slice)×(List Int))=>(((),((),((),(x.1,((),((),())))))),(x.2.1,((x.2.2.1,()),(((),((),((),((),())))),((x.2.2.2.2.1.device,(x.2.2.2.2.1.aA,(x.2.2.2.2.1.bN,(x.2.2.2.2.1.last,((),((),((),()))))))),(((),(x.2.2.2.2.2.1.free,((),((),())))),((x.2.2.2.2.2.2.1.device,(x.2.2.2.2.2.2.1.aA,(x.2.2.2.2.2.2.1.bN,(x.2.2.2.2.2.2.1.last,((),(x.2.2.2.2.2.2.1.ids,((),()))))))),(x.2.2.2.2.2.2.2.1,(x.2.2.2.2.2.2.2.2.1,(x.2.2.2.2.2.2.2.2.2.1,(x.2.2.2.2.2.2.2.2.2.2.1,(x.2.2.2.2.2.2.2.2.2.2.2,(x.2.2.2.1.af,(x.2.2.2.1.free,(x.2.2.2.1.aK,(x.2.2.2.1.bB,(x.2.2.2.2.1.aW,(x.2.2.2.2.1.ids,(x.2.2.2.2.1.used,(x.2.2.2.2.2.1.af,(x.2.2.2.2.2.1.aK,(x.2.2.2.2.2.1.bB,(x.2.2.2.2.2.2.1.aW,(x.2.2.2.2.2.2.1.used,()))))))))))))))))))))))))) (fun _=>rfl)
def Kd:aM TL:=aM.two aBu.dec (fun p=>wN p.1 p.2.1 p.2.2.1 p.2.2.2.1 p.2.2.2.2.1 p.2.2.2.2.2.1 p.2.2.2.2.2.2.1 p.2.2.2.2.2.2.2.1 p.2.2.2.2.2.2.2.2.1 p.2.2.2.2.2.2.2.2.2.1 p.2.2.2.2.2.2.2.2.2.2) (.exit 1) .ret Yp.enc Z7.enc
theorem aAB:bM PR (bm Kd) D1 NW (bV (bC oW.body) 7):=lB (cs:=[(122,nK)]) (ss:=[(156,F8),(124,nR),(278002,Jl)]) (E:=aX tab sl sh [(154,QI),(178,wa)] [(122,.pure),(156,.sum),(124,.sum)]) (an:=oW.an) (aY base (aC (aH7.ak rfl aN) (aC (Pc.ak rfl (aC (lC aBx rfl) aN)) aN)) (aC (oD oy rfl) (aC (eF rfl WE) (aC (eF rfl pD) aN)))) AU (by kernel_rfl) (ae.du rfl xV.keys (aC (.inl (by kernel_rfl)) (aC (.inl (by kernel_rfl)) aN))) rfl rfl (fun x y h=>⟨_,h⟩) (fun _=>rfl) fun _=>by kernel_rfl
abbrev kU:=Int×Int×aG×aH×aG×aH
def GU (i1:Int)(i2:Int)(bx1:aG)(lx1:aH)(bx2:aG)(lx2:aH):Option ((kU)⊕(kU)) :=
 cond (decide (i1 < (bx2.aK.length:Int)))
 (cond (decide (0≤i1))
 (cond (decide (i1 < (bx2.aK.length:Int)))
 (ob (bx2.aK[i1.toNat]?) fun e0 =>
 cond (decide (e0.device < i2))
 (some (.inl ((aF (i1+1)),i2,bx1,lx1,bx2,lx2)))
 (some (.inr (i1,i2,bx1,lx1,bx2,lx2))))
 none)
 none)
 (some (.inr (i1,i2,bx1,lx1,bx2,lx2)))
def zT (p:kU):Option ((kU)⊕(kU)):=GU p.1 p.2.1 p.2.2.1 p.2.2.2.1 p.2.2.2.2.1 p.2.2.2.2.2
def vt (i1:Int)(i2:Int)(bx1:aG)(lx1:aH)(bx2:aG)(lx2:aH):Option kU:=bZ zT (1099511627776) (i1,i2,bx1,lx1,bx2,lx2)
def Zy:kT (kU):=kO (kS 15 (kC (kP 0 0) (kC (kP 1 0) (kC (kP 2 0) (kC (kP 3 0) (kC (kP 4 0) (kC kI kN)))))) (kC (aD.var 0 3 (kC kJ kN)) (kC (aD.var 1 29 (kC (kA 5) (kC (kG aj) (kC (kA 6) (kC (kA 7) kN))))) (kC (aD.var 2 43 (kC kJ (kC kJ (kC kJ (kC kJ (kC (kA 8) (kC (kG aj) (kC (kA 9) kN)))))))) (kC (aD.var 3 29 (kC (kA 10) (kC (kG aj) (kC (kA 11) (kC (kA 12) kN))))) (kC (aD.var 4 43 (kC kJ (kC kJ (kC kJ (kC kJ (kC (kA 13) (kC (kG aj) (kC (kA 14) kN)))))))) (kC (kR 5 65 cY) (kC (kR 6 43 ch) (kC (kR 7 3 bA) (kC (kR 8 133 cD) (kC (kR 9 3 bA) (kC (kR 10 65 cY) (kC (kR 11 43 ch) (kC (kR 12 3 bA) (kC (kR 13 133 cD) (kC (kR 14 3 bA) kN)))))))))))))))) (fun p=>(p.1.2.2.2.2.2.1,p.2.1.1,(aG.mk p.2.2.2.2.2.2.1 p.2.2.1.2.1 p.2.2.2.2.2.2.2.1 p.2.2.2.2.2.2.2.2.1),(aH.mk p.2.2.2.1.1 p.2.2.2.1.2.1 p.2.2.2.1.2.2.1 p.2.2.2.1.2.2.2.1 (t8 p.2).1 p.2.2.2.1.2.2.2.2.2.1 (t8 p.2).2.1),(aG.mk (t8 p.2).2.2.1 p.2.2.2.2.1.2.1 (t8 p.2).2.2.2.1 (t8 p.2).2.2.2.2.1),(aH.mk p.2.2.2.2.2.1.1 p.2.2.2.2.2.1.2.1 p.2.2.2.2.2.1.2.2.1 p.2.2.2.2.2.1.2.2.2.1 (t8 p.2).2.2.2.2.2.1 p.2.2.2.2.2.1.2.2.2.2.2.1 (t8 p.2).2.2.2.2.2.2.1))) (fun (x:kU)=>(((),((),((),((),((),(x.1,())))))),((x.2.1,()),(((),(x.2.2.1.free,((),((),())))),((x.2.2.2.1.device,(x.2.2.2.1.aA,(x.2.2.2.1.bN,(x.2.2.2.1.last,((),(x.2.2.2.1.ids,((),()))))))),(((),(x.2.2.2.2.1.free,((),((),())))),((x.2.2.2.2.2.device,(x.2.2.2.2.2.aA,(x.2.2.2.2.2.bN,(x.2.2.2.2.2.last,((),(x.2.2.2.2.2.ids,((),()))))))),(x.2.2.1.af,(x.2.2.1.aK,(x.2.2.1.bB,(x.2.2.2.1.aW,(x.2.2.2.1.used,(x.2.2.2.2.1.af,(x.2.2.2.2.1.aK,(x.2.2.2.2.1.bB,(x.2.2.2.2.2.aW,(x.2.2.2.2.2.used,()))))))))))))))))) (fun _=>rfl)
def YG:kT (kU):=kO (kS 30 (kC (kP 1 0) (kC (kP 2 0) (kC (kP 3 0) (kC (kP 4 0) (kC kI kN))))) (kC (aD.var 0 3 (kC kJ kN)) (kC (aD.var 1 29 (kC (kA 5) (kC (kG aj) (kC (kA 6) (kC (kA 7) kN))))) (kC (aD.var 2 43 (kC kJ (kC kJ (kC kJ (kC kJ (kC (kA 8) (kC (kG aj) (kC (kA 9) kN)))))))) (kC (aD.var 3 29 (kC (kA 10) (kC (kG aj) (kC (kA 11) (kC (kA 12) kN))))) (kC (aD.var 4 43 (kC kJ (kC kJ (kC kJ (kC kJ (kC (kA 13) (kC (kG aj) (kC (kA 14) kN)))))))) (kC (kR 5 65 cY) (kC (kR 6 43 ch) (kC (kR 7 3 bA) (kC (kR 8 133 cD) (kC (kR 9 3 bA) (kC (kR 10 65 cY) (kC (kR 11 43 ch) (kC (kR 12 3 bA) (kC (kR 13 133 cD) (kC (kR 14 3 bA) kN)))))))))))))))) (fun p=>(p.1.2.2.2.2.1,p.2.1.1,(aG.mk p.2.2.2.2.2.2.1 p.2.2.1.2.1 p.2.2.2.2.2.2.2.1 p.2.2.2.2.2.2.2.2.1),(aH.mk p.2.2.2.1.1 p.2.2.2.1.2.1 p.2.2.2.1.2.2.1 p.2.2.2.1.2.2.2.1 (t8 p.2).1 p.2.2.2.1.2.2.2.2.2.1 (t8 p.2).2.1),(aG.mk (t8 p.2).2.2.1 p.2.2.2.2.1.2.1 (t8 p.2).2.2.2.1 (t8 p.2).2.2.2.2.1),(aH.mk p.2.2.2.2.2.1.1 p.2.2.2.2.2.1.2.1 p.2.2.2.2.2.1.2.2.1 p.2.2.2.2.2.1.2.2.2.1 (t8 p.2).2.2.2.2.2.1 p.2.2.2.2.2.1.2.2.2.2.2.1 (t8 p.2).2.2.2.2.2.2.1))) (fun (x:kU)=>(((),((),((),((),(x.1,()))))),((x.2.1,()),(((),(x.2.2.1.free,((),((),())))),((x.2.2.2.1.device,(x.2.2.2.1.aA,(x.2.2.2.1.bN,(x.2.2.2.1.last,((),(x.2.2.2.1.ids,((),()))))))),(((),(x.2.2.2.2.1.free,((),((),())))),((x.2.2.2.2.2.device,(x.2.2.2.2.2.aA,(x.2.2.2.2.2.bN,(x.2.2.2.2.2.last,((),(x.2.2.2.2.2.ids,((),()))))))),(x.2.2.1.af,(x.2.2.1.aK,(x.2.2.1.bB,(x.2.2.2.1.aW,(x.2.2.2.1.used,(x.2.2.2.2.1.af,(x.2.2.2.2.1.aK,(x.2.2.2.2.1.bB,(x.2.2.2.2.2.aW,(x.2.2.2.2.2.used,()))))))))))))))))) (fun _=>rfl)
def Ia:aM TL:=aM.one Zy.dec (fun p=>vt p.1 p.2.1 p.2.2.1 p.2.2.2.1 p.2.2.2.2.1 p.2.2.2.2.2) (.exit 3) YG.enc
theorem Yq:bM PR (bm Ia) D1 KW (bV (bC oW.body) 17):=lA (cs:=[]) (ss:=[]) (E:=aX tab sl sh [] []) (an:=oW.an) (aY base aN aN) zT (by kernel_rfl) (ae.du rfl xV.keys (aC (.inl (by kernel_rfl)) (aC (.inl (by kernel_rfl)) aN))) rfl (fun x y h=>⟨_,h⟩) (fun _=>rfl) fun _=>by kernel_rfl
abbrev sJ:=(List aH)×Int×Int×Int×Int
def Er (l1:List aH)(i1:Int)(i2:Int)(i3:Int)(i4:Int):Option ((sJ)⊕(((Int×Int)⊕(Int×Int)))) :=
 cond (decide (i3 < i2))
 (cond (decide (0≤i3))
 (ob (l1[i3.toNat]?) fun e0 =>
 cond (e0.device == i4)
 (some (.inr (.inr (i3,i4))))
 (some (.inl (l1,i1,i2,(aF (i3+1)),i4))))
 none)
 (some (.inr (.inl (i1,i4))))
def yk (p:sJ):Option ((sJ)⊕(((Int×Int)⊕(Int×Int)))):=Er p.1 p.2.1 p.2.2.1 p.2.2.2.1 p.2.2.2.2
def Ak (l1:List aH)(i1:Int)(i2:Int)(i3:Int)(i4:Int):Option (((Int×Int)⊕(Int×Int))):=bZ yk ((i2 - i3).toNat+2) (l1,i1,i2,i3,i4)
def Vw:kT (sJ):=kO (kS 1 (kC (kF ch) (kC (aD.xs (aD.sc (aD.dY 153 [] [(0,0)]))) (kC kI (kC kI (kC kI kN))))) (kC (aD.var 0 3 (kC kJ kN)) kN)) (fun p=>(p.1.1,p.1.2.2.1,p.1.2.2.2.1,p.1.2.2.2.2.1,p.2.1.1)) (fun (x:sJ)=>((x.1,((),(x.2.1,(x.2.2.1,(x.2.2.2.1,()))))),((x.2.2.2.2,()),()))) (fun _=>rfl)
def FD:kT (Int×Int):=kO (kS 2 (kC kI kN) (kC (aD.var 0 3 (kC kJ kN)) kN)) (fun p=>(p.1.1,p.2.1.1)) (fun (x:Int×Int)=>((x.1,()),((x.2,()),()))) (fun _=>rfl)
def FQ:aM TL:=aM.two Vw.dec (fun p=>Ak p.1 p.2.1 p.2.2.1 p.2.2.2.1 p.2.2.2.2) (.exit 0) .ret FD.enc FD.enc
theorem WB:bM PR (bm FQ) xA GV (bV (bC vN.body) 2):=lB (cs:=[]) (ss:=[]) (E:=aX tab sl sh [(153,RP)] []) (an:=vN.an) (aY base (aC (aHa.ak rfl aN) aN) aN) yk (by kernel_rfl) (sB rfl KU.keys (by kernel_rfl)) rfl rfl (fun x y h=>⟨_,h⟩) (fun _=>rfl) fun _=>by kernel_rfl
def tm (bx1:aG)(i1:Int)(i2:Int)(i3:Int)(l1:List Want):Option (aG×aH×Int) :=
 ob (ib i1 0 5) fun r0 =>
 cond (!r0)
 (ob (gE bx1) fun y3 =>
 some (y3,(aH.mk 0 0 0 0 [] [] []),1))
 (ob (ib i2 1 1073741824) fun r1 =>
 cond (!r1)
 (ob (gE bx1) fun y4 =>
 some (y4,(aH.mk 0 0 0 0 [] [] []),1))
 (ob (ib i3 0 2199023255552) fun r2 =>
 cond (cond (!r2) true (decide ((l1.length:Int) > 5)))
 (ob (gE bx1) fun y5 =>
 some (y5,(aH.mk 0 0 0 0 [] [] []),1))
 (ob (Ak bx1.aK 0 (bx1.aK.length:Int) 0 i1) fun y6 =>
 two y6 (fun a7 =>
 ob (gE bx1) fun y10 =>
 ob (wN l1 0 l1 (l1.length:Int) 0 bx1 a7.2 (aG.mk [] [] [] []) (aH.mk 0 0 0 0 [] [] []) y10 (aH.mk a7.2 i2 i3 (-1) [] [] [])) fun y11 =>
 two y11 (fun a12 =>
 ob (vt 0 a12.2.2.1 a12.2.2.2.1 a12.2.2.2.2.1 a12.2.2.2.2.2.1 a12.2.2.2.2.2.2) fun y14 =>
 ob (gJ y14.2.2.2.2.2) fun y15 =>
 cond (decide (0≤y14.1))
 (cond (decide (y14.1≤(y14.2.2.2.2.1.aK.length:Int)))
 (cond (fits ((((y14.2.2.2.2.1.aK.take y14.1.toNat)++[y15])++((y14.2.2.2.2.1.aK.take y14.2.2.2.2.1.aK.length).drop y14.1.toNat)).length))
 (ob (gE (aG.mk y14.2.2.2.2.1.af y14.2.2.2.2.1.free (((y14.2.2.2.2.1.aK.take y14.1.toNat)++[y15])++((y14.2.2.2.2.1.aK.take y14.2.2.2.2.1.aK.length).drop y14.1.toNat)) y14.2.2.2.2.1.bB)) fun y16 =>
 ob (gJ y14.2.2.2.2.2) fun y17 =>
 some (y16,y17,0))
 none)
 none)
 none) (fun b13 =>
 some (b13.2.2.2.1,b13.2.2.2.2.1,b13.1))) (fun b8 =>
 cond (decide (b8.1≥0))
 (ob (gE bx1) fun y9 =>
 some (y9,(aH.mk 0 0 0 0 [] [] []),19))
 (ob (gE bx1) fun y18 =>
 ob (wN l1 0 l1 (l1.length:Int) 0 bx1 b8.2 (aG.mk [] [] [] []) (aH.mk 0 0 0 0 [] [] []) y18 (aH.mk b8.2 i2 i3 (-1) [] [] [])) fun y19 =>
 two y19 (fun a20 =>
 ob (vt 0 a20.2.2.1 a20.2.2.2.1 a20.2.2.2.2.1 a20.2.2.2.2.2.1 a20.2.2.2.2.2.2) fun y22 =>
 ob (gJ y22.2.2.2.2.2) fun y23 =>
 cond (decide (0≤y22.1))
 (cond (decide (y22.1≤(y22.2.2.2.2.1.aK.length:Int)))
 (cond (fits ((((y22.2.2.2.2.1.aK.take y22.1.toNat)++[y23])++((y22.2.2.2.2.1.aK.take y22.2.2.2.2.1.aK.length).drop y22.1.toNat)).length))
 (ob (gE (aG.mk y22.2.2.2.2.1.af y22.2.2.2.2.1.free (((y22.2.2.2.2.1.aK.take y22.1.toNat)++[y23])++((y22.2.2.2.2.1.aK.take y22.2.2.2.2.1.aK.length).drop y22.1.toNat)) y22.2.2.2.2.1.bB)) fun y24 =>
 ob (gJ y22.2.2.2.2.2) fun y25 =>
 some (y24,y25,0))
 none)
 none)
 none) (fun b21 =>
 some (b21.2.2.2.1,b21.2.2.2.2.1,b21.1)))))))
def V5 (p:aG×Int×Int×Int×(List Want)):Option (aG×aH×Int):=tm p.1 p.2.1 p.2.2.1 p.2.2.2.1 p.2.2.2.2
def FH:aQ TL:=aQ.of (DA.cons (DT.agg fq) (DA.cons dI (DA.cons dI (DA.cons dI (DA.one (DT.one Bw)))))) V5 (DA.cons (DT.agg fq) (DA.cons (DT.agg jc) (DA.one dI)))
theorem VY:be PR 131 .keep FH:=bx (cs:=[(122,nK)]) (ss:=[(124,nR),(151,nN),(231007,Kd),(231017,Ia),(1610277002,FQ)]) (E:=aX tab sl sh [(131,oW),(152,Pt),(177,vN)] [(122,.pure),(124,.sum),(151,.sum),(157,(.ins 43))]) (fun _=>by kernel_rfl) (aY base (aC (xV.ak rfl (aC (lC aAB rfl) (aC (lC Yq rfl) aN))) (aC (aIX.ak rfl aN) (aC (KU.ak rfl (aC (lC WB rfl) aN)) aN))) (aC (oD oy rfl) (aC (eF rfl pD) (aC (eF rfl pB) (aC (mH aE2) aN))))) (.inl rfl) xV.enters
def tM (c1:bY):Option (aU×bY) :=
 cond (decide (0≤c1.c.device) && decide (c1.c.device < 6))
 (cond (cond ((cond (decide (c1.c.device=0)) c1.d.dev.a0.aA (cond (decide (c1.c.device=1)) c1.d.dev.a1.aA (cond (decide (c1.c.device=2)) c1.d.dev.a2.aA (cond (decide (c1.c.device=3)) c1.d.dev.a3.aA (cond (decide (c1.c.device=4)) c1.d.dev.a4.aA c1.d.dev.a5.aA))))) == 0) true (decide (c1.c.aA > (cond (decide (c1.c.device=0)) c1.d.dev.a0.aA (cond (decide (c1.c.device=1)) c1.d.dev.a1.aA (cond (decide (c1.c.device=2)) c1.d.dev.a2.aA (cond (decide (c1.c.device=3)) c1.d.dev.a3.aA (cond (decide (c1.c.device=4)) c1.d.dev.a4.aA c1.d.dev.a5.aA))))))))
 (ob (dx 2) fun r1 =>
 some (r1,c1))
 (cond (decide (c1.c.aA < (cond (decide (c1.c.device=0)) c1.d.dev.a0.aA (cond (decide (c1.c.device=1)) c1.d.dev.a1.aA (cond (decide (c1.c.device=2)) c1.d.dev.a2.aA (cond (decide (c1.c.device=3)) c1.d.dev.a3.aA (cond (decide (c1.c.device=4)) c1.d.dev.a4.aA c1.d.dev.a5.aA)))))))
 (ob (dx 16) fun r2 =>
 some (r2,c1))
 (ob (jo c1.d.lost c1.c.device (cond (decide (c1.c.device=0)) c1.d.dev.a0.aA (cond (decide (c1.c.device=1)) c1.d.dev.a1.aA (cond (decide (c1.c.device=2)) c1.d.dev.a2.aA (cond (decide (c1.c.device=3)) c1.d.dev.a3.aA (cond (decide (c1.c.device=4)) c1.d.dev.a4.aA c1.d.dev.a5.aA)))))) fun r0 =>
 cond (r0)
 (ob (dx 16) fun r3 =>
 some (r3,c1))
 (cond (cond (decide (c1.c.n < 1)) true (decide (c1.c.n > 1000)))
 (ob (dx 1) fun r4 =>
 some (r4,c1))
 (ob (tm c1.d.book c1.c.device c1.c.aA (aF (c1.d.now+c1.c.n)) c1.c.cj) fun r5 =>
 cond (r5.2.2 != 0)
 (ob (dx r5.2.2) fun r6 =>
 some (r6,c1))
 (some ((aU.mk 0 0 r5.2.1),(bY.mk (aw.mk r5.1 c1.d.aI c1.d.log c1.d.dev c1.d.lost c1.d.now) c1.c))))))))
 none
def aB4:aD (List (Nat×En TL)) bY:=kO (kC (aD.var 0 100 (kC (kG cY) (kC (kG aj) (kC (kG ch) (kC (kG bA) (kC (kA 86) (kC (kA 87) (kC (kA 88) (kC (kA 89) (kC (kA 90) (kC (kA 91) (kC (kA 92) (kC (kA 93) (kC (kA 94) (kC (kA 95) (kC (kA 96) (kC (kA 97) (kC (kA 98) (kC (kA 99) (kC (kA 100) (kC (kA 101) (kC (kA 102) (kC (kA 103) (kC (kA 104) (kC kJ (kC kJ (kC kJ (kC kJ (kC kJ (kC kJ (kC kJ (kC kJ (kC (kA 105) (kC (kA 106) (kC (kA 107) (kC kJ (kC kJ (kC kJ (kC kJ (kC kJ (kC kJ (kC kJ (kC kJ (kC (kA 108) (kC (kA 109) (kC (kA 110) (kC kJ (kC kJ (kC kJ (kC kJ (kC kJ (kC kJ (kC kJ (kC kJ (kC (kA 111) (kC (kA 112) (kC (kA 113) (kC kJ (kC kJ (kC kJ (kC kJ (kC kJ (kC kJ (kC kJ (kC kJ (kC (kA 114) (kC (kA 115) (kC (kA 116) (kC kJ (kC kJ (kC kJ (kC kJ (kC kJ (kC kJ (kC kJ (kC kJ (kC (kA 117) (kC (kA 118) (kC (kA 119) (kC kJ (kC kJ (kC kJ (kC kJ (kC kJ (kC kJ (kC kJ (kC kJ (kC (kA 120) (kC (kA 121) (kC (kA 122) (kC (kA 123) (kC kJ (kC kJ (kC kJ (kC kJ (kC kJ (kC kJ (kC (kG gL) (kC (kG eH) kN))))))))))))))))))))))))))))))))))))))))))))))))))))))))))))))))))))))))))))))))))))))))))))))))))) (kC (aD.dead 1) (kC (aD.dead 2) (kC (aD.dead 3) (kC (aD.dead 4) (kC (aD.dead 5) (kC (aD.dead 6) (kC (aD.dead 7) (kC (aD.dead 8) (kC (aD.dead 9) (kC (aD.dead 10) (kC (aD.dead 11) (kC (aD.dead 12) (kC (aD.dead 13) (kC (aD.dead 14) (kC (aD.dead 15) (kC (aD.dead 16) (kC (aD.dead 17) (kC (aD.dead 18) (kC (aD.dead 19) (kC (aD.dead 20) (kC (aD.dead 21) (kC (aD.dead 22) (kC (aD.dead 23) (kC (aD.dead 24) (kC (aD.dead 25) (kC (aD.dead 26) (kC (aD.dead 27) (kC (aD.dead 28) (kC (aD.dead 29) (kC (aD.dead 30) (kC (aD.dead 31) (kC (aD.dead 32) (kC (aD.dead 33) (kC (aD.dead 34) (kC (aD.dead 35) (kC (aD.dead 36) (kC (aD.dead 37) (kC (aD.dead 38) (kC (aD.dead 39) (kC (aD.dead 40) (kC (aD.dead 41) (kC (aD.dead 42) (kC (kR 86 66 bQ) (kC (kR 87 142 dU) (kC (kR 88 145 dE) (kC (kR 89 59 bQ) (kC (kR 90 129 dS) (kC (kR 91 149 dQ) (kC (kR 92 66 bQ) (kC (kR 93 142 dU) (kC (kR 94 145 dE) (kC (kR 95 59 bQ) (kC (kR 96 129 dS) (kC (kR 97 149 dQ) (kC (kR 98 66 bQ) (kC (kR 99 142 dU) (kC (kR 100 145 dE) (kC (kR 101 59 bQ) (kC (kR 102 129 dS) (kC (kR 103 149 dQ) (kC (kR 104 61 eH) (kC (kR 105 133 cD) (kC (kR 106 153 aj) (kC (kR 107 3 bA) (kC (kR 108 133 cD) (kC (kR 109 153 aj) (kC (kR 110 3 bA) (kC (kR 111 133 cD) (kC (kR 112 153 aj) (kC (kR 113 3 bA) (kC (kR 114 133 cD) (kC (kR 115 153 aj) (kC (kR 116 3 bA) (kC (kR 117 133 cD) (kC (kR 118 153 aj) (kC (kR 119 3 bA) (kC (kR 120 133 cD) (kC (kR 121 153 aj) (kC (kR 122 3 bA) (kC (kR 123 66 bQ) kN))))))))))))))))))))))))))))))))))))))))))))))))))))))))))))))))))))))))))))))))) (fun p=>(bY.mk (aw.mk (aG.mk p.1.1 p.1.2.1 p.1.2.2.1 p.1.2.2.2.1) (gQ.mk (ag.mk (t8 (t32 p)).2.2.2.1 (t8 (t32 p)).2.2.2.2.1 (t8 (t32 p)).2.2.2.2.2.1 (t8 (t32 p)).2.2.2.2.2.2.1 (t8 (t32 p)).2.2.2.2.2.2.2.1 (t8 (t8 (t32 p))).1) (ag.mk (t8 (t8 (t32 p))).2.1 (t8 (t8 (t32 p))).2.2.1 (t8 (t8 (t32 p))).2.2.2.1 (t8 (t8 (t32 p))).2.2.2.2.1 (t8 (t8 (t32 p))).2.2.2.2.2.1 (t8 (t8 (t32 p))).2.2.2.2.2.2.1) (ag.mk (t8 (t8 (t32 p))).2.2.2.2.2.2.2.1 (t8 (t8 (t8 (t32 p)))).1 (t8 (t8 (t8 (t32 p)))).2.1 (t8 (t8 (t8 (t32 p)))).2.2.1 (t8 (t8 (t8 (t32 p)))).2.2.2.1 (t8 (t8 (t8 (t32 p)))).2.2.2.2.1)) (t8 (t8 (t8 (t32 p)))).2.2.2.2.2.1 (eP.mk (Device.mk (t8 (t8 p.1)).2.2.2.2.2.2.2.1 (t8 (t8 (t8 p.1))).1 (aU.mk (t8 (t8 (t8 p.1))).2.1 (t8 (t8 (t8 p.1))).2.2.1 (aH.mk (t8 (t8 (t8 p.1))).2.2.2.1 (t8 (t8 (t8 p.1))).2.2.2.2.1 (t8 (t8 (t8 p.1))).2.2.2.2.2.1 (t8 (t8 (t8 p.1))).2.2.2.2.2.2.1 (t8 (t8 (t8 (t32 p)))).2.2.2.2.2.2.1 (t8 (t8 (t8 (t32 p)))).2.2.2.2.2.2.2.1 (t32 (t32 p)).1))) (Device.mk (t32 p.1).2.2.1 (t32 p.1).2.2.2.1 (aU.mk (t32 p.1).2.2.2.2.1 (t32 p.1).2.2.2.2.2.1 (aH.mk (t32 p.1).2.2.2.2.2.2.1 (t32 p.1).2.2.2.2.2.2.2.1 (t8 (t32 p.1)).1 (t8 (t32 p.1)).2.1 (t32 (t32 p)).2.1 (t32 (t32 p)).2.2.1 (t32 (t32 p)).2.2.2.1))) (Device.mk (t8 (t32 p.1)).2.2.2.2.2.1 (t8 (t32 p.1)).2.2.2.2.2.2.1 (aU.mk (t8 (t32 p.1)).2.2.2.2.2.2.2.1 (t8 (t8 (t32 p.1))).1 (aH.mk (t8 (t8 (t32 p.1))).2.1 (t8 (t8 (t32 p.1))).2.2.1 (t8 (t8 (t32 p.1))).2.2.2.1 (t8 (t8 (t32 p.1))).2.2.2.2.1 (t32 (t32 p)).2.2.2.2.1 (t32 (t32 p)).2.2.2.2.2.1 (t32 (t32 p)).2.2.2.2.2.2.1))) (Device.mk (t8 (t8 (t8 (t32 p.1)))).1 (t8 (t8 (t8 (t32 p.1)))).2.1 (aU.mk (t8 (t8 (t8 (t32 p.1)))).2.2.1 (t8 (t8 (t8 (t32 p.1)))).2.2.2.1 (aH.mk (t8 (t8 (t8 (t32 p.1)))).2.2.2.2.1 (t8 (t8 (t8 (t32 p.1)))).2.2.2.2.2.1 (t8 (t8 (t8 (t32 p.1)))).2.2.2.2.2.2.1 (t8 (t8 (t8 (t32 p.1)))).2.2.2.2.2.2.2.1 (t32 (t32 p)).2.2.2.2.2.2.2.1 (t8 (t32 (t32 p))).1 (t8 (t32 (t32 p))).2.1))) (Device.mk (t32 (t32 p.1)).2.2.2.1 (t32 (t32 p.1)).2.2.2.2.1 (aU.mk (t32 (t32 p.1)).2.2.2.2.2.1 (t32 (t32 p.1)).2.2.2.2.2.2.1 (aH.mk (t32 (t32 p.1)).2.2.2.2.2.2.2.1 (t8 (t32 (t32 p.1))).1 (t8 (t32 (t32 p.1))).2.1 (t8 (t32 (t32 p.1))).2.2.1 (t8 (t32 (t32 p))).2.2.1 (t8 (t32 (t32 p))).2.2.2.1 (t8 (t32 (t32 p))).2.2.2.2.1))) (Device.mk (t8 (t32 (t32 p.1))).2.2.2.2.2.2.1 (t8 (t32 (t32 p.1))).2.2.2.2.2.2.2.1 (aU.mk (t8 (t8 (t32 (t32 p.1)))).1 (t8 (t8 (t32 (t32 p.1)))).2.1 (aH.mk (t8 (t8 (t32 (t32 p.1)))).2.2.1 (t8 (t8 (t32 (t32 p.1)))).2.2.2.1 (t8 (t8 (t32 (t32 p.1)))).2.2.2.2.1 (t8 (t8 (t32 (t32 p.1)))).2.2.2.2.2.1 (t8 (t32 (t32 p))).2.2.2.2.2.1 (t8 (t32 (t32 p))).2.2.2.2.2.2.1 (t8 (t32 (t32 p))).2.2.2.2.2.2.2.1)))) (t8 (t8 (t32 (t32 p)))).1 (t8 (t8 (t8 (t32 (t32 p.1))))).2.2.1) (cH.mk (t8 (t8 (t8 (t32 (t32 p.1))))).2.2.2.1 (t8 (t8 (t8 (t32 (t32 p.1))))).2.2.2.2.1 (t8 (t8 (t8 (t32 (t32 p.1))))).2.2.2.2.2.1 (t8 (t8 (t8 (t32 (t32 p.1))))).2.2.2.2.2.2.1 (t8 (t8 (t8 (t32 (t32 p.1))))).2.2.2.2.2.2.2.1 (t32 (t32 (t32 p.1))).1 (t32 (t32 (t32 p.1))).2.1))) (fun (x:bY)=>((x.d.book.af,(x.d.book.free,(x.d.book.aK,(x.d.book.bB,((),((),((),((),((),((),((),((),((),((),((),((),((),((),((),((),((),((),((),(x.d.dev.a0.aA,(x.d.dev.a0.aO,(x.d.dev.a0.aB.err,(x.d.dev.a0.aB.n,(x.d.dev.a0.aB.aE.device,(x.d.dev.a0.aB.aE.aA,(x.d.dev.a0.aB.aE.bN,(x.d.dev.a0.aB.aE.last,((),((),((),(x.d.dev.a1.aA,(x.d.dev.a1.aO,(x.d.dev.a1.aB.err,(x.d.dev.a1.aB.n,(x.d.dev.a1.aB.aE.device,(x.d.dev.a1.aB.aE.aA,(x.d.dev.a1.aB.aE.bN,(x.d.dev.a1.aB.aE.last,((),((),((),(x.d.dev.a2.aA,(x.d.dev.a2.aO,(x.d.dev.a2.aB.err,(x.d.dev.a2.aB.n,(x.d.dev.a2.aB.aE.device,(x.d.dev.a2.aB.aE.aA,(x.d.dev.a2.aB.aE.bN,(x.d.dev.a2.aB.aE.last,((),((),((),(x.d.dev.a3.aA,(x.d.dev.a3.aO,(x.d.dev.a3.aB.err,(x.d.dev.a3.aB.n,(x.d.dev.a3.aB.aE.device,(x.d.dev.a3.aB.aE.aA,(x.d.dev.a3.aB.aE.bN,(x.d.dev.a3.aB.aE.last,((),((),((),(x.d.dev.a4.aA,(x.d.dev.a4.aO,(x.d.dev.a4.aB.err,(x.d.dev.a4.aB.n,(x.d.dev.a4.aB.aE.device,(x.d.dev.a4.aB.aE.aA,(x.d.dev.a4.aB.aE.bN,(x.d.dev.a4.aB.aE.last,((),((),((),(x.d.dev.a5.aA,(x.d.dev.a5.aO,(x.d.dev.a5.aB.err,(x.d.dev.a5.aB.n,(x.d.dev.a5.aB.aE.device,(x.d.dev.a5.aB.aE.aA,(x.d.dev.a5.aB.aE.bN,(x.d.dev.a5.aB.aE.last,((),((),((),((),(x.d.now,(x.c.kind,(x.c.device,(x.c.aA,(x.c.aO,(x.c.n,(x.c.cj,(x.c.ops,())))))))))))))))))))))))))))))))))))))))))))))))))))))))))))))))))))))))))))))))))))))))))))))))))),((),((),((),((),((),((),((),((),((),((),((),((),((),((),((),((),((),((),((),((),((),((),((),((),((),((),((),((),((),((),((),((),((),((),((),((),((),((),((),((),((),((),(x.d.aI.a0.v,(x.d.aI.a0.cB,(x.d.aI.a0.bp,(x.d.aI.a0.gone,(x.d.aI.a0.bJ,(x.d.aI.a0.binds,(x.d.aI.a1.v,(x.d.aI.a1.cB,(x.d.aI.a1.bp,(x.d.aI.a1.gone,(x.d.aI.a1.bJ,(x.d.aI.a1.binds,(x.d.aI.a2.v,(x.d.aI.a2.cB,(x.d.aI.a2.bp,(x.d.aI.a2.gone,(x.d.aI.a2.bJ,(x.d.aI.a2.binds,(x.d.log,(x.d.dev.a0.aB.aE.aW,(x.d.dev.a0.aB.aE.ids,(x.d.dev.a0.aB.aE.used,(x.d.dev.a1.aB.aE.aW,(x.d.dev.a1.aB.aE.ids,(x.d.dev.a1.aB.aE.used,(x.d.dev.a2.aB.aE.aW,(x.d.dev.a2.aB.aE.ids,(x.d.dev.a2.aB.aE.used,(x.d.dev.a3.aB.aE.aW,(x.d.dev.a3.aB.aE.ids,(x.d.dev.a3.aB.aE.used,(x.d.dev.a4.aB.aE.aW,(x.d.dev.a4.aB.aE.ids,(x.d.dev.a4.aB.aE.used,(x.d.dev.a5.aB.aE.aW,(x.d.dev.a5.aB.aE.ids,(x.d.dev.a5.aB.aE.used,(x.d.lost,())))))))))))))))))))))))))))))))))))))))))))))))))))))))))))))))))))))))))))))))))) (fun _=>rfl)
def tH:kT (aU×bY):=kO (kS 124 (kC (aD.xs (aD.sa vQ)) kN) aB4) (fun p=>(p.1.1,p.2)) (fun (x:aU×bY)=>((x.1,()),x.2)) (fun _=>rfl)
def Uu (p:bY):Option (aU×bY):=tM p
def El:aM TL:=aM.one lV.dec Uu .normal tH.enc
theorem Uw:fL PR 85 El:=sM (cs:=[(129,nS),(39,jm),(131,FH)]) (ss:=[]) (E:=aX tab sl sh [(85,Tv),(130,wl),(128,my)] [(129,(.rd 89 66)),(39,.keep),(131,.keep)]) (aY base (aC (T1.ak rfl aN) (aC (Dw.ak rfl aN) (aC (oV.ak rfl aN) aN))) (aC (oD pE rfl) (aC (oD ki rfl) (aC (oD VY rfl) aN)))) T1.enters fun _=>by kernel_rfl
def jk (l1:List Op)(i1:Int)(i2:Int):Option Int :=
  cond (fits l1.length) (some (iR (fun (o:Op)=>o.aP.device == i1 && o.aP.aA == i2) (fun o=>o.aP.seq) l1)) none
def Ux (p:(List Op)×Int×Int):Option Int:=jk p.1 p.2.1 p.2.2
def nM:aQ TL:=aQ.of (DA.cons (DT.one Cp) (DA.cons dI (DA.one dI))) Ux (DA.one dI)
theorem aBM {l:TL}{a:List Op}(h:mw (.fz l)=some a):l=.eV a:=by
  cases l<;>simp only [mw,Option.some.injEq,reduceCtorEq] at h
  rw [h]
theorem Ng:∀ {a:List Op} {G:Fz} {xs:List Value},dG G (a.map mG).flatten xs→∃ es:List df,xs=nC es∧es.map (fun x=>(x.d,x.e,x.s))=a.map fun e=>(e.aP.device,e.aP.aA,e.aP.seq)
  | [],_,_,h=>by cases h;exact ⟨[],rfl,rfl⟩
  | e::r,_,_,h=>by
    cases h with | cons h1 h=>cases h with | cons h2 h=>cases h with | cons h3 h =>
    cases h with | cons k0 h=>cases h with | cons k1 h=>cases h with | cons k2 h=>cases h with | cons k3 h =>
    cases h with | cons k4 h=>cases h with | cons k5 h=>cases h with | cons k6 h=>cases h with | cons k7 h =>
    cases h1;cases h2;cases h3
    obtain ⟨es,rfl,he⟩:=Ng h
    refine ⟨⟨e.aP.device,e.aP.aA,e.aP.seq,_,_,_,_,_,_,_,_,?_⟩::es,rfl,by simp [he]⟩
    intro v hv
    simp only [List.mem_cons,List.not_mem_nil,or_false] at hv
    rcases hv with rfl | rfl | rfl | rfl | rfl | rfl | rfl | rfl
    · exact k0.one
    · exact k1.one
    · exact k2.one
    · exact k3.one
    · exact k4.one
    · exact k5.one
    · exact k6.one
    · exact k7.one
theorem IK {α β:Type}(g:α→β)(p:β→Bool)(n:β→Int)(l:List α):iR p n (l.map g)=iR (fun x=>p (g x)) (fun x=>n (g x)) l:=by
  unfold iR
  rw [← List.map_reverse,List.find?_map]
  cases h:l.reverse.find? (p∘g) with
  | none=>rw [show (fun x=>p (g x))=p∘g from rfl,h];rfl
  | some x=>rw [show (fun x=>p (g x))=p∘g from rfl,h];rfl
theorem oz:be PR 133 (.rd 22 61) nM:=by
  refine ⟨enters_of Tryz.func133 (by kernel_rfl) (c:=ah Tryz.f133.body) rfl,by simp [io],?_⟩
  rintro l ys rs ⟨x,y,hx,hy,rfl⟩ G w k cells t sv xs vs hk hsv hc hlen hrep _ hys
  have hle:=(DA.cons (DT.one Cp) (DA.cons dI (DA.one dI))).ok (.c (.im (.fz l))::ys) x hx
  obtain ⟨a,ha,hx⟩:=cm.1 hx
  cases aBM ha
  obtain ⟨b',hb',hx⟩:=cm.1 hx
  cases hx
  cases hle with
  | cons _ h2 =>
  have h3:=qG h2 hys
  obtain ⟨i1,i2⟩:=b'
  cases h3 with
  | cons v1 h3=>cases h3 with
  | cons v2 h3 =>
  cases h3;cases v1;cases v2
  obtain ⟨ad,cap,rfl,_,hcs⟩:=hc
  have hcell:w.cell? ⟨k,22,none⟩=some (.slice ad (LI.aJ (TL.eV a)).length cap):=by rw [ic hk];simpa using hsv
  have hln:(LI.aJ (TL.eV a)).length=a.length:=by simp [LI.aJ]
  rw [hln] at hcell hcs
  have hF:jk a i1 i2=some y:=hy
  unfold jk at hF
  cases hft:fits a.length with
  | false=>rw [hft] at hF;cases hF
  | true =>
  rw [hft,cond_true] at hF
  cases hF
  have hl:=of_decide_eq_true hft
  replace hrep:dG G (a.map mG).flatten xs:=hrep
  obtain ⟨es,rfl,he⟩:=Ng hrep
  have hm:es.length=a.length:=by have:=congrArg List.length he;simpa using this
  refine Calls.mono (callsIn_wide.1 (Xm (Fence.wide) 3 trivial trivial trivial rfl (Nat.le_refl _) w k ad cap es i1 i2 (by rw [hm];exact hl) (by rw [hm];exact hcell) (by rw [hm];exact hcs))) ?_
  rintro en w' ⟨rfl,hb'⟩
  refine ⟨_,rfl,?_,hb'⟩
  have e1:iR (fun x:df=>x.d == i1 && x.e == i2) (fun x=>x.s) es=iR (fun t:K3=>t.1 == i1 && t.2.1 == i2) (fun t=>t.2.2) (es.map fun x=>(x.d,x.e,x.s)):=(IK (fun x:df=>(x.d,x.e,x.s)) (fun t:K3=>t.1 == i1 && t.2.1 == i2) (fun t:K3=>t.2.2) es).symm
  rw [e1,he,IK]
  exact .int
abbrev rF:=(List aH)×Int×Int×Int×Int×Int
def Ey (l1:List aH)(i1:Int)(i2:Int)(i3:Int)(i4:Int)(i5:Int):Option ((rF)⊕(((Int×Int×Int)⊕(Int×Int×Int)))) :=
 cond (decide (i3 < i2))
 (cond (decide (0≤i3))
 (ob (l1[i3.toNat]?) fun e0 =>
 cond (cond (e0.device == i4) (e0.aA == i5) false)
 (some (.inr (.inr (i3,i4,i5))))
 (some (.inl (l1,i1,i2,(aF (i3+1)),i4,i5))))
 none)
 (some (.inr (.inl (i1,i4,i5))))
def yh (p:rF):Option ((rF)⊕(((Int×Int×Int)⊕(Int×Int×Int)))):=Ey p.1 p.2.1 p.2.2.1 p.2.2.2.1 p.2.2.2.2.1 p.2.2.2.2.2
def Is (l1:List aH)(i1:Int)(i2:Int)(i3:Int)(i4:Int)(i5:Int):Option (((Int×Int×Int)⊕(Int×Int×Int))):=bZ yh ((i2 - i3).toNat+2) (l1,i1,i2,i3,i4,i5)
def WZ:kT (rF):=kO (kS 2 (kC (kF ch) (kC (aD.xs (aD.sc (aD.dY 196 [] [(0,0),(1,0)]))) (kC kI (kC kI (kC kI kN))))) (kC (aD.var 0 3 (kC kJ kN)) (kC (aD.var 1 3 (kC kJ kN)) kN))) (fun p=>(p.1.1,p.1.2.2.1,p.1.2.2.2.1,p.1.2.2.2.2.1,p.2.1.1,p.2.2.1.1)) (fun (x:rF)=>((x.1,((),(x.2.1,(x.2.2.1,(x.2.2.2.1,()))))),((x.2.2.2.2.1,()),((x.2.2.2.2.2,()),())))) (fun _=>rfl)
def FK:kT (Int×Int×Int):=kO (kS 4 (kC kI kN) (kC (aD.var 0 3 (kC kJ kN)) (kC (aD.var 1 3 (kC kJ kN)) kN))) (fun p=>(p.1.1,p.2.1.1,p.2.2.1.1)) (fun (x:Int×Int×Int)=>((x.1,()),((x.2.1,()),((x.2.2,()),())))) (fun _=>rfl)
def Fa:aM TL:=aM.two WZ.dec (fun p=>Is p.1 p.2.1 p.2.2.1 p.2.2.2.1 p.2.2.2.2.1 p.2.2.2.2.2) (.exit 0) .ret FK.enc FK.enc
theorem Vx:bM PR (bm Fa) xA Fg (bV (bC vA.body) 2):=lB (cs:=[]) (ss:=[]) (E:=aX tab sl sh [(196,QG)] []) (an:=vA.an) (aY base (aC (aGs.ak rfl aN) aN) aN) yh (by kernel_rfl) (sB rfl Jp.keys (by kernel_rfl)) rfl rfl (fun x y h=>⟨_,h⟩) (fun _=>rfl) fun _=>by kernel_rfl
def nh (bx1:aG)(i1:Int)(i2:Int):Option Int :=
 ob (Is bx1.aK 0 (bx1.aK.length:Int) 0 i1 i2) fun y0 =>
 two y0 (fun _ =>
 some (-1)) (fun b2 =>
 some b2.1)
def Wq (p:aG×Int×Int):Option Int:=nh p.1 p.2.1 p.2.2
def tZ:aQ TL:=aQ.of (DA.cons (DT.agg fq) (DA.cons dI (DA.one dI))) Wq (DA.one dI)
theorem zG:be PR 162 .pure tZ:=bx (cs:=[]) (ss:=[(1920277002,Fa)]) (E:=aX tab sl sh [(162,Q4),(177,vA)] []) (fun _=>by kernel_rfl) (aY base (aC (S2.ak rfl aN) (aC (Jp.ak rfl (aC (lC Vx rfl) aN)) aN)) aN) (.inr rfl) S2.enters
def nY (bx1:aG)(i1:Int)(i2:Int):Option (aH×Bool) :=
 ob (nh bx1 i1 i2) fun r0 =>
 cond (decide (r0 < 0))
 (some ((aH.mk 0 0 0 0 [] [] []),false))
 (cond (decide (0≤r0))
 (ob (bx1.aK[r0.toNat]?) fun e1 =>
 ob (gJ e1) fun y2 =>
 some (y2,true))
 none)
def Vz (p:aG×Int×Int):Option (aH×Bool):=nY p.1 p.2.1 p.2.2
def tO:aQ TL:=aQ.of (DA.cons (DT.agg fq) (DA.cons dI (DA.one dI))) Vz (DA.cons (DT.agg jc) (DA.one dB))
theorem yq:be PR 134 .keep tO:=bx (cs:=[(162,tZ)]) (ss:=[(151,nN)]) (E:=aX tab sl sh [(134,RE)] [(162,.pure),(151,.sum)]) (fun _=>by kernel_rfl) (aY base (aC (SD.ak rfl aN) aN) (aC (oD zG rfl) (aC (eF rfl pB) aN))) (.inl rfl) SD.enters
def j9 (i1:Int)(i2:Int)(i3:Int):Option Bool :=
 some (cond (decide (i1≥i2)) (decide (i1≤i3)) false)
def Vl (p:Int×Int×Int):Option Bool:=j9 p.1 p.2.1 p.2.2
def yn:aQ TL:=aQ.of (DA.cons dI (DA.cons dI (DA.one dI))) Vl (DA.one dB)
theorem F1:be PR 182 .pure yn:=bx (cs:=[]) (ss:=[]) (E:=aX tab sl sh [(182,SJ)] []) (fun _=>by kernel_rfl) (aY base (aC (SB.ak rfl aN) aN) aN) (.inr rfl) SB.enters
end
end Go.Proofs.YtcjpeijiaojeiaaGreat
