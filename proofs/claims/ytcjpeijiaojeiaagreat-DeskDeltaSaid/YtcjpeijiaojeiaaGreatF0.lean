/- By program (gen.py): the functions in their typed form. -/
import Derived.Test.YtcjpeijiaojeiaaGreatFn
import Derived.Test.YtcjpeijiaojeiaaGreatLb
namespace Go.Proofs.YtcjpeijiaojeiaaGreat
open Go Go.Ev
set_option maxRecDepth 1000000
noncomputable section
abbrev cL:=List (Nat×DFn TL)
abbrev sL:=List (Nat×SFn TL)
def cZ:cL:=[]
def sZ:sL:=[]
abbrev kI:Cod (X TL) Int:=Cod.xs (Cod.sc (Cod.im (Cod.int .i64)))
abbrev kB:Cod (X TL) Bool:=Cod.xs (Cod.sc (Cod.im Cod.bool))
abbrev kD:Cod (C TL) Bool:=Cod.im Cod.bool
abbrev kE:Cod (C TL) ByteArray:=Cod.im Cod.str
abbrev kR {T:Type}(i:Nat)(e:TypeId)(j:Cod.Inj TL T):=Cod.arr i e j
abbrev kA (i:Nat):Cod (C TL) Unit:=Cod.ar i
abbrev kO {α β γ:Type}(c:Cod α β)(f:β→γ)(g:γ→β)(h:∀ b,g (f b)=b):=Cod.iso c f g h
abbrev kS {β γ:Type}(n:Nat)(a:Cod (List (X TL)) β)(b:Cod (List (Nat×En TL)) γ):=Cod.cst n a b
abbrev kT:=Cod (Cst TL)
abbrev kF {T:Type}(j:Cod.Inj TL T):Cod (X TL) T:=Cod.xs (Cod.sc (Cod.im (Cod.fz j)))
abbrev kG {T:Type}(j:Cod.Inj TL T):Cod (C TL) T:=Cod.im (Cod.fz j)
abbrev kP (a b:Nat):Cod (X TL) Unit:=Cod.xs (Cod.sc (Cod.ptr a b))
abbrev kJ:Cod (C TL) Int:=Cod.im (Cod.int .i64)
abbrev kC {α β γ:Type}(c:Cod α β)(d:Cod (List α) γ):=Cod.cons c d
abbrev kN {α:Type}:Cod (List α) Unit:=Cod.nil
abbrev dI:DT TL Int:=DT.one (DI.int .i64)
abbrev dB:DT TL Bool:=DT.one DI.bool
def DRun (cs:cL)(ss:sL)(E:Env)(f:FuncId){X Y:Type}(a:DA TL X)(u:X→Option Y)(r:DA TL Y):Prop:=∀ x,Out.run (mkO cs ss) (evOrc E 12 20 f (a.enc x)) r.dec=u x
theorem dok {P:Program}{cs:cL}{ss:sL}{E:Env}{f:FuncId}{kd:OrcKind}{X Y:Type}{a:DA TL X}{u:X→Option Y}{r:DA TL Y}(h:DRun cs ss E f a u r)(hE:EnvOK P (mkD cs ss) E)(hk:kd=.keep∨kd=.pure)(hen:Enters P f):DOK P f kd (DFn.of a u r):=data_of hE hk hen a u r h
theorem lC {P:Program}{nt:Nat}{q:LoopA}{b:Code}{d:SFn TL}{cs:cL}{ss:sL}(h:LoopOK P (oneS d) nt q b)(hd:lookU ss q.sid=some d):LoopOK P (mkD cs ss) nt q b:=LoopOK.cast h hd
theorem oD {P:Program}{cs:cL}{ss:sL}{f:Nat}{k:OrcKind}{d:DFn TL}(h:DOK P f k d)(hd:lookU cs f=some d):OGood P cs ss (f,k):=okD hd h
theorem aN {α:Type}{p:α→Prop}:∀ x∈([]:List α),p x:=all_nil
theorem aC {α:Type}{p:α→Prop}{a:α}{l:List α}(h:p a)(t:∀ x∈l,p x):∀ x∈a::l,p x:=all_cons h t
abbrev PR:=Tryz.prog
def Lease.sel (c:Bool)(a b:Lease):Lease:=Lease.mk (cond c a.device b.device) (cond c a.epoch b.epoch) (cond c a.until_ b.until_) (cond c a.last b.last) (cond c a.slices b.slices) (cond c a.ids b.ids) (cond c a.used b.used)
def Coll.sel (c:Bool)(a b:Coll):Coll:=Coll.mk (cond c a.v b.v) (cond c a.regs b.regs) (cond c a.elems b.elems) (cond c a.gone b.gone) (cond c a.sums b.sums) (cond c a.binds b.binds)
def Reply.sel (c:Bool)(a b:Reply):Reply:=Reply.mk (cond c a.err b.err) (cond c a.n b.n) (Lease.sel c a.lease b.lease)
def vector_of (ex1:Entry):Option Pair :=
 some (Pair.mk ex1.device ex1.epoch)
def cmp_isNaNInt (i1:Int):Option Bool :=
 some (i1 != i1)
def cmpCompareInt (i1:Int)(i2:Int):Option Int :=
 ob (cmp_isNaNInt i1) fun r0 =>
 ob (cmp_isNaNInt i2) fun r1 =>
 cond (r0)
 (cond (r1)
 (some 0)
 (some (-1)))
 (cond (r1)
 (some 1)
 (cond (decide (i1 < i2))
 (some (-1))
 (cond (decide (i1 > i2))
 (some 1)
 (some 0))))
def step_L216_3 (i1:Int)(i2:Int)(l1:List Int)(i3:Int)(i4:Int):Option ((Int×Int×(List Int)×Int×Int)⊕(((Int×Int)⊕(Int×Int)))) :=
 cond (decide (i4 < i3))
 (cond (decide (0≤i4))
 (ob (l1[i4.toNat]?) fun e0 =>
 cond (e0 != i2)
 (some (.inr (.inr (e0,i2))))
 (some (.inl (i1,i2,l1,i3,(w64 (i4+1))))))
 none)
 (some (.inr (.inl (i1,i2))))
def stp_L216_3 (p:Int×Int×(List Int)×Int×Int):Option ((Int×Int×(List Int)×Int×Int)⊕(((Int×Int)⊕(Int×Int)))):=step_L216_3 p.1 p.2.1 p.2.2.1 p.2.2.2.1 p.2.2.2.2
def L216_3 (i1:Int)(i2:Int)(l1:List Int)(i3:Int)(i4:Int):Option (((Int×Int)⊕(Int×Int))):=iterO stp_L216_3 ((i3 - i4).toNat+2) (i1,i2,l1,i3,i4)
def cmpOrInt (l1:List Int):Option Int :=
 ob (L216_3 0 0 l1 (l1.length:Int) 0) fun y0 =>
 two y0 (fun a1 =>
 some a1.2) (fun b2 =>
 some b2.1)
def vector_pair_compare (px1:Pair)(px2:Pair):Option Int :=
 ob (cmpCompareInt px1.device px2.device) fun r0 =>
 ob (cmpCompareInt px1.epoch px2.epoch) fun r1 =>
 ob (cmpOrInt [r0,r1]) fun r2 =>
 some r2
def step_L257_2 (l1:List Entry)(i1:Int)(px1:Pair):Option (((List Entry)×Int×Pair)⊕((List Entry)×Int×Pair)) :=
 cond (decide (i1 < (l1.length:Int)))
 (cond (decide (0≤i1))
 (ob (l1[i1.toNat]?) fun e0 =>
 ob (vector_of e0) fun r1 =>
 ob (vector_pair_compare r1 px1) fun r2 =>
 cond (decide (r2 < 0))
 (some (.inl (l1,(w64 (i1+1)),px1)))
 (some (.inr (l1,i1,px1))))
 none)
 (some (.inr (l1,i1,px1)))
def stp_L257_2 (p:(List Entry)×Int×Pair):Option (((List Entry)×Int×Pair)⊕((List Entry)×Int×Pair)):=step_L257_2 p.1 p.2.1 p.2.2
def L257_2 (l1:List Entry)(i1:Int)(px1:Pair):Option ((List Entry)×Int×Pair):=iterO stp_L257_2 (((l1.length:Int) - i1).toNat+2) (l1,i1,px1)
def vector_at (l1:List Entry)(px1:Pair):Option (Int×Bool) :=
 ob (L257_2 l1 0 px1) fun y0 =>
 cond (decide (y0.2.1 < (y0.1.length:Int)))
 (cond (decide (0≤y0.2.1))
 (ob (y0.1[y0.2.1.toNat]?) fun e1 =>
 ob (vector_of e1) fun r2 =>
 ob (vector_pair_compare r2 y0.2.2) fun r3 =>
 some (y0.2.1,(r3 == 0)))
 none)
 (some (y0.2.1,false))
def step_L209_4 (l1:List Entry)(l2:List Entry)(i1:Int)(i2:Int):Option (((List Entry)×(List Entry)×Int×Int)⊕((List Entry))) :=
 cond (decide (i2 < i1))
 (cond (decide (0≤i2))
 (ob (l2[i2.toNat]?) fun e0 =>
 ob (vector_of e0) fun r1 =>
 ob (vector_at l1 r1) fun r2 =>
 cond (r2.2)
 (cond (decide (0≤r2.1))
 (cond (decide (r2.1 < (l1.length:Int)))
 (ob (l1[r2.1.toNat]?) fun e3 =>
 cond (decide (0≤r2.1))
 (cond (decide (r2.1 < (l1.length:Int)))
 (ob (l1[r2.1.toNat]?) fun e4 =>
 some (.inl ((l1.set r2.1.toNat (Entry.mk e4.device e4.epoch (max2 e3.seq e0.seq))),l2,i1,(w64 (i2+1)))))
 none)
 none)
 none)
 none)
 (cond (fits ((l1++[(Entry.mk 0 0 0)]).length))
 (cond (decide (0≤(w64 (r2.1+1))))
 (cond (decide ((w64 (r2.1+1))≤((l1++[(Entry.mk 0 0 0)]).length:Int)))
 (cond (decide (((l1++[(Entry.mk 0 0 0)]).length:Int)≤((l1++[(Entry.mk 0 0 0)]).length:Int)))
 (cond (decide (0≤r2.1))
 (cond (decide (r2.1≤((l1++[(Entry.mk 0 0 0)]).length:Int)))
 (cond (decide (((l1++[(Entry.mk 0 0 0)]).length:Int)≤((l1++[(Entry.mk 0 0 0)]).length:Int)))
 (cond (decide (0≤r2.1))
 (cond (decide (r2.1 < (((((l1++[(Entry.mk 0 0 0)]).take (((w64 (r2.1+1))).toNat))++((((l1++[(Entry.mk 0 0 0)]).take ((((l1++[(Entry.mk 0 0 0)]).length:Int)).toNat)).drop r2.1.toNat).take (Nat.min ((((l1++[(Entry.mk 0 0 0)]).take ((((l1++[(Entry.mk 0 0 0)]).length:Int)).toNat)).drop r2.1.toNat).length) ((((l1++[(Entry.mk 0 0 0)]).length:Int)).toNat - ((w64 (r2.1+1))).toNat))))++(((l1++[(Entry.mk 0 0 0)]).take ((l1++[(Entry.mk 0 0 0)]).length)).drop (((w64 (r2.1+1))).toNat+(Nat.min ((((l1++[(Entry.mk 0 0 0)]).take ((((l1++[(Entry.mk 0 0 0)]).length:Int)).toNat)).drop r2.1.toNat).length) ((((l1++[(Entry.mk 0 0 0)]).length:Int)).toNat - ((w64 (r2.1+1))).toNat))))).length:Int)))
 (ob (((((l1++[(Entry.mk 0 0 0)]).take (((w64 (r2.1+1))).toNat))++((((l1++[(Entry.mk 0 0 0)]).take ((((l1++[(Entry.mk 0 0 0)]).length:Int)).toNat)).drop r2.1.toNat).take (Nat.min ((((l1++[(Entry.mk 0 0 0)]).take ((((l1++[(Entry.mk 0 0 0)]).length:Int)).toNat)).drop r2.1.toNat).length) ((((l1++[(Entry.mk 0 0 0)]).length:Int)).toNat - ((w64 (r2.1+1))).toNat))))++(((l1++[(Entry.mk 0 0 0)]).take ((l1++[(Entry.mk 0 0 0)]).length)).drop (((w64 (r2.1+1))).toNat+(Nat.min ((((l1++[(Entry.mk 0 0 0)]).take ((((l1++[(Entry.mk 0 0 0)]).length:Int)).toNat)).drop r2.1.toNat).length) ((((l1++[(Entry.mk 0 0 0)]).length:Int)).toNat - ((w64 (r2.1+1))).toNat)))))[r2.1.toNat]?) fun _ =>
 some (.inl ((((((l1++[(Entry.mk 0 0 0)]).take (((w64 (r2.1+1))).toNat))++((((l1++[(Entry.mk 0 0 0)]).take ((((l1++[(Entry.mk 0 0 0)]).length:Int)).toNat)).drop r2.1.toNat).take (Nat.min ((((l1++[(Entry.mk 0 0 0)]).take ((((l1++[(Entry.mk 0 0 0)]).length:Int)).toNat)).drop r2.1.toNat).length) ((((l1++[(Entry.mk 0 0 0)]).length:Int)).toNat - ((w64 (r2.1+1))).toNat))))++(((l1++[(Entry.mk 0 0 0)]).take ((l1++[(Entry.mk 0 0 0)]).length)).drop (((w64 (r2.1+1))).toNat+(Nat.min ((((l1++[(Entry.mk 0 0 0)]).take ((((l1++[(Entry.mk 0 0 0)]).length:Int)).toNat)).drop r2.1.toNat).length) ((((l1++[(Entry.mk 0 0 0)]).length:Int)).toNat - ((w64 (r2.1+1))).toNat))))).set r2.1.toNat e0),l2,i1,(w64 (i2+1)))))
 none)
 none)
 none)
 none)
 none)
 none)
 none)
 none)
 none))
 none)
 (some (.inr l1))
def stp_L209_4 (p:(List Entry)×(List Entry)×Int×Int):Option (((List Entry)×(List Entry)×Int×Int)⊕((List Entry))):=step_L209_4 p.1 p.2.1 p.2.2.1 p.2.2.2
def L209_4 (l1:List Entry)(l2:List Entry)(i1:Int)(i2:Int):Option ((List Entry)):=iterO stp_L209_4 ((i1 - i2).toNat+2) (l1,l2,i1,i2)
def laid (l1:List Entry)(l2:List Entry):Option ((List Entry)) :=
 cond (decide (0≤(l1.length:Int)))
 (cond (decide ((l1.length:Int)≤(w64 ((l1.length:Int)+(l2.length:Int)))))
 (cond (fits (((w64 ((l1.length:Int)+(l2.length:Int)))).toNat))
 (ob (L209_4 ((l1.take (Nat.min l1.length ((List.replicate (((l1.length:Int)).toNat) (Entry.mk 0 0 0)).length)))++(((List.replicate (((l1.length:Int)).toNat) (Entry.mk 0 0 0)).take ((List.replicate (((l1.length:Int)).toNat) (Entry.mk 0 0 0)).length)).drop (Nat.min l1.length ((List.replicate (((l1.length:Int)).toNat) (Entry.mk 0 0 0)).length)))) l2 (l2.length:Int) 0) fun y0 =>
 cond (fits (([]++y0).length))
 (some ([]++y0))
 none)
 none)
 none)
 none
def deskLease (lx1:Lease):Option Lease :=
 cond (fits lx1.slices.length)
 (cond (fits lx1.ids.length)
 (cond (fits lx1.used.length)
 (some lx1)
 none)
 none)
 none
def cc_Lease:Cod (List (C TL)) Lease:=kO (kC kJ (kC kJ (kC kJ (kC kJ (kC (kG j_lSlice) (kC (kG j_lRange) (kC (kG j_lInt) kN))))))) (fun (z0,z1,z2,z3,z4,z5,z6,_)=>(Lease.mk z0 z1 z2 z3 z4 z5 z6)) (fun (x:Lease)=>(x.device,(x.epoch,(x.until_,(x.last,(x.slices,(x.ids,(x.used,())))))))) (fun _=>rfl)
def ch_deskLease:kT (Lease):=kO (kS 0 (kC (Cod.xs (Cod.sa cc_Lease)) kN) kN) (fun p=>p.1.1) (fun (x:Lease)=>((x,()),())) (fun _=>rfl)
def co_deskLease:kT (Lease):=kO (kS 3 (kC (Cod.xs (Cod.sa (kC kJ (kC kJ (kC kJ (kC kJ (kC (kA 0) (kC (kA 1) (kC (kA 2) kN))))))))) kN) (kC (kR 0 133 j_lSlice) (kC (kR 1 153 j_lRange) (kC (kR 2 3 j_lInt) kN)))) (fun (((z0,z1,z2,z3,_),_),z4,z5,z6,_)=>(Lease.mk z0 z1 z2 z3 z4 z5 z6)) (fun (x:Lease)=>(((x.device,(x.epoch,(x.until_,(x.last,((),((),((),()))))))),()),(x.slices,(x.ids,(x.used,()))))) (fun _=>rfl)
def un_deskLease (p:Lease):Option Lease:=deskLease p
def sf_deskLease:SFn TL:=SFn.one ch_deskLease.dec un_deskLease .normal co_deskLease.enc
def env_deskLease:Env:=envOf tab sl sh [(41,fd41)] [(91,(.cln 133)),(92,(.cln 153)),(93,(.cln 3))]
theorem env_deskLease_ok:EnvOK PR (mkD cZ sZ) env_deskLease:=envOK_of base (aC (st41.okl rfl aN) aN) (aC (okCln okI_91) (aC (okCln okI_92) (aC (okCln okI_93) aN)))
theorem run_deskLease (x:Lease):Out.run (mkO cZ sZ) (evSum env_deskLease 12 20 41 (ch_deskLease.enc x)) (back1 co_deskLease)=un_deskLease x:=by kernel_rfl
theorem ok_deskLease:SOK PR 41 sf_deskLease:=sum_one env_deskLease_ok (loops:=12) (n:=20) st41.enters ch_deskLease co_deskLease un_deskLease run_deskLease
def step_L77_3 (i1:Int)(i2:Int)(bx1:Book)(bx2:Book):Option ((Int×Int×Book×Book)⊕(Book×Book)) :=
 cond (decide (i2 < i1))
 (cond (decide (0≤i2))
 (cond (decide (i2 < (bx1.leases.length:Int)))
 (ob (bx1.leases[i2.toNat]?) fun e0 =>
 ob (deskLease e0) fun y1 =>
 cond (decide (0≤i2))
 (cond (decide (i2 < (bx1.leases.length:Int)))
 (ob (bx1.leases[i2.toNat]?) fun _ =>
 some (.inl (i1,(w64 (i2+1)),(Book.mk bx1.counters bx1.free (bx1.leases.set i2.toNat y1) bx1.bound),bx2)))
 none)
 none)
 none)
 none)
 (some (.inr (bx1,bx2)))
def stp_L77_3 (p:Int×Int×Book×Book):Option ((Int×Int×Book×Book)⊕(Book×Book)):=step_L77_3 p.1 p.2.1 p.2.2.1 p.2.2.2
def L77_3 (i1:Int)(i2:Int)(bx1:Book)(bx2:Book):Option (Book×Book):=iterO stp_L77_3 ((i1 - i2).toNat+2) (i1,i2,bx1,bx2)
def ch_L77_3:kT (Int×Int×Book×Book):=kO (kS 10 (kC (kP 0 0) (kC (kP 1 0) (kC (Cod.xs (Cod.sc (kA 2))) (kC kI (kC kI kN))))) (kC (Cod.var 0 29 (kC (kA 3) (kC (kA 4) (kC (kA 2) (kC (kA 5) kN))))) (kC (Cod.var 1 29 (kC (kA 6) (kC (kA 7) (kC (kA 8) (kC (kA 9) kN))))) (kC (kR 2 43 j_lLease) (kC (kR 3 65 j_lCounter) (kC (kR 4 153 j_lRange) (kC (kR 5 3 j_lInt) (kC (kR 6 65 j_lCounter) (kC (kR 7 153 j_lRange) (kC (kR 8 43 j_lLease) (kC (kR 9 3 j_lInt) kN))))))))))) (fun p=>(p.1.2.2.2.1,p.1.2.2.2.2.1,(Book.mk p.2.2.2.2.1 p.2.2.2.2.2.1 p.2.2.2.1 p.2.2.2.2.2.2.1),(Book.mk p.2.2.2.2.2.2.2.1 p.2.2.2.2.2.2.2.2.1 (t8 p.2).1 (t8 p.2).2.1))) (fun (x:Int×Int×Book×Book)=>(((),((),((),(x.1,(x.2.1,()))))),(((),((),((),((),())))),(((),((),((),((),())))),(x.2.2.1.leases,(x.2.2.1.counters,(x.2.2.1.free,(x.2.2.1.bound,(x.2.2.2.counters,(x.2.2.2.free,(x.2.2.2.leases,(x.2.2.2.bound,())))))))))))) (fun _=>rfl)
def co0_L77_3:kT (Book×Book):=kO (kS 20 (kC (kP 0 0) (kC (kP 1 0) kN)) (kC (Cod.var 0 29 (kC (kA 3) (kC (kA 4) (kC (kA 2) (kC (kA 5) kN))))) (kC (Cod.var 1 29 (kC (kA 6) (kC (kA 7) (kC (kA 8) (kC (kA 9) kN))))) (kC (kR 2 43 j_lLease) (kC (kR 3 65 j_lCounter) (kC (kR 4 153 j_lRange) (kC (kR 5 3 j_lInt) (kC (kR 6 65 j_lCounter) (kC (kR 7 153 j_lRange) (kC (kR 8 43 j_lLease) (kC (kR 9 3 j_lInt) kN))))))))))) (fun p=>((Book.mk p.2.2.2.2.1 p.2.2.2.2.2.1 p.2.2.2.1 p.2.2.2.2.2.2.1),(Book.mk p.2.2.2.2.2.2.2.1 p.2.2.2.2.2.2.2.2.1 (t8 p.2).1 (t8 p.2).2.1))) (fun (x:Book×Book)=>(((),((),())),(((),((),((),((),())))),(((),((),((),((),())))),(x.1.leases,(x.1.counters,(x.1.free,(x.1.bound,(x.2.counters,(x.2.free,(x.2.leases,(x.2.bound,())))))))))))) (fun _=>rfl)
def sl_L77_3:SFn TL:=SFn.one ch_L77_3.dec (fun p=>L77_3 p.1 p.2.1 p.2.2.1 p.2.2.2) (.exit 0) co0_L77_3.enc
def ss_lL77_3:sL:=[(41,sf_deskLease)]
def v_L77_3:Env:=envOf tab sl sh [] [(41,.sum)]
theorem v_L77_3_ok:EnvOK PR (mkD cZ ss_lL77_3) v_L77_3:=envOK_of base aN (aC (okS rfl ok_deskLease) aN)
theorem run_L77_3 (x:Int×Int×Book×Book):Out.run (mkO cZ ss_lL77_3) (evRound v_L77_3 12 20 fd77.an q_L77_3 (loopIn (loopsOf fd77.body) 3) (ch_L77_3.enc x)) (back ch_L77_3 co0_L77_3 fun e=>exE e (.exit 0))=stp_L77_3 x:=by kernel_rfl
theorem ok_L77_3:LoopOK PR (oneS sl_L77_3) nt77 q_L77_3 (loopIn (loopsOf fd77.body) 3) :=
  loop_one v_L77_3_ok (loops:=12) (k:=20) (an:=fd77.an) (by kernel_rfl) (FnSt.subl rfl st77.keys (aC (.inl (by kernel_rfl)) aN)) ch_L77_3 co0_L77_3 (.exit 0) rfl stp_L77_3 _ run_L77_3 (fun x y h=>⟨_,h⟩) (fun _=>below_iff.1 rfl)
def deskBook (bx1:Book):Option Book :=
 cond (fits bx1.counters.length)
 (cond (fits bx1.free.length)
 (cond (fits bx1.leases.length)
 (cond (fits bx1.bound.length)
 (ob (L77_3 (bx1.leases.length:Int) 0 bx1 (Book.mk [] [] [] [])) fun y0 =>
 some y0.1)
 none)
 none)
 none)
 none
def cc_Book:Cod (List (C TL)) Book:=kO (kC (kG j_lCounter) (kC (kG j_lRange) (kC (kG j_lLease) (kC (kG j_lInt) kN)))) (fun p=>(Book.mk p.1 p.2.1 p.2.2.1 p.2.2.2.1)) (fun (x:Book)=>(x.counters,(x.free,(x.leases,(x.bound,()))))) (fun _=>rfl)
def ch_deskBook:kT (Book):=kO (kS 0 (kC (Cod.xs (Cod.sa cc_Book)) kN) kN) (fun p=>p.1.1) (fun (x:Book)=>((x,()),())) (fun _=>rfl)
def co_deskBook:kT (Book):=kO (kS 4 (kC (Cod.xs (Cod.sa (kC (kA 0) (kC (kA 1) (kC (kA 2) (kC (kA 3) kN)))))) kN) (kC (kR 0 65 j_lCounter) (kC (kR 1 153 j_lRange) (kC (kR 2 43 j_lLease) (kC (kR 3 3 j_lInt) kN))))) (fun (_,z0,z1,z2,z3,_)=>(Book.mk z0 z1 z2 z3)) (fun (x:Book)=>((((),((),((),((),())))),()),(x.counters,(x.free,(x.leases,(x.bound,())))))) (fun _=>rfl)
def un_deskBook (p:Book):Option Book:=deskBook p
def sf_deskBook:SFn TL:=SFn.one ch_deskBook.dec un_deskBook .normal co_deskBook.enc
def ss_deskBook:sL:=[(177003,sl_L77_3)]
def env_deskBook:Env:=envOf tab sl sh [(77,fd77)] [(126,(.cln 65)),(92,(.cln 153)),(127,(.cln 43)),(93,(.cln 3))]
theorem env_deskBook_ok:EnvOK PR (mkD cZ ss_deskBook) env_deskBook:=envOK_of base (aC (st77.okl rfl (aC (lC ok_L77_3 rfl) aN)) aN) (aC (okCln okI_126) (aC (okCln okI_92) (aC (okCln okI_127) (aC (okCln okI_93) aN))))
theorem run_deskBook (x:Book):Out.run (mkO cZ ss_deskBook) (evSum env_deskBook 12 20 77 (ch_deskBook.enc x)) (back1 co_deskBook)=un_deskBook x:=by kernel_rfl
theorem ok_deskBook:SOK PR 77 sf_deskBook:=sum_one env_deskBook_ok (loops:=12) (n:=20) st77.enters ch_deskBook co_deskBook un_deskBook run_deskBook
def step_L78_3 (l1:List Op)(i1:Int)(i2:Int):Option (((List Op)×Int×Int)⊕((List Op))) :=
 cond (decide (i2 < i1))
 (cond (decide (0≤i2))
 (cond (decide (i2 < (l1.length:Int)))
 (ob (l1[i2.toNat]?) fun e0 =>
 cond (fits e0.dots.length)
 (cond (decide (0≤i2))
 (cond (decide (i2 < (l1.length:Int)))
 (ob (l1[i2.toNat]?) fun e1 =>
 some (.inl ((l1.set i2.toNat (Op.mk e1.dot e1.coll e1.ver e1.kind e1.key e1.text e1.n e1.time e0.dots)),i1,(w64 (i2+1)))))
 none)
 none)
 none)
 none)
 none)
 (some (.inr l1))
def stp_L78_3 (p:(List Op)×Int×Int):Option (((List Op)×Int×Int)⊕((List Op))):=step_L78_3 p.1 p.2.1 p.2.2
def L78_3 (l1:List Op)(i1:Int)(i2:Int):Option ((List Op)):=iterO stp_L78_3 ((i1 - i2).toNat+2) (l1,i1,i2)
def ch_L78_3:kT ((List Op)×Int×Int):=kO (kS 1 (kC (Cod.xs (Cod.sc (kA 0))) (kC (Cod.xs (Cod.sc (kA 0))) (kC kI (kC kI kN)))) (kC (kR 0 61 j_lOp) kN)) (fun p=>(p.2.1,p.1.2.2.1,p.1.2.2.2.1)) (fun (x:(List Op)×Int×Int)=>(((),((),(x.2.1,(x.2.2,())))),(x.1,()))) (fun _=>rfl)
def co0_L78_3:kT ((List Op)):=kO (kS 2 (kC (Cod.xs (Cod.sc (kA 0))) kN) (kC (kR 0 61 j_lOp) kN)) (fun p=>p.2.1) (fun (x:(List Op))=>(((),()),(x,()))) (fun _=>rfl)
def sl_L78_3:SFn TL:=SFn.one ch_L78_3.dec (fun p=>L78_3 p.1 p.2.1 p.2.2) (.exit 0) co0_L78_3.enc
def v_L78_3:Env:=envOf tab sl sh [] [(50,(.cln 59))]
theorem v_L78_3_ok:EnvOK PR (mkD cZ sZ) v_L78_3:=envOK_of base aN (aC (okCln okI_50) aN)
theorem run_L78_3 (x:(List Op)×Int×Int):Out.run (mkO cZ sZ) (evRound v_L78_3 12 20 fd78.an q_L78_3 (loopIn (loopsOf fd78.body) 3) (ch_L78_3.enc x)) (back ch_L78_3 co0_L78_3 fun e=>exE e (.exit 0))=stp_L78_3 x:=by kernel_rfl
theorem ok_L78_3:LoopOK PR (oneS sl_L78_3) nt78 q_L78_3 (loopIn (loopsOf fd78.body) 3) :=
  loop_one v_L78_3_ok (loops:=12) (k:=20) (an:=fd78.an) (by kernel_rfl) (FnSt.subl rfl st78.keys (aC (.inl (by kernel_rfl)) aN)) ch_L78_3 co0_L78_3 (.exit 0) rfl stp_L78_3 _ run_L78_3 (fun x y h=>⟨_,h⟩) (fun _=>below_iff.1 rfl)
def deskLog (l1:List Op):Option ((List Op)) :=
 cond (fits l1.length)
 (ob (L78_3 l1 (l1.length:Int) 0) fun y0 =>
 some y0)
 none
def ch_deskLog:kT ((List Op)):=kO (kS 0 (kC (kF j_lOp) kN) kN) (fun p=>p.1.1) (fun (x:(List Op))=>((x,()),())) (fun _=>rfl)
def co_deskLog:kT ((List Op)):=kO (kS 1 (kC (Cod.xs (Cod.sc (kA 0))) kN) (kC (kR 0 61 j_lOp) kN)) (fun p=>p.2.1) (fun (x:(List Op))=>(((),()),(x,()))) (fun _=>rfl)
def un_deskLog (p:(List Op)):Option ((List Op)):=deskLog p
def sf_deskLog:SFn TL:=SFn.one ch_deskLog.dec un_deskLog .normal co_deskLog.enc
def ss_deskLog:sL:=[(178003,sl_L78_3)]
def env_deskLog:Env:=envOf tab sl sh [(78,fd78)] [(51,(.cln 61))]
theorem env_deskLog_ok:EnvOK PR (mkD cZ ss_deskLog) env_deskLog:=envOK_of base (aC (st78.okl rfl (aC (lC ok_L78_3 rfl) aN)) aN) (aC (okCln okI_51) aN)
theorem run_deskLog (x:(List Op)):Out.run (mkO cZ ss_deskLog) (evSum env_deskLog 12 20 78 (ch_deskLog.enc x)) (back1 co_deskLog)=un_deskLog x:=by kernel_rfl
theorem ok_deskLog:SOK PR 78 sf_deskLog:=sum_one env_deskLog_ok (loops:=12) (n:=20) st78.enters ch_deskLog co_deskLog un_deskLog run_deskLog
def deskOwn (d1:Desk):Option Desk :=
 ob (deskBook d1.book) fun y0 =>
 ob (deskLog d1.log) fun y1 =>
 cond (fits d1.lost.length)
 (cond (fits d1.colls.a0.v.length)
 (cond (fits d1.colls.a0.regs.length)
 (cond (fits d1.colls.a0.elems.length)
 (cond (fits d1.colls.a0.gone.length)
 (cond (fits d1.colls.a0.sums.length)
 (cond (fits d1.colls.a0.binds.length)
 (cond (fits d1.colls.a1.v.length)
 (cond (fits d1.colls.a1.regs.length)
 (cond (fits d1.colls.a1.elems.length)
 (cond (fits d1.colls.a1.gone.length)
 (cond (fits d1.colls.a1.sums.length)
 (cond (fits d1.colls.a1.binds.length)
 (cond (fits d1.colls.a2.v.length)
 (cond (fits d1.colls.a2.regs.length)
 (cond (fits d1.colls.a2.elems.length)
 (cond (fits d1.colls.a2.gone.length)
 (cond (fits d1.colls.a2.sums.length)
 (cond (fits d1.colls.a2.binds.length)
 (ob (deskLease d1.dev.a0.reply.lease) fun y2 =>
 ob (deskLease d1.dev.a1.reply.lease) fun y3 =>
 ob (deskLease d1.dev.a2.reply.lease) fun y4 =>
 ob (deskLease d1.dev.a3.reply.lease) fun y5 =>
 ob (deskLease d1.dev.a4.reply.lease) fun y6 =>
 ob (deskLease d1.dev.a5.reply.lease) fun y7 =>
 some (Desk.mk y0 d1.colls y1 (A6Device.mk (Device.mk d1.dev.a0.epoch d1.dev.a0.req (Reply.mk d1.dev.a0.reply.err d1.dev.a0.reply.n y2)) (Device.mk d1.dev.a1.epoch d1.dev.a1.req (Reply.mk d1.dev.a1.reply.err d1.dev.a1.reply.n y3)) (Device.mk d1.dev.a2.epoch d1.dev.a2.req (Reply.mk d1.dev.a2.reply.err d1.dev.a2.reply.n y4)) (Device.mk d1.dev.a3.epoch d1.dev.a3.req (Reply.mk d1.dev.a3.reply.err d1.dev.a3.reply.n y5)) (Device.mk d1.dev.a4.epoch d1.dev.a4.req (Reply.mk d1.dev.a4.reply.err d1.dev.a4.reply.n y6)) (Device.mk d1.dev.a5.epoch d1.dev.a5.req (Reply.mk d1.dev.a5.reply.err d1.dev.a5.reply.n y7))) d1.lost d1.now))
 none)
 none)
 none)
 none)
 none)
 none)
 none)
 none)
 none)
 none)
 none)
 none)
 none)
 none)
 none)
 none)
 none)
 none)
 none
def cc_Desk:Cod (List (C TL)) Desk:=kO (kC (kG j_lCounter) (kC (kG j_lRange) (kC (kG j_lLease) (kC (kG j_lInt) (kC (kG j_lEntry) (kC (kG j_lReg) (kC (kG j_lElem) (kC (kG j_lEntry) (kC (kG j_lSum) (kC (kG j_lBind) (kC (kG j_lEntry) (kC (kG j_lReg) (kC (kG j_lElem) (kC (kG j_lEntry) (kC (kG j_lSum) (kC (kG j_lBind) (kC (kG j_lEntry) (kC (kG j_lReg) (kC (kG j_lElem) (kC (kG j_lEntry) (kC (kG j_lSum) (kC (kG j_lBind) (kC (kG j_lOp) (kC kJ (kC kJ (kC kJ (kC kJ (kC kJ (kC kJ (kC kJ (kC kJ (kC (kG j_lSlice) (kC (kG j_lRange) (kC (kG j_lInt) (kC kJ (kC kJ (kC kJ (kC kJ (kC kJ (kC kJ (kC kJ (kC kJ (kC (kG j_lSlice) (kC (kG j_lRange) (kC (kG j_lInt) (kC kJ (kC kJ (kC kJ (kC kJ (kC kJ (kC kJ (kC kJ (kC kJ (kC (kG j_lSlice) (kC (kG j_lRange) (kC (kG j_lInt) (kC kJ (kC kJ (kC kJ (kC kJ (kC kJ (kC kJ (kC kJ (kC kJ (kC (kG j_lSlice) (kC (kG j_lRange) (kC (kG j_lInt) (kC kJ (kC kJ (kC kJ (kC kJ (kC kJ (kC kJ (kC kJ (kC kJ (kC (kG j_lSlice) (kC (kG j_lRange) (kC (kG j_lInt) (kC kJ (kC kJ (kC kJ (kC kJ (kC kJ (kC kJ (kC kJ (kC kJ (kC (kG j_lSlice) (kC (kG j_lRange) (kC (kG j_lInt) (kC (kG j_lEntry) (kC kJ kN))))))))))))))))))))))))))))))))))))))))))))))))))))))))))))))))))))))))))))))))))))))))))) (fun p=>(Desk.mk (Book.mk p.1 p.2.1 p.2.2.1 p.2.2.2.1) (A3Coll.mk (Coll.mk p.2.2.2.2.1 p.2.2.2.2.2.1 p.2.2.2.2.2.2.1 p.2.2.2.2.2.2.2.1 (t8 p).1 (t8 p).2.1) (Coll.mk (t8 p).2.2.1 (t8 p).2.2.2.1 (t8 p).2.2.2.2.1 (t8 p).2.2.2.2.2.1 (t8 p).2.2.2.2.2.2.1 (t8 p).2.2.2.2.2.2.2.1) (Coll.mk (t8 (t8 p)).1 (t8 (t8 p)).2.1 (t8 (t8 p)).2.2.1 (t8 (t8 p)).2.2.2.1 (t8 (t8 p)).2.2.2.2.1 (t8 (t8 p)).2.2.2.2.2.1)) (t8 (t8 p)).2.2.2.2.2.2.1 (A6Device.mk (Device.mk (t8 (t8 p)).2.2.2.2.2.2.2.1 (t8 (t8 (t8 p))).1 (Reply.mk (t8 (t8 (t8 p))).2.1 (t8 (t8 (t8 p))).2.2.1 (Lease.mk (t8 (t8 (t8 p))).2.2.2.1 (t8 (t8 (t8 p))).2.2.2.2.1 (t8 (t8 (t8 p))).2.2.2.2.2.1 (t8 (t8 (t8 p))).2.2.2.2.2.2.1 (t8 (t8 (t8 p))).2.2.2.2.2.2.2.1 (t32 p).1 (t32 p).2.1))) (Device.mk (t32 p).2.2.1 (t32 p).2.2.2.1 (Reply.mk (t32 p).2.2.2.2.1 (t32 p).2.2.2.2.2.1 (Lease.mk (t32 p).2.2.2.2.2.2.1 (t32 p).2.2.2.2.2.2.2.1 (t8 (t32 p)).1 (t8 (t32 p)).2.1 (t8 (t32 p)).2.2.1 (t8 (t32 p)).2.2.2.1 (t8 (t32 p)).2.2.2.2.1))) (Device.mk (t8 (t32 p)).2.2.2.2.2.1 (t8 (t32 p)).2.2.2.2.2.2.1 (Reply.mk (t8 (t32 p)).2.2.2.2.2.2.2.1 (t8 (t8 (t32 p))).1 (Lease.mk (t8 (t8 (t32 p))).2.1 (t8 (t8 (t32 p))).2.2.1 (t8 (t8 (t32 p))).2.2.2.1 (t8 (t8 (t32 p))).2.2.2.2.1 (t8 (t8 (t32 p))).2.2.2.2.2.1 (t8 (t8 (t32 p))).2.2.2.2.2.2.1 (t8 (t8 (t32 p))).2.2.2.2.2.2.2.1))) (Device.mk (t8 (t8 (t8 (t32 p)))).1 (t8 (t8 (t8 (t32 p)))).2.1 (Reply.mk (t8 (t8 (t8 (t32 p)))).2.2.1 (t8 (t8 (t8 (t32 p)))).2.2.2.1 (Lease.mk (t8 (t8 (t8 (t32 p)))).2.2.2.2.1 (t8 (t8 (t8 (t32 p)))).2.2.2.2.2.1 (t8 (t8 (t8 (t32 p)))).2.2.2.2.2.2.1 (t8 (t8 (t8 (t32 p)))).2.2.2.2.2.2.2.1 (t32 (t32 p)).1 (t32 (t32 p)).2.1 (t32 (t32 p)).2.2.1))) (Device.mk (t32 (t32 p)).2.2.2.1 (t32 (t32 p)).2.2.2.2.1 (Reply.mk (t32 (t32 p)).2.2.2.2.2.1 (t32 (t32 p)).2.2.2.2.2.2.1 (Lease.mk (t32 (t32 p)).2.2.2.2.2.2.2.1 (t8 (t32 (t32 p))).1 (t8 (t32 (t32 p))).2.1 (t8 (t32 (t32 p))).2.2.1 (t8 (t32 (t32 p))).2.2.2.1 (t8 (t32 (t32 p))).2.2.2.2.1 (t8 (t32 (t32 p))).2.2.2.2.2.1))) (Device.mk (t8 (t32 (t32 p))).2.2.2.2.2.2.1 (t8 (t32 (t32 p))).2.2.2.2.2.2.2.1 (Reply.mk (t8 (t8 (t32 (t32 p)))).1 (t8 (t8 (t32 (t32 p)))).2.1 (Lease.mk (t8 (t8 (t32 (t32 p)))).2.2.1 (t8 (t8 (t32 (t32 p)))).2.2.2.1 (t8 (t8 (t32 (t32 p)))).2.2.2.2.1 (t8 (t8 (t32 (t32 p)))).2.2.2.2.2.1 (t8 (t8 (t32 (t32 p)))).2.2.2.2.2.2.1 (t8 (t8 (t32 (t32 p)))).2.2.2.2.2.2.2.1 (t8 (t8 (t8 (t32 (t32 p))))).1)))) (t8 (t8 (t8 (t32 (t32 p))))).2.1 (t8 (t8 (t8 (t32 (t32 p))))).2.2.1)) (fun (x:Desk)=>(x.book.counters,(x.book.free,(x.book.leases,(x.book.bound,(x.colls.a0.v,(x.colls.a0.regs,(x.colls.a0.elems,(x.colls.a0.gone,(x.colls.a0.sums,(x.colls.a0.binds,(x.colls.a1.v,(x.colls.a1.regs,(x.colls.a1.elems,(x.colls.a1.gone,(x.colls.a1.sums,(x.colls.a1.binds,(x.colls.a2.v,(x.colls.a2.regs,(x.colls.a2.elems,(x.colls.a2.gone,(x.colls.a2.sums,(x.colls.a2.binds,(x.log,(x.dev.a0.epoch,(x.dev.a0.req,(x.dev.a0.reply.err,(x.dev.a0.reply.n,(x.dev.a0.reply.lease.device,(x.dev.a0.reply.lease.epoch,(x.dev.a0.reply.lease.until_,(x.dev.a0.reply.lease.last,(x.dev.a0.reply.lease.slices,(x.dev.a0.reply.lease.ids,(x.dev.a0.reply.lease.used,(x.dev.a1.epoch,(x.dev.a1.req,(x.dev.a1.reply.err,(x.dev.a1.reply.n,(x.dev.a1.reply.lease.device,(x.dev.a1.reply.lease.epoch,(x.dev.a1.reply.lease.until_,(x.dev.a1.reply.lease.last,(x.dev.a1.reply.lease.slices,(x.dev.a1.reply.lease.ids,(x.dev.a1.reply.lease.used,(x.dev.a2.epoch,(x.dev.a2.req,(x.dev.a2.reply.err,(x.dev.a2.reply.n,(x.dev.a2.reply.lease.device,(x.dev.a2.reply.lease.epoch,(x.dev.a2.reply.lease.until_,(x.dev.a2.reply.lease.last,(x.dev.a2.reply.lease.slices,(x.dev.a2.reply.lease.ids,(x.dev.a2.reply.lease.used,(x.dev.a3.epoch,(x.dev.a3.req,(x.dev.a3.reply.err,(x.dev.a3.reply.n,(x.dev.a3.reply.lease.device,(x.dev.a3.reply.lease.epoch,(x.dev.a3.reply.lease.until_,(x.dev.a3.reply.lease.last,(x.dev.a3.reply.lease.slices,(x.dev.a3.reply.lease.ids,(x.dev.a3.reply.lease.used,(x.dev.a4.epoch,(x.dev.a4.req,(x.dev.a4.reply.err,(x.dev.a4.reply.n,(x.dev.a4.reply.lease.device,(x.dev.a4.reply.lease.epoch,(x.dev.a4.reply.lease.until_,(x.dev.a4.reply.lease.last,(x.dev.a4.reply.lease.slices,(x.dev.a4.reply.lease.ids,(x.dev.a4.reply.lease.used,(x.dev.a5.epoch,(x.dev.a5.req,(x.dev.a5.reply.err,(x.dev.a5.reply.n,(x.dev.a5.reply.lease.device,(x.dev.a5.reply.lease.epoch,(x.dev.a5.reply.lease.until_,(x.dev.a5.reply.lease.last,(x.dev.a5.reply.lease.slices,(x.dev.a5.reply.lease.ids,(x.dev.a5.reply.lease.used,(x.lost,(x.now,())))))))))))))))))))))))))))))))))))))))))))))))))))))))))))))))))))))))))))))))))))))))))))) (fun _=>rfl)
def ch_deskOwn:kT (Desk):=kO (kS 0 (kC (Cod.xs (Cod.sa cc_Desk)) kN) kN) (fun p=>p.1.1) (fun (x:Desk)=>((x,()),())) (fun _=>rfl)
def co_deskOwn:kT (Desk):=kO (kS 42 (kC (Cod.xs (Cod.sa (kC (kA 0) (kC (kA 1) (kC (kA 2) (kC (kA 3) (kC (kA 4) (kC (kA 5) (kC (kA 6) (kC (kA 7) (kC (kA 8) (kC (kA 9) (kC (kA 10) (kC (kA 11) (kC (kA 12) (kC (kA 13) (kC (kA 14) (kC (kA 15) (kC (kA 16) (kC (kA 17) (kC (kA 18) (kC (kA 19) (kC (kA 20) (kC (kA 21) (kC (kA 22) (kC kJ (kC kJ (kC kJ (kC kJ (kC kJ (kC kJ (kC kJ (kC kJ (kC (kA 23) (kC (kA 24) (kC (kA 25) (kC kJ (kC kJ (kC kJ (kC kJ (kC kJ (kC kJ (kC kJ (kC kJ (kC (kA 26) (kC (kA 27) (kC (kA 28) (kC kJ (kC kJ (kC kJ (kC kJ (kC kJ (kC kJ (kC kJ (kC kJ (kC (kA 29) (kC (kA 30) (kC (kA 31) (kC kJ (kC kJ (kC kJ (kC kJ (kC kJ (kC kJ (kC kJ (kC kJ (kC (kA 32) (kC (kA 33) (kC (kA 34) (kC kJ (kC kJ (kC kJ (kC kJ (kC kJ (kC kJ (kC kJ (kC kJ (kC (kA 35) (kC (kA 36) (kC (kA 37) (kC kJ (kC kJ (kC kJ (kC kJ (kC kJ (kC kJ (kC kJ (kC kJ (kC (kA 38) (kC (kA 39) (kC (kA 40) (kC (kA 41) (kC kJ kN))))))))))))))))))))))))))))))))))))))))))))))))))))))))))))))))))))))))))))))))))))))))))))) kN) (kC (kR 0 65 j_lCounter) (kC (kR 1 153 j_lRange) (kC (kR 2 43 j_lLease) (kC (kR 3 3 j_lInt) (kC (kR 4 66 j_lEntry) (kC (kR 5 142 j_lReg) (kC (kR 6 145 j_lElem) (kC (kR 7 59 j_lEntry) (kC (kR 8 129 j_lSum) (kC (kR 9 149 j_lBind) (kC (kR 10 66 j_lEntry) (kC (kR 11 142 j_lReg) (kC (kR 12 145 j_lElem) (kC (kR 13 59 j_lEntry) (kC (kR 14 129 j_lSum) (kC (kR 15 149 j_lBind) (kC (kR 16 66 j_lEntry) (kC (kR 17 142 j_lReg) (kC (kR 18 145 j_lElem) (kC (kR 19 59 j_lEntry) (kC (kR 20 129 j_lSum) (kC (kR 21 149 j_lBind) (kC (kR 22 61 j_lOp) (kC (kR 23 133 j_lSlice) (kC (kR 24 153 j_lRange) (kC (kR 25 3 j_lInt) (kC (kR 26 133 j_lSlice) (kC (kR 27 153 j_lRange) (kC (kR 28 3 j_lInt) (kC (kR 29 133 j_lSlice) (kC (kR 30 153 j_lRange) (kC (kR 31 3 j_lInt) (kC (kR 32 133 j_lSlice) (kC (kR 33 153 j_lRange) (kC (kR 34 3 j_lInt) (kC (kR 35 133 j_lSlice) (kC (kR 36 153 j_lRange) (kC (kR 37 3 j_lInt) (kC (kR 38 133 j_lSlice) (kC (kR 39 153 j_lRange) (kC (kR 40 3 j_lInt) (kC (kR 41 66 j_lEntry) kN))))))))))))))))))))))))))))))))))))))))))) (fun p=>(Desk.mk (Book.mk p.2.1 p.2.2.1 p.2.2.2.1 p.2.2.2.2.1) (A3Coll.mk (Coll.mk p.2.2.2.2.2.1 p.2.2.2.2.2.2.1 p.2.2.2.2.2.2.2.1 p.2.2.2.2.2.2.2.2.1 (t8 p.2).1 (t8 p.2).2.1) (Coll.mk (t8 p.2).2.2.1 (t8 p.2).2.2.2.1 (t8 p.2).2.2.2.2.1 (t8 p.2).2.2.2.2.2.1 (t8 p.2).2.2.2.2.2.2.1 (t8 p.2).2.2.2.2.2.2.2.1) (Coll.mk (t8 (t8 p.2)).1 (t8 (t8 p.2)).2.1 (t8 (t8 p.2)).2.2.1 (t8 (t8 p.2)).2.2.2.1 (t8 (t8 p.2)).2.2.2.2.1 (t8 (t8 p.2)).2.2.2.2.2.1)) (t8 (t8 p.2)).2.2.2.2.2.2.1 (A6Device.mk (Device.mk (t8 (t8 p.1.1)).2.2.2.2.2.2.2.1 (t8 (t8 (t8 p.1.1))).1 (Reply.mk (t8 (t8 (t8 p.1.1))).2.1 (t8 (t8 (t8 p.1.1))).2.2.1 (Lease.mk (t8 (t8 (t8 p.1.1))).2.2.2.1 (t8 (t8 (t8 p.1.1))).2.2.2.2.1 (t8 (t8 (t8 p.1.1))).2.2.2.2.2.1 (t8 (t8 (t8 p.1.1))).2.2.2.2.2.2.1 (t8 (t8 p.2)).2.2.2.2.2.2.2.1 (t8 (t8 (t8 p.2))).1 (t8 (t8 (t8 p.2))).2.1))) (Device.mk (t32 p.1.1).2.2.1 (t32 p.1.1).2.2.2.1 (Reply.mk (t32 p.1.1).2.2.2.2.1 (t32 p.1.1).2.2.2.2.2.1 (Lease.mk (t32 p.1.1).2.2.2.2.2.2.1 (t32 p.1.1).2.2.2.2.2.2.2.1 (t8 (t32 p.1.1)).1 (t8 (t32 p.1.1)).2.1 (t8 (t8 (t8 p.2))).2.2.1 (t8 (t8 (t8 p.2))).2.2.2.1 (t8 (t8 (t8 p.2))).2.2.2.2.1))) (Device.mk (t8 (t32 p.1.1)).2.2.2.2.2.1 (t8 (t32 p.1.1)).2.2.2.2.2.2.1 (Reply.mk (t8 (t32 p.1.1)).2.2.2.2.2.2.2.1 (t8 (t8 (t32 p.1.1))).1 (Lease.mk (t8 (t8 (t32 p.1.1))).2.1 (t8 (t8 (t32 p.1.1))).2.2.1 (t8 (t8 (t32 p.1.1))).2.2.2.1 (t8 (t8 (t32 p.1.1))).2.2.2.2.1 (t8 (t8 (t8 p.2))).2.2.2.2.2.1 (t8 (t8 (t8 p.2))).2.2.2.2.2.2.1 (t8 (t8 (t8 p.2))).2.2.2.2.2.2.2.1))) (Device.mk (t8 (t8 (t8 (t32 p.1.1)))).1 (t8 (t8 (t8 (t32 p.1.1)))).2.1 (Reply.mk (t8 (t8 (t8 (t32 p.1.1)))).2.2.1 (t8 (t8 (t8 (t32 p.1.1)))).2.2.2.1 (Lease.mk (t8 (t8 (t8 (t32 p.1.1)))).2.2.2.2.1 (t8 (t8 (t8 (t32 p.1.1)))).2.2.2.2.2.1 (t8 (t8 (t8 (t32 p.1.1)))).2.2.2.2.2.2.1 (t8 (t8 (t8 (t32 p.1.1)))).2.2.2.2.2.2.2.1 (t32 p.2).1 (t32 p.2).2.1 (t32 p.2).2.2.1))) (Device.mk (t32 (t32 p.1.1)).2.2.2.1 (t32 (t32 p.1.1)).2.2.2.2.1 (Reply.mk (t32 (t32 p.1.1)).2.2.2.2.2.1 (t32 (t32 p.1.1)).2.2.2.2.2.2.1 (Lease.mk (t32 (t32 p.1.1)).2.2.2.2.2.2.2.1 (t8 (t32 (t32 p.1.1))).1 (t8 (t32 (t32 p.1.1))).2.1 (t8 (t32 (t32 p.1.1))).2.2.1 (t32 p.2).2.2.2.1 (t32 p.2).2.2.2.2.1 (t32 p.2).2.2.2.2.2.1))) (Device.mk (t8 (t32 (t32 p.1.1))).2.2.2.2.2.2.1 (t8 (t32 (t32 p.1.1))).2.2.2.2.2.2.2.1 (Reply.mk (t8 (t8 (t32 (t32 p.1.1)))).1 (t8 (t8 (t32 (t32 p.1.1)))).2.1 (Lease.mk (t8 (t8 (t32 (t32 p.1.1)))).2.2.1 (t8 (t8 (t32 (t32 p.1.1)))).2.2.2.1 (t8 (t8 (t32 (t32 p.1.1)))).2.2.2.2.1 (t8 (t8 (t32 (t32 p.1.1)))).2.2.2.2.2.1 (t32 p.2).2.2.2.2.2.2.1 (t32 p.2).2.2.2.2.2.2.2.1 (t8 (t32 p.2)).1)))) (t8 (t32 p.2)).2.1 (t8 (t8 (t8 (t32 (t32 p.1.1))))).2.2.1)) (fun (x:Desk)=>((((),((),((),((),((),((),((),((),((),((),((),((),((),((),((),((),((),((),((),((),((),((),((),(x.dev.a0.epoch,(x.dev.a0.req,(x.dev.a0.reply.err,(x.dev.a0.reply.n,(x.dev.a0.reply.lease.device,(x.dev.a0.reply.lease.epoch,(x.dev.a0.reply.lease.until_,(x.dev.a0.reply.lease.last,((),((),((),(x.dev.a1.epoch,(x.dev.a1.req,(x.dev.a1.reply.err,(x.dev.a1.reply.n,(x.dev.a1.reply.lease.device,(x.dev.a1.reply.lease.epoch,(x.dev.a1.reply.lease.until_,(x.dev.a1.reply.lease.last,((),((),((),(x.dev.a2.epoch,(x.dev.a2.req,(x.dev.a2.reply.err,(x.dev.a2.reply.n,(x.dev.a2.reply.lease.device,(x.dev.a2.reply.lease.epoch,(x.dev.a2.reply.lease.until_,(x.dev.a2.reply.lease.last,((),((),((),(x.dev.a3.epoch,(x.dev.a3.req,(x.dev.a3.reply.err,(x.dev.a3.reply.n,(x.dev.a3.reply.lease.device,(x.dev.a3.reply.lease.epoch,(x.dev.a3.reply.lease.until_,(x.dev.a3.reply.lease.last,((),((),((),(x.dev.a4.epoch,(x.dev.a4.req,(x.dev.a4.reply.err,(x.dev.a4.reply.n,(x.dev.a4.reply.lease.device,(x.dev.a4.reply.lease.epoch,(x.dev.a4.reply.lease.until_,(x.dev.a4.reply.lease.last,((),((),((),(x.dev.a5.epoch,(x.dev.a5.req,(x.dev.a5.reply.err,(x.dev.a5.reply.n,(x.dev.a5.reply.lease.device,(x.dev.a5.reply.lease.epoch,(x.dev.a5.reply.lease.until_,(x.dev.a5.reply.lease.last,((),((),((),((),(x.now,()))))))))))))))))))))))))))))))))))))))))))))))))))))))))))))))))))))))))))))))))))))))))))),()),(x.book.counters,(x.book.free,(x.book.leases,(x.book.bound,(x.colls.a0.v,(x.colls.a0.regs,(x.colls.a0.elems,(x.colls.a0.gone,(x.colls.a0.sums,(x.colls.a0.binds,(x.colls.a1.v,(x.colls.a1.regs,(x.colls.a1.elems,(x.colls.a1.gone,(x.colls.a1.sums,(x.colls.a1.binds,(x.colls.a2.v,(x.colls.a2.regs,(x.colls.a2.elems,(x.colls.a2.gone,(x.colls.a2.sums,(x.colls.a2.binds,(x.log,(x.dev.a0.reply.lease.slices,(x.dev.a0.reply.lease.ids,(x.dev.a0.reply.lease.used,(x.dev.a1.reply.lease.slices,(x.dev.a1.reply.lease.ids,(x.dev.a1.reply.lease.used,(x.dev.a2.reply.lease.slices,(x.dev.a2.reply.lease.ids,(x.dev.a2.reply.lease.used,(x.dev.a3.reply.lease.slices,(x.dev.a3.reply.lease.ids,(x.dev.a3.reply.lease.used,(x.dev.a4.reply.lease.slices,(x.dev.a4.reply.lease.ids,(x.dev.a4.reply.lease.used,(x.dev.a5.reply.lease.slices,(x.dev.a5.reply.lease.ids,(x.dev.a5.reply.lease.used,(x.lost,())))))))))))))))))))))))))))))))))))))))))))) (fun _=>rfl)
def un_deskOwn (p:Desk):Option Desk:=deskOwn p
def sf_deskOwn:SFn TL:=SFn.one ch_deskOwn.dec un_deskOwn .normal co_deskOwn.enc
def ss_deskOwn:sL:=[(77,sf_deskBook),(78,sf_deskLog),(41,sf_deskLease)]
def env_deskOwn:Env:=envOf tab sl sh [(38,fd38)] [(77,.sum),(78,.sum),(79,(.cln 66)),(80,(.cln 142)),(81,(.cln 145)),(50,(.cln 59)),(82,(.cln 129)),(83,(.cln 149)),(41,.sum)]
theorem env_deskOwn_ok:EnvOK PR (mkD cZ ss_deskOwn) env_deskOwn:=envOK_of base (aC (st38.okl rfl aN) aN) (aC (okS rfl ok_deskBook) (aC (okS rfl ok_deskLog) (aC (okCln okI_79) (aC (okCln okI_80) (aC (okCln okI_81) (aC (okCln okI_50) (aC (okCln okI_82) (aC (okCln okI_83) (aC (okS rfl ok_deskLease) aN)))))))))
theorem run_deskOwn (x:Desk):Out.run (mkO cZ ss_deskOwn) (evSum env_deskOwn 12 20 38 (ch_deskOwn.enc x)) (back1 co_deskOwn)=un_deskOwn x:=by kernel_rfl
theorem ok_deskOwn:SOK PR 38 sf_deskOwn:=sum_one env_deskOwn_ok (loops:=12) (n:=20) st38.enters ch_deskOwn co_deskOwn un_deskOwn run_deskOwn
def desk_fail (i1:Int):Option Reply :=
 some (Reply.mk i1 0 (Lease.mk 0 0 0 0 [] [] []))
def un_desk_fail (p:Int):Option Reply:=desk_fail p
def df_desk_fail:DFn TL:=DFn.of (DA.one dI) un_desk_fail (DA.one (DT.agg dc_Reply))
theorem run_desk_fail:DRun [] [] (envOf tab sl sh [(39,fd39)] []) 39 (DA.one dI) un_desk_fail (DA.one (DT.agg dc_Reply)):=fun _=>by kernel_rfl
theorem ok_desk_fail:DOK PR 39 .keep df_desk_fail:=dok run_desk_fail (envOK_of base (aC (st39.okl rfl aN) aN) aN) (.inl rfl) st39.enters
def clerkRegister (c1:Clerk):Option (Reply×Clerk) :=
 cond (decide (0≤c1.c.device) && decide (c1.c.device < 6))
 (cond (decide ((cond (decide (c1.c.device=0)) c1.d.dev.a0.epoch (cond (decide (c1.c.device=1)) c1.d.dev.a1.epoch (cond (decide (c1.c.device=2)) c1.d.dev.a2.epoch (cond (decide (c1.c.device=3)) c1.d.dev.a3.epoch (cond (decide (c1.c.device=4)) c1.d.dev.a4.epoch c1.d.dev.a5.epoch))))) > 0))
 none
 (cond (decide ((cond (decide (c1.c.device=0)) c1.d.dev.a0.epoch (cond (decide (c1.c.device=1)) c1.d.dev.a1.epoch (cond (decide (c1.c.device=2)) c1.d.dev.a2.epoch (cond (decide (c1.c.device=3)) c1.d.dev.a3.epoch (cond (decide (c1.c.device=4)) c1.d.dev.a4.epoch c1.d.dev.a5.epoch)))))≥1048576))
 (ob (desk_fail 11) fun r0 =>
 some (r0,c1))
 (some ((Reply.mk 0 (cond (decide (c1.c.device=0)) (cond (decide (c1.c.device=0)) (w64 ((cond (decide (c1.c.device=0)) c1.d.dev.a0.epoch (cond (decide (c1.c.device=1)) c1.d.dev.a1.epoch (cond (decide (c1.c.device=2)) c1.d.dev.a2.epoch (cond (decide (c1.c.device=3)) c1.d.dev.a3.epoch (cond (decide (c1.c.device=4)) c1.d.dev.a4.epoch c1.d.dev.a5.epoch)))))+1)) c1.d.dev.a0.epoch) (cond (decide (c1.c.device=1)) (cond (decide (c1.c.device=1)) (w64 ((cond (decide (c1.c.device=0)) c1.d.dev.a0.epoch (cond (decide (c1.c.device=1)) c1.d.dev.a1.epoch (cond (decide (c1.c.device=2)) c1.d.dev.a2.epoch (cond (decide (c1.c.device=3)) c1.d.dev.a3.epoch (cond (decide (c1.c.device=4)) c1.d.dev.a4.epoch c1.d.dev.a5.epoch)))))+1)) c1.d.dev.a1.epoch) (cond (decide (c1.c.device=2)) (cond (decide (c1.c.device=2)) (w64 ((cond (decide (c1.c.device=0)) c1.d.dev.a0.epoch (cond (decide (c1.c.device=1)) c1.d.dev.a1.epoch (cond (decide (c1.c.device=2)) c1.d.dev.a2.epoch (cond (decide (c1.c.device=3)) c1.d.dev.a3.epoch (cond (decide (c1.c.device=4)) c1.d.dev.a4.epoch c1.d.dev.a5.epoch)))))+1)) c1.d.dev.a2.epoch) (cond (decide (c1.c.device=3)) (cond (decide (c1.c.device=3)) (w64 ((cond (decide (c1.c.device=0)) c1.d.dev.a0.epoch (cond (decide (c1.c.device=1)) c1.d.dev.a1.epoch (cond (decide (c1.c.device=2)) c1.d.dev.a2.epoch (cond (decide (c1.c.device=3)) c1.d.dev.a3.epoch (cond (decide (c1.c.device=4)) c1.d.dev.a4.epoch c1.d.dev.a5.epoch)))))+1)) c1.d.dev.a3.epoch) (cond (decide (c1.c.device=4)) (cond (decide (c1.c.device=4)) (w64 ((cond (decide (c1.c.device=0)) c1.d.dev.a0.epoch (cond (decide (c1.c.device=1)) c1.d.dev.a1.epoch (cond (decide (c1.c.device=2)) c1.d.dev.a2.epoch (cond (decide (c1.c.device=3)) c1.d.dev.a3.epoch (cond (decide (c1.c.device=4)) c1.d.dev.a4.epoch c1.d.dev.a5.epoch)))))+1)) c1.d.dev.a4.epoch) (cond (decide (c1.c.device=5)) (w64 ((cond (decide (c1.c.device=0)) c1.d.dev.a0.epoch (cond (decide (c1.c.device=1)) c1.d.dev.a1.epoch (cond (decide (c1.c.device=2)) c1.d.dev.a2.epoch (cond (decide (c1.c.device=3)) c1.d.dev.a3.epoch (cond (decide (c1.c.device=4)) c1.d.dev.a4.epoch c1.d.dev.a5.epoch)))))+1)) c1.d.dev.a5.epoch)))))) (Lease.mk 0 0 0 0 [] [] [])),(Clerk.mk (Desk.mk c1.d.book c1.d.colls c1.d.log (A6Device.mk (Device.mk (cond (decide (c1.c.device=0)) (w64 ((cond (decide (c1.c.device=0)) c1.d.dev.a0.epoch (cond (decide (c1.c.device=1)) c1.d.dev.a1.epoch (cond (decide (c1.c.device=2)) c1.d.dev.a2.epoch (cond (decide (c1.c.device=3)) c1.d.dev.a3.epoch (cond (decide (c1.c.device=4)) c1.d.dev.a4.epoch c1.d.dev.a5.epoch)))))+1)) c1.d.dev.a0.epoch) c1.d.dev.a0.req c1.d.dev.a0.reply) (Device.mk (cond (decide (c1.c.device=1)) (w64 ((cond (decide (c1.c.device=0)) c1.d.dev.a0.epoch (cond (decide (c1.c.device=1)) c1.d.dev.a1.epoch (cond (decide (c1.c.device=2)) c1.d.dev.a2.epoch (cond (decide (c1.c.device=3)) c1.d.dev.a3.epoch (cond (decide (c1.c.device=4)) c1.d.dev.a4.epoch c1.d.dev.a5.epoch)))))+1)) c1.d.dev.a1.epoch) c1.d.dev.a1.req c1.d.dev.a1.reply) (Device.mk (cond (decide (c1.c.device=2)) (w64 ((cond (decide (c1.c.device=0)) c1.d.dev.a0.epoch (cond (decide (c1.c.device=1)) c1.d.dev.a1.epoch (cond (decide (c1.c.device=2)) c1.d.dev.a2.epoch (cond (decide (c1.c.device=3)) c1.d.dev.a3.epoch (cond (decide (c1.c.device=4)) c1.d.dev.a4.epoch c1.d.dev.a5.epoch)))))+1)) c1.d.dev.a2.epoch) c1.d.dev.a2.req c1.d.dev.a2.reply) (Device.mk (cond (decide (c1.c.device=3)) (w64 ((cond (decide (c1.c.device=0)) c1.d.dev.a0.epoch (cond (decide (c1.c.device=1)) c1.d.dev.a1.epoch (cond (decide (c1.c.device=2)) c1.d.dev.a2.epoch (cond (decide (c1.c.device=3)) c1.d.dev.a3.epoch (cond (decide (c1.c.device=4)) c1.d.dev.a4.epoch c1.d.dev.a5.epoch)))))+1)) c1.d.dev.a3.epoch) c1.d.dev.a3.req c1.d.dev.a3.reply) (Device.mk (cond (decide (c1.c.device=4)) (w64 ((cond (decide (c1.c.device=0)) c1.d.dev.a0.epoch (cond (decide (c1.c.device=1)) c1.d.dev.a1.epoch (cond (decide (c1.c.device=2)) c1.d.dev.a2.epoch (cond (decide (c1.c.device=3)) c1.d.dev.a3.epoch (cond (decide (c1.c.device=4)) c1.d.dev.a4.epoch c1.d.dev.a5.epoch)))))+1)) c1.d.dev.a4.epoch) c1.d.dev.a4.req c1.d.dev.a4.reply) (Device.mk (cond (decide (c1.c.device=5)) (w64 ((cond (decide (c1.c.device=0)) c1.d.dev.a0.epoch (cond (decide (c1.c.device=1)) c1.d.dev.a1.epoch (cond (decide (c1.c.device=2)) c1.d.dev.a2.epoch (cond (decide (c1.c.device=3)) c1.d.dev.a3.epoch (cond (decide (c1.c.device=4)) c1.d.dev.a4.epoch c1.d.dev.a5.epoch)))))+1)) c1.d.dev.a5.epoch) c1.d.dev.a5.req c1.d.dev.a5.reply)) c1.d.lost c1.d.now) c1.c)))))
 none
def hc0_Clerk:Cod (List (Nat×En TL)) Clerk:=kO (kC (Cod.var 0 100 (kC (kA 1) (kC (kA 2) (kC (kA 3) (kC (kA 4) (kC (kA 5) (kC (kA 6) (kC (kA 7) (kC (kA 8) (kC (kA 9) (kC (kA 10) (kC (kA 11) (kC (kA 12) (kC (kA 13) (kC (kA 14) (kC (kA 15) (kC (kA 16) (kC (kA 17) (kC (kA 18) (kC (kA 19) (kC (kA 20) (kC (kA 21) (kC (kA 22) (kC (kA 23) (kC kJ (kC kJ (kC kJ (kC kJ (kC kJ (kC kJ (kC kJ (kC kJ (kC (kA 24) (kC (kA 25) (kC (kA 26) (kC kJ (kC kJ (kC kJ (kC kJ (kC kJ (kC kJ (kC kJ (kC kJ (kC (kA 27) (kC (kA 28) (kC (kA 29) (kC kJ (kC kJ (kC kJ (kC kJ (kC kJ (kC kJ (kC kJ (kC kJ (kC (kA 30) (kC (kA 31) (kC (kA 32) (kC kJ (kC kJ (kC kJ (kC kJ (kC kJ (kC kJ (kC kJ (kC kJ (kC (kA 33) (kC (kA 34) (kC (kA 35) (kC kJ (kC kJ (kC kJ (kC kJ (kC kJ (kC kJ (kC kJ (kC kJ (kC (kA 36) (kC (kA 37) (kC (kA 38) (kC kJ (kC kJ (kC kJ (kC kJ (kC kJ (kC kJ (kC kJ (kC kJ (kC (kA 39) (kC (kA 40) (kC (kA 41) (kC (kA 42) (kC kJ (kC kJ (kC kJ (kC kJ (kC kJ (kC kJ (kC (kG j_lWant) (kC (kG j_lOp) kN))))))))))))))))))))))))))))))))))))))))))))))))))))))))))))))))))))))))))))))))))))))))))))))))))) (kC (kR 1 65 j_lCounter) (kC (kR 2 153 j_lRange) (kC (kR 3 43 j_lLease) (kC (kR 4 3 j_lInt) (kC (kR 5 66 j_lEntry) (kC (kR 6 142 j_lReg) (kC (kR 7 145 j_lElem) (kC (kR 8 59 j_lEntry) (kC (kR 9 129 j_lSum) (kC (kR 10 149 j_lBind) (kC (kR 11 66 j_lEntry) (kC (kR 12 142 j_lReg) (kC (kR 13 145 j_lElem) (kC (kR 14 59 j_lEntry) (kC (kR 15 129 j_lSum) (kC (kR 16 149 j_lBind) (kC (kR 17 66 j_lEntry) (kC (kR 18 142 j_lReg) (kC (kR 19 145 j_lElem) (kC (kR 20 59 j_lEntry) (kC (kR 21 129 j_lSum) (kC (kR 22 149 j_lBind) (kC (kR 23 61 j_lOp) (kC (kR 24 133 j_lSlice) (kC (kR 25 153 j_lRange) (kC (kR 26 3 j_lInt) (kC (kR 27 133 j_lSlice) (kC (kR 28 153 j_lRange) (kC (kR 29 3 j_lInt) (kC (kR 30 133 j_lSlice) (kC (kR 31 153 j_lRange) (kC (kR 32 3 j_lInt) (kC (kR 33 133 j_lSlice) (kC (kR 34 153 j_lRange) (kC (kR 35 3 j_lInt) (kC (kR 36 133 j_lSlice) (kC (kR 37 153 j_lRange) (kC (kR 38 3 j_lInt) (kC (kR 39 133 j_lSlice) (kC (kR 40 153 j_lRange) (kC (kR 41 3 j_lInt) (kC (kR 42 66 j_lEntry) kN))))))))))))))))))))))))))))))))))))))))))) (fun p=>(Clerk.mk (Desk.mk (Book.mk p.2.1 p.2.2.1 p.2.2.2.1 p.2.2.2.2.1) (A3Coll.mk (Coll.mk p.2.2.2.2.2.1 p.2.2.2.2.2.2.1 p.2.2.2.2.2.2.2.1 (t8 p).1 (t8 p).2.1 (t8 p).2.2.1) (Coll.mk (t8 p).2.2.2.1 (t8 p).2.2.2.2.1 (t8 p).2.2.2.2.2.1 (t8 p).2.2.2.2.2.2.1 (t8 p).2.2.2.2.2.2.2.1 (t8 (t8 p)).1) (Coll.mk (t8 (t8 p)).2.1 (t8 (t8 p)).2.2.1 (t8 (t8 p)).2.2.2.1 (t8 (t8 p)).2.2.2.2.1 (t8 (t8 p)).2.2.2.2.2.1 (t8 (t8 p)).2.2.2.2.2.2.1)) (t8 (t8 p)).2.2.2.2.2.2.2.1 (A6Device.mk (Device.mk (t8 (t8 p.1)).2.2.2.2.2.2.2.1 (t8 (t8 (t8 p.1))).1 (Reply.mk (t8 (t8 (t8 p.1))).2.1 (t8 (t8 (t8 p.1))).2.2.1 (Lease.mk (t8 (t8 (t8 p.1))).2.2.2.1 (t8 (t8 (t8 p.1))).2.2.2.2.1 (t8 (t8 (t8 p.1))).2.2.2.2.2.1 (t8 (t8 (t8 p.1))).2.2.2.2.2.2.1 (t8 (t8 (t8 p))).1 (t8 (t8 (t8 p))).2.1 (t8 (t8 (t8 p))).2.2.1))) (Device.mk (t32 p.1).2.2.1 (t32 p.1).2.2.2.1 (Reply.mk (t32 p.1).2.2.2.2.1 (t32 p.1).2.2.2.2.2.1 (Lease.mk (t32 p.1).2.2.2.2.2.2.1 (t32 p.1).2.2.2.2.2.2.2.1 (t8 (t32 p.1)).1 (t8 (t32 p.1)).2.1 (t8 (t8 (t8 p))).2.2.2.1 (t8 (t8 (t8 p))).2.2.2.2.1 (t8 (t8 (t8 p))).2.2.2.2.2.1))) (Device.mk (t8 (t32 p.1)).2.2.2.2.2.1 (t8 (t32 p.1)).2.2.2.2.2.2.1 (Reply.mk (t8 (t32 p.1)).2.2.2.2.2.2.2.1 (t8 (t8 (t32 p.1))).1 (Lease.mk (t8 (t8 (t32 p.1))).2.1 (t8 (t8 (t32 p.1))).2.2.1 (t8 (t8 (t32 p.1))).2.2.2.1 (t8 (t8 (t32 p.1))).2.2.2.2.1 (t8 (t8 (t8 p))).2.2.2.2.2.2.1 (t8 (t8 (t8 p))).2.2.2.2.2.2.2.1 (t32 p).1))) (Device.mk (t8 (t8 (t8 (t32 p.1)))).1 (t8 (t8 (t8 (t32 p.1)))).2.1 (Reply.mk (t8 (t8 (t8 (t32 p.1)))).2.2.1 (t8 (t8 (t8 (t32 p.1)))).2.2.2.1 (Lease.mk (t8 (t8 (t8 (t32 p.1)))).2.2.2.2.1 (t8 (t8 (t8 (t32 p.1)))).2.2.2.2.2.1 (t8 (t8 (t8 (t32 p.1)))).2.2.2.2.2.2.1 (t8 (t8 (t8 (t32 p.1)))).2.2.2.2.2.2.2.1 (t32 p).2.1 (t32 p).2.2.1 (t32 p).2.2.2.1))) (Device.mk (t32 (t32 p.1)).2.2.2.1 (t32 (t32 p.1)).2.2.2.2.1 (Reply.mk (t32 (t32 p.1)).2.2.2.2.2.1 (t32 (t32 p.1)).2.2.2.2.2.2.1 (Lease.mk (t32 (t32 p.1)).2.2.2.2.2.2.2.1 (t8 (t32 (t32 p.1))).1 (t8 (t32 (t32 p.1))).2.1 (t8 (t32 (t32 p.1))).2.2.1 (t32 p).2.2.2.2.1 (t32 p).2.2.2.2.2.1 (t32 p).2.2.2.2.2.2.1))) (Device.mk (t8 (t32 (t32 p.1))).2.2.2.2.2.2.1 (t8 (t32 (t32 p.1))).2.2.2.2.2.2.2.1 (Reply.mk (t8 (t8 (t32 (t32 p.1)))).1 (t8 (t8 (t32 (t32 p.1)))).2.1 (Lease.mk (t8 (t8 (t32 (t32 p.1)))).2.2.1 (t8 (t8 (t32 (t32 p.1)))).2.2.2.1 (t8 (t8 (t32 (t32 p.1)))).2.2.2.2.1 (t8 (t8 (t32 (t32 p.1)))).2.2.2.2.2.1 (t32 p).2.2.2.2.2.2.2.1 (t8 (t32 p)).1 (t8 (t32 p)).2.1)))) (t8 (t32 p)).2.2.1 (t8 (t8 (t8 (t32 (t32 p.1))))).2.2.1) (Cmd.mk (t8 (t8 (t8 (t32 (t32 p.1))))).2.2.2.1 (t8 (t8 (t8 (t32 (t32 p.1))))).2.2.2.2.1 (t8 (t8 (t8 (t32 (t32 p.1))))).2.2.2.2.2.1 (t8 (t8 (t8 (t32 (t32 p.1))))).2.2.2.2.2.2.1 (t8 (t8 (t8 (t32 (t32 p.1))))).2.2.2.2.2.2.2.1 (t32 (t32 (t32 p.1))).1 (t32 (t32 (t32 p.1))).2.1))) (fun (x:Clerk)=>(((),((),((),((),((),((),((),((),((),((),((),((),((),((),((),((),((),((),((),((),((),((),((),(x.d.dev.a0.epoch,(x.d.dev.a0.req,(x.d.dev.a0.reply.err,(x.d.dev.a0.reply.n,(x.d.dev.a0.reply.lease.device,(x.d.dev.a0.reply.lease.epoch,(x.d.dev.a0.reply.lease.until_,(x.d.dev.a0.reply.lease.last,((),((),((),(x.d.dev.a1.epoch,(x.d.dev.a1.req,(x.d.dev.a1.reply.err,(x.d.dev.a1.reply.n,(x.d.dev.a1.reply.lease.device,(x.d.dev.a1.reply.lease.epoch,(x.d.dev.a1.reply.lease.until_,(x.d.dev.a1.reply.lease.last,((),((),((),(x.d.dev.a2.epoch,(x.d.dev.a2.req,(x.d.dev.a2.reply.err,(x.d.dev.a2.reply.n,(x.d.dev.a2.reply.lease.device,(x.d.dev.a2.reply.lease.epoch,(x.d.dev.a2.reply.lease.until_,(x.d.dev.a2.reply.lease.last,((),((),((),(x.d.dev.a3.epoch,(x.d.dev.a3.req,(x.d.dev.a3.reply.err,(x.d.dev.a3.reply.n,(x.d.dev.a3.reply.lease.device,(x.d.dev.a3.reply.lease.epoch,(x.d.dev.a3.reply.lease.until_,(x.d.dev.a3.reply.lease.last,((),((),((),(x.d.dev.a4.epoch,(x.d.dev.a4.req,(x.d.dev.a4.reply.err,(x.d.dev.a4.reply.n,(x.d.dev.a4.reply.lease.device,(x.d.dev.a4.reply.lease.epoch,(x.d.dev.a4.reply.lease.until_,(x.d.dev.a4.reply.lease.last,((),((),((),(x.d.dev.a5.epoch,(x.d.dev.a5.req,(x.d.dev.a5.reply.err,(x.d.dev.a5.reply.n,(x.d.dev.a5.reply.lease.device,(x.d.dev.a5.reply.lease.epoch,(x.d.dev.a5.reply.lease.until_,(x.d.dev.a5.reply.lease.last,((),((),((),((),(x.d.now,(x.c.kind,(x.c.device,(x.c.epoch,(x.c.req,(x.c.n,(x.c.wants,(x.c.ops,())))))))))))))))))))))))))))))))))))))))))))))))))))))))))))))))))))))))))))))))))))))))))))))))))),(x.d.book.counters,(x.d.book.free,(x.d.book.leases,(x.d.book.bound,(x.d.colls.a0.v,(x.d.colls.a0.regs,(x.d.colls.a0.elems,(x.d.colls.a0.gone,(x.d.colls.a0.sums,(x.d.colls.a0.binds,(x.d.colls.a1.v,(x.d.colls.a1.regs,(x.d.colls.a1.elems,(x.d.colls.a1.gone,(x.d.colls.a1.sums,(x.d.colls.a1.binds,(x.d.colls.a2.v,(x.d.colls.a2.regs,(x.d.colls.a2.elems,(x.d.colls.a2.gone,(x.d.colls.a2.sums,(x.d.colls.a2.binds,(x.d.log,(x.d.dev.a0.reply.lease.slices,(x.d.dev.a0.reply.lease.ids,(x.d.dev.a0.reply.lease.used,(x.d.dev.a1.reply.lease.slices,(x.d.dev.a1.reply.lease.ids,(x.d.dev.a1.reply.lease.used,(x.d.dev.a2.reply.lease.slices,(x.d.dev.a2.reply.lease.ids,(x.d.dev.a2.reply.lease.used,(x.d.dev.a3.reply.lease.slices,(x.d.dev.a3.reply.lease.ids,(x.d.dev.a3.reply.lease.used,(x.d.dev.a4.reply.lease.slices,(x.d.dev.a4.reply.lease.ids,(x.d.dev.a4.reply.lease.used,(x.d.dev.a5.reply.lease.slices,(x.d.dev.a5.reply.lease.ids,(x.d.dev.a5.reply.lease.used,(x.d.lost,())))))))))))))))))))))))))))))))))))))))))))) (fun _=>rfl)
def ch_clerkRegister:kT (Clerk):=kO (kS 43 (kC (kP 0 0) kN) hc0_Clerk) (fun p=>p.2) (fun (x:Clerk)=>(((),()),x)) (fun _=>rfl)
def cc_Reply:Cod (List (C TL)) Reply:=kO (kC kJ (kC kJ (kC kJ (kC kJ (kC kJ (kC kJ (kC (kG j_lSlice) (kC (kG j_lRange) (kC (kG j_lInt) kN))))))))) (fun p=>(Reply.mk p.1 p.2.1 (Lease.mk p.2.2.1 p.2.2.2.1 p.2.2.2.2.1 p.2.2.2.2.2.1 p.2.2.2.2.2.2.1 p.2.2.2.2.2.2.2.1 (t8 p).1))) (fun (x:Reply)=>(x.err,(x.n,(x.lease.device,(x.lease.epoch,(x.lease.until_,(x.lease.last,(x.lease.slices,(x.lease.ids,(x.lease.used,())))))))))) (fun _=>rfl)
def co_clerkRegister:kT (Reply×Clerk):=kO (kS 86 (kC (Cod.xs (Cod.sa cc_Reply)) kN) hc0_Clerk) (fun p=>(p.1.1,p.2)) (fun (x:Reply×Clerk)=>((x.1,()),x.2)) (fun _=>rfl)
def un_clerkRegister (p:Clerk):Option (Reply×Clerk):=clerkRegister p
def sf_clerkRegister:SFn TL:=SFn.one ch_clerkRegister.dec un_clerkRegister .normal co_clerkRegister.enc
def cs_clerkRegister:cL:=[(39,df_desk_fail)]
def env_clerkRegister:Env:=envOf tab sl sh [(84,fd84),(128,fd128)] [(39,.keep)]
theorem env_clerkRegister_ok:EnvOK PR (mkD cs_clerkRegister sZ) env_clerkRegister:=envOK_of base (aC (st84.okl rfl aN) (aC (st128.okl rfl aN) aN)) (aC (oD ok_desk_fail rfl) aN)
theorem run_clerkRegister (x:Clerk):Out.run (mkO cs_clerkRegister sZ) (evSum env_clerkRegister 12 20 84 (ch_clerkRegister.enc x)) (back1 co_clerkRegister)=un_clerkRegister x:=by kernel_rfl
theorem ok_clerkRegister:SOK PR 84 sf_clerkRegister:=sum_one env_clerkRegister_ok (loops:=12) (n:=20) st84.enters ch_clerkRegister co_clerkRegister un_clerkRegister run_clerkRegister
def clerkWork (c1:Clerk):Option (Reply×Clerk) :=
 cond (c1.c.kind == 1)
 (ob (clerkRegister c1) fun y0 =>
 some (y0.1,y0.2))
 (cond (c1.c.kind == 2)
 none
 (cond (c1.c.kind == 3)
 none
 (cond (c1.c.kind == 4)
 none
 (cond (c1.c.kind == 5)
 none
 (cond (c1.c.kind == 6)
 none
 none)))))
def un_clerkWork (p:Clerk):Option (Reply×Clerk):=clerkWork p
def sf_clerkWork:SFn TL:=SFn.one ch_clerkRegister.dec un_clerkWork .normal co_clerkRegister.enc
def ss_clerkWork:sL:=[(84,sf_clerkRegister)]
def env_clerkWork:Env:=envOf tab sl sh [(40,fd40)] [(84,.sum)]
theorem env_clerkWork_ok:EnvOK PR (mkD cZ ss_clerkWork) env_clerkWork:=envOK_of base (aC (st40.okl rfl aN) aN) (aC (okS rfl ok_clerkRegister) aN)
theorem run_clerkWork (x:Clerk):Out.run (mkO cZ ss_clerkWork) (evSum env_clerkWork 12 20 40 (ch_clerkRegister.enc x)) (back1 co_clerkRegister)=un_clerkWork x:=by kernel_rfl
theorem ok_clerkWork:SOK PR 40 sf_clerkWork:=sum_one env_clerkWork_ok (loops:=12) (n:=20) st40.enters ch_clerkRegister co_clerkRegister un_clerkWork run_clerkWork
def deskDo (d1:Desk)(c1:Cmd):Option (Desk×Reply) :=
 cond (cond (decide (c1.kind < 1)) true (decide (c1.kind > 7)))
 (ob (deskOwn d1) fun y0 =>
 ob (desk_fail 3) fun r1 =>
 some (y0,r1))
 (cond (cond (c1.kind != 7) (!(cond (decide (c1.device≥0)) (decide (c1.device < 6)) false)) false)
 (ob (deskOwn d1) fun y2 =>
 ob (desk_fail 1) fun r3 =>
 some (y2,r3))
 (cond (c1.kind == 1)
 (ob (deskOwn d1) fun y4 =>
 cond (decide (0≤c1.device) && decide (c1.device < 6))
 (cond (cond (decide (c1.req < 1)) true (decide (c1.req > 1073741824)))
 (ob (deskOwn d1) fun y5 =>
 ob (desk_fail 1) fun r6 =>
 some (y5,r6))
 (cond (c1.req == (cond (decide (c1.device=0)) y4.dev.a0.req (cond (decide (c1.device=1)) y4.dev.a1.req (cond (decide (c1.device=2)) y4.dev.a2.req (cond (decide (c1.device=3)) y4.dev.a3.req (cond (decide (c1.device=4)) y4.dev.a4.req y4.dev.a5.req))))))
 (ob (deskOwn d1) fun y7 =>
 some (y7,(Reply.sel (decide (c1.device=0)) y4.dev.a0.reply (Reply.mk (cond (decide (c1.device=1)) y4.dev.a1.reply.err (cond (decide (c1.device=2)) y4.dev.a2.reply.err (cond (decide (c1.device=3)) y4.dev.a3.reply.err (cond (decide (c1.device=4)) y4.dev.a4.reply.err y4.dev.a5.reply.err)))) (cond (decide (c1.device=1)) y4.dev.a1.reply.n (cond (decide (c1.device=2)) y4.dev.a2.reply.n (cond (decide (c1.device=3)) y4.dev.a3.reply.n (cond (decide (c1.device=4)) y4.dev.a4.reply.n y4.dev.a5.reply.n)))) (Lease.mk (cond (decide (c1.device=1)) y4.dev.a1.reply.lease.device (cond (decide (c1.device=2)) y4.dev.a2.reply.lease.device (cond (decide (c1.device=3)) y4.dev.a3.reply.lease.device (cond (decide (c1.device=4)) y4.dev.a4.reply.lease.device y4.dev.a5.reply.lease.device)))) (cond (decide (c1.device=1)) y4.dev.a1.reply.lease.epoch (cond (decide (c1.device=2)) y4.dev.a2.reply.lease.epoch (cond (decide (c1.device=3)) y4.dev.a3.reply.lease.epoch (cond (decide (c1.device=4)) y4.dev.a4.reply.lease.epoch y4.dev.a5.reply.lease.epoch)))) (cond (decide (c1.device=1)) y4.dev.a1.reply.lease.until_ (cond (decide (c1.device=2)) y4.dev.a2.reply.lease.until_ (cond (decide (c1.device=3)) y4.dev.a3.reply.lease.until_ (cond (decide (c1.device=4)) y4.dev.a4.reply.lease.until_ y4.dev.a5.reply.lease.until_)))) (cond (decide (c1.device=1)) y4.dev.a1.reply.lease.last (cond (decide (c1.device=2)) y4.dev.a2.reply.lease.last (cond (decide (c1.device=3)) y4.dev.a3.reply.lease.last (cond (decide (c1.device=4)) y4.dev.a4.reply.lease.last y4.dev.a5.reply.lease.last)))) (cond (decide (c1.device=1)) y4.dev.a1.reply.lease.slices (cond (decide (c1.device=2)) y4.dev.a2.reply.lease.slices (cond (decide (c1.device=3)) y4.dev.a3.reply.lease.slices (cond (decide (c1.device=4)) y4.dev.a4.reply.lease.slices y4.dev.a5.reply.lease.slices)))) (cond (decide (c1.device=1)) y4.dev.a1.reply.lease.ids (cond (decide (c1.device=2)) y4.dev.a2.reply.lease.ids (cond (decide (c1.device=3)) y4.dev.a3.reply.lease.ids (cond (decide (c1.device=4)) y4.dev.a4.reply.lease.ids y4.dev.a5.reply.lease.ids)))) (cond (decide (c1.device=1)) y4.dev.a1.reply.lease.used (cond (decide (c1.device=2)) y4.dev.a2.reply.lease.used (cond (decide (c1.device=3)) y4.dev.a3.reply.lease.used (cond (decide (c1.device=4)) y4.dev.a4.reply.lease.used y4.dev.a5.reply.lease.used)))))))))
 (cond (decide (c1.req < (cond (decide (c1.device=0)) y4.dev.a0.req (cond (decide (c1.device=1)) y4.dev.a1.req (cond (decide (c1.device=2)) y4.dev.a2.req (cond (decide (c1.device=3)) y4.dev.a3.req (cond (decide (c1.device=4)) y4.dev.a4.req y4.dev.a5.req)))))))
 (ob (deskOwn d1) fun y8 =>
 ob (desk_fail 7) fun r9 =>
 some (y8,r9))
 (ob (deskOwn d1) fun y16 =>
 ob (clerkWork (Clerk.mk y16 c1)) fun y17 =>
 cond (y17.1.err != 0)
 (ob (deskOwn d1) fun y18 =>
 cond (decide (0≤c1.device) && decide (c1.device < 6))
 (cond (decide (0≤c1.device) && decide (c1.device < 6))
 (ob (deskLease y17.1.lease) fun y19 =>
 ob (deskOwn (Desk.mk y18.book y18.colls y18.log (A6Device.mk (Device.mk y18.dev.a0.epoch (cond (decide (c1.device=0)) c1.req y18.dev.a0.req) (Reply.sel (decide (c1.device=0)) y17.1 y18.dev.a0.reply)) (Device.mk y18.dev.a1.epoch (cond (decide (c1.device=1)) c1.req y18.dev.a1.req) (Reply.sel (decide (c1.device=1)) y17.1 y18.dev.a1.reply)) (Device.mk y18.dev.a2.epoch (cond (decide (c1.device=2)) c1.req y18.dev.a2.req) (Reply.sel (decide (c1.device=2)) y17.1 y18.dev.a2.reply)) (Device.mk y18.dev.a3.epoch (cond (decide (c1.device=3)) c1.req y18.dev.a3.req) (Reply.sel (decide (c1.device=3)) y17.1 y18.dev.a3.reply)) (Device.mk y18.dev.a4.epoch (cond (decide (c1.device=4)) c1.req y18.dev.a4.req) (Reply.sel (decide (c1.device=4)) y17.1 y18.dev.a4.reply)) (Device.mk y18.dev.a5.epoch (cond (decide (c1.device=5)) c1.req y18.dev.a5.req) (Reply.sel (decide (c1.device=5)) y17.1 y18.dev.a5.reply))) y18.lost y18.now)) fun y20 =>
 some (y20,(Reply.mk y17.1.err y17.1.n y19)))
 none)
 none)
 (ob (deskOwn y17.2.d) fun y21 =>
 cond (decide (0≤c1.device) && decide (c1.device < 6))
 (cond (decide (0≤c1.device) && decide (c1.device < 6))
 (ob (deskLease y17.1.lease) fun y22 =>
 ob (deskOwn (Desk.mk y21.book y21.colls y21.log (A6Device.mk (Device.mk y21.dev.a0.epoch (cond (decide (c1.device=0)) c1.req y21.dev.a0.req) (Reply.sel (decide (c1.device=0)) y17.1 y21.dev.a0.reply)) (Device.mk y21.dev.a1.epoch (cond (decide (c1.device=1)) c1.req y21.dev.a1.req) (Reply.sel (decide (c1.device=1)) y17.1 y21.dev.a1.reply)) (Device.mk y21.dev.a2.epoch (cond (decide (c1.device=2)) c1.req y21.dev.a2.req) (Reply.sel (decide (c1.device=2)) y17.1 y21.dev.a2.reply)) (Device.mk y21.dev.a3.epoch (cond (decide (c1.device=3)) c1.req y21.dev.a3.req) (Reply.sel (decide (c1.device=3)) y17.1 y21.dev.a3.reply)) (Device.mk y21.dev.a4.epoch (cond (decide (c1.device=4)) c1.req y21.dev.a4.req) (Reply.sel (decide (c1.device=4)) y17.1 y21.dev.a4.reply)) (Device.mk y21.dev.a5.epoch (cond (decide (c1.device=5)) c1.req y21.dev.a5.req) (Reply.sel (decide (c1.device=5)) y17.1 y21.dev.a5.reply))) y21.lost y21.now)) fun y23 =>
 some (y23,(Reply.mk y17.1.err y17.1.n y22)))
 none)
 none)))))
 none)
 (cond (cond (c1.kind == 2) (c1.kind == 2) (c1.kind == 4))
 (ob (deskOwn d1) fun y10 =>
 cond (decide (0≤c1.device) && decide (c1.device < 6))
 (cond (cond (decide (c1.req < 1)) true (decide (c1.req > 1073741824)))
 (ob (deskOwn d1) fun y11 =>
 ob (desk_fail 1) fun r12 =>
 some (y11,r12))
 (cond (c1.req == (cond (decide (c1.device=0)) y10.dev.a0.req (cond (decide (c1.device=1)) y10.dev.a1.req (cond (decide (c1.device=2)) y10.dev.a2.req (cond (decide (c1.device=3)) y10.dev.a3.req (cond (decide (c1.device=4)) y10.dev.a4.req y10.dev.a5.req))))))
 (ob (deskOwn d1) fun y13 =>
 some (y13,(Reply.sel (decide (c1.device=0)) y10.dev.a0.reply (Reply.mk (cond (decide (c1.device=1)) y10.dev.a1.reply.err (cond (decide (c1.device=2)) y10.dev.a2.reply.err (cond (decide (c1.device=3)) y10.dev.a3.reply.err (cond (decide (c1.device=4)) y10.dev.a4.reply.err y10.dev.a5.reply.err)))) (cond (decide (c1.device=1)) y10.dev.a1.reply.n (cond (decide (c1.device=2)) y10.dev.a2.reply.n (cond (decide (c1.device=3)) y10.dev.a3.reply.n (cond (decide (c1.device=4)) y10.dev.a4.reply.n y10.dev.a5.reply.n)))) (Lease.mk (cond (decide (c1.device=1)) y10.dev.a1.reply.lease.device (cond (decide (c1.device=2)) y10.dev.a2.reply.lease.device (cond (decide (c1.device=3)) y10.dev.a3.reply.lease.device (cond (decide (c1.device=4)) y10.dev.a4.reply.lease.device y10.dev.a5.reply.lease.device)))) (cond (decide (c1.device=1)) y10.dev.a1.reply.lease.epoch (cond (decide (c1.device=2)) y10.dev.a2.reply.lease.epoch (cond (decide (c1.device=3)) y10.dev.a3.reply.lease.epoch (cond (decide (c1.device=4)) y10.dev.a4.reply.lease.epoch y10.dev.a5.reply.lease.epoch)))) (cond (decide (c1.device=1)) y10.dev.a1.reply.lease.until_ (cond (decide (c1.device=2)) y10.dev.a2.reply.lease.until_ (cond (decide (c1.device=3)) y10.dev.a3.reply.lease.until_ (cond (decide (c1.device=4)) y10.dev.a4.reply.lease.until_ y10.dev.a5.reply.lease.until_)))) (cond (decide (c1.device=1)) y10.dev.a1.reply.lease.last (cond (decide (c1.device=2)) y10.dev.a2.reply.lease.last (cond (decide (c1.device=3)) y10.dev.a3.reply.lease.last (cond (decide (c1.device=4)) y10.dev.a4.reply.lease.last y10.dev.a5.reply.lease.last)))) (cond (decide (c1.device=1)) y10.dev.a1.reply.lease.slices (cond (decide (c1.device=2)) y10.dev.a2.reply.lease.slices (cond (decide (c1.device=3)) y10.dev.a3.reply.lease.slices (cond (decide (c1.device=4)) y10.dev.a4.reply.lease.slices y10.dev.a5.reply.lease.slices)))) (cond (decide (c1.device=1)) y10.dev.a1.reply.lease.ids (cond (decide (c1.device=2)) y10.dev.a2.reply.lease.ids (cond (decide (c1.device=3)) y10.dev.a3.reply.lease.ids (cond (decide (c1.device=4)) y10.dev.a4.reply.lease.ids y10.dev.a5.reply.lease.ids)))) (cond (decide (c1.device=1)) y10.dev.a1.reply.lease.used (cond (decide (c1.device=2)) y10.dev.a2.reply.lease.used (cond (decide (c1.device=3)) y10.dev.a3.reply.lease.used (cond (decide (c1.device=4)) y10.dev.a4.reply.lease.used y10.dev.a5.reply.lease.used)))))))))
 (cond (decide (c1.req < (cond (decide (c1.device=0)) y10.dev.a0.req (cond (decide (c1.device=1)) y10.dev.a1.req (cond (decide (c1.device=2)) y10.dev.a2.req (cond (decide (c1.device=3)) y10.dev.a3.req (cond (decide (c1.device=4)) y10.dev.a4.req y10.dev.a5.req)))))))
 (ob (deskOwn d1) fun y14 =>
 ob (desk_fail 7) fun r15 =>
 some (y14,r15))
 (ob (deskOwn d1) fun y24 =>
 ob (clerkWork (Clerk.mk y24 c1)) fun y25 =>
 cond (y25.1.err != 0)
 (ob (deskOwn d1) fun y26 =>
 cond (decide (0≤c1.device) && decide (c1.device < 6))
 (cond (decide (0≤c1.device) && decide (c1.device < 6))
 (ob (deskLease y25.1.lease) fun y27 =>
 ob (deskOwn (Desk.mk y26.book y26.colls y26.log (A6Device.mk (Device.mk y26.dev.a0.epoch (cond (decide (c1.device=0)) c1.req y26.dev.a0.req) (Reply.sel (decide (c1.device=0)) y25.1 y26.dev.a0.reply)) (Device.mk y26.dev.a1.epoch (cond (decide (c1.device=1)) c1.req y26.dev.a1.req) (Reply.sel (decide (c1.device=1)) y25.1 y26.dev.a1.reply)) (Device.mk y26.dev.a2.epoch (cond (decide (c1.device=2)) c1.req y26.dev.a2.req) (Reply.sel (decide (c1.device=2)) y25.1 y26.dev.a2.reply)) (Device.mk y26.dev.a3.epoch (cond (decide (c1.device=3)) c1.req y26.dev.a3.req) (Reply.sel (decide (c1.device=3)) y25.1 y26.dev.a3.reply)) (Device.mk y26.dev.a4.epoch (cond (decide (c1.device=4)) c1.req y26.dev.a4.req) (Reply.sel (decide (c1.device=4)) y25.1 y26.dev.a4.reply)) (Device.mk y26.dev.a5.epoch (cond (decide (c1.device=5)) c1.req y26.dev.a5.req) (Reply.sel (decide (c1.device=5)) y25.1 y26.dev.a5.reply))) y26.lost y26.now)) fun y28 =>
 some (y28,(Reply.mk y25.1.err y25.1.n y27)))
 none)
 none)
 (ob (deskOwn y25.2.d) fun y29 =>
 cond (decide (0≤c1.device) && decide (c1.device < 6))
 (cond (decide (0≤c1.device) && decide (c1.device < 6))
 (ob (deskLease y25.1.lease) fun y30 =>
 ob (deskOwn (Desk.mk y29.book y29.colls y29.log (A6Device.mk (Device.mk y29.dev.a0.epoch (cond (decide (c1.device=0)) c1.req y29.dev.a0.req) (Reply.sel (decide (c1.device=0)) y25.1 y29.dev.a0.reply)) (Device.mk y29.dev.a1.epoch (cond (decide (c1.device=1)) c1.req y29.dev.a1.req) (Reply.sel (decide (c1.device=1)) y25.1 y29.dev.a1.reply)) (Device.mk y29.dev.a2.epoch (cond (decide (c1.device=2)) c1.req y29.dev.a2.req) (Reply.sel (decide (c1.device=2)) y25.1 y29.dev.a2.reply)) (Device.mk y29.dev.a3.epoch (cond (decide (c1.device=3)) c1.req y29.dev.a3.req) (Reply.sel (decide (c1.device=3)) y25.1 y29.dev.a3.reply)) (Device.mk y29.dev.a4.epoch (cond (decide (c1.device=4)) c1.req y29.dev.a4.req) (Reply.sel (decide (c1.device=4)) y25.1 y29.dev.a4.reply)) (Device.mk y29.dev.a5.epoch (cond (decide (c1.device=5)) c1.req y29.dev.a5.req) (Reply.sel (decide (c1.device=5)) y25.1 y29.dev.a5.reply))) y29.lost y29.now)) fun y31 =>
 some (y31,(Reply.mk y25.1.err y25.1.n y30)))
 none)
 none)))))
 none)
 (ob (deskOwn d1) fun y32 =>
 ob (clerkWork (Clerk.mk y32 c1)) fun y33 =>
 cond (y33.1.err != 0)
 (ob (deskOwn d1) fun y34 =>
 ob (deskLease y33.1.lease) fun y35 =>
 ob (deskOwn y34) fun y36 =>
 some (y36,(Reply.mk y33.1.err y33.1.n y35)))
 (ob (deskOwn y33.2.d) fun y37 =>
 ob (deskLease y33.1.lease) fun y38 =>
 ob (deskOwn y37) fun y39 =>
 some (y39,(Reply.mk y33.1.err y33.1.n y38)))))))
def un_deskDo (p:Desk×Cmd):Option (Desk×Reply):=deskDo p.1 p.2
def df_deskDo:DFn TL:=DFn.of (DA.cons (DT.agg dc_Desk) (DA.one (DT.agg dc_Cmd))) un_deskDo (DA.cons (DT.agg dc_Desk) (DA.one (DT.agg dc_Reply)))
theorem run_deskDo:DRun [(39,df_desk_fail)] [(38,sf_deskOwn),(40,sf_clerkWork),(41,sf_deskLease)] (envOf tab sl sh [(18,fd18)] [(38,.sum),(39,.keep),(40,.sum),(41,.sum)]) 18 (DA.cons (DT.agg dc_Desk) (DA.one (DT.agg dc_Cmd))) un_deskDo (DA.cons (DT.agg dc_Desk) (DA.one (DT.agg dc_Reply))):=fun _=>by kernel_rfl
theorem ok_deskDo:DOK PR 18 .keep df_deskDo:=dok run_deskDo (envOK_of base (aC (st18.okl rfl aN) aN) (aC (okS rfl ok_deskOwn) (aC (oD ok_desk_fail rfl) (aC (okS rfl ok_clerkWork) (aC (okS rfl ok_deskLease) aN))))) (.inl rfl) st18.enters
abbrev tY0:=(List Bool)×Int×(List Op)×Int×Int×Desk
def step_L24_5 (l1:List Bool)(i1:Int)(l2:List Op)(i2:Int)(i3:Int)(d1:Desk):Option ((tY0)⊕((((List Op)×Int×Desk)⊕((List Op)×Int×Desk)))) :=
 cond (decide (i3 < (d1.log.length:Int)))
 (cond (decide (0≤i3))
 (ob (d1.log[i3.toNat]?) fun e0 =>
 cond (decide (e0.coll≥(min2 (l1.length:Int) 3)))
 (some (.inl (l1,i1,l2,i2,(w64 (i3+1)),d1)))
 (cond (decide (0≤e0.coll))
 (ob (l1[e0.coll.toNat]?) fun e1 =>
 cond (!e1)
 (some (.inl (l1,i1,l2,i2,(w64 (i3+1)),d1)))
 (cond (fits e0.dots.length)
 (cond (fits ((l2++[e0]).length))
 (cond (((l2++[e0]).length:Int) == i1)
 (cond (fits ((l2++[e0]).length))
 (some (.inr (.inr ((l2++[e0]),(w64 (i3+1)),d1))))
 none)
 (some (.inl (l1,i1,(l2++[e0]),i2,(w64 (i3+1)),d1))))
 none)
 none))
 none))
 none)
 (some (.inr (.inl (l2,i2,d1))))
def stp_L24_5 (p:tY0):Option ((tY0)⊕((((List Op)×Int×Desk)⊕((List Op)×Int×Desk)))):=step_L24_5 p.1 p.2.1 p.2.2.1 p.2.2.2.1 p.2.2.2.2.1 p.2.2.2.2.2
def L24_5 (l1:List Bool)(i1:Int)(l2:List Op)(i2:Int)(i3:Int)(d1:Desk):Option ((((List Op)×Int×Desk)⊕((List Op)×Int×Desk))):=iterO stp_L24_5 (1099511627776) (l1,i1,l2,i2,i3,d1)
def ch_L24_5:kT (tY0):=kO (kS 2 (kC (kF j_lBool) (kC kI (kC (kP 0 0) (kC (Cod.xs (Cod.sc (kA 1))) (kC kI (kC kI kN)))))) (kC (Cod.var 0 50 cc_Desk) (kC (kR 1 61 j_lOp) kN))) (fun ((z0,z1,_,_,z2,z3,_),z4,z5,_)=>(z0,z1,z5,z2,z3,z4)) (fun (x:tY0)=>((x.1,(x.2.1,((),((),(x.2.2.2.1,(x.2.2.2.2.1,())))))),(x.2.2.2.2.2,(x.2.2.1,())))) (fun _=>rfl)
def co0_L24_5:kT ((List Op)×Int×Desk):=kO (kS 4 (kC (kP 0 0) (kC (Cod.xs (Cod.sc (kA 3))) (kC kI kN))) (kC (Cod.var 0 50 cc_Desk) (kC (kR 3 61 j_lOp) kN))) (fun p=>(p.2.2.1,p.1.2.2.1,p.2.1)) (fun (x:(List Op)×Int×Desk)=>(((),((),(x.2.1,()))),(x.2.2,(x.1,())))) (fun _=>rfl)
def sl_L24_5:SFn TL:=SFn.two ch_L24_5.dec (fun p=>L24_5 p.1 p.2.1 p.2.2.1 p.2.2.2.1 p.2.2.2.2.1 p.2.2.2.2.2) (.exit 0) .ret co0_L24_5.enc co0_L24_5.enc
def v_L24_5:Env:=envOf tab sl sh [] [(50,(.cln 59)),(51,(.cln 61))]
theorem v_L24_5_ok:EnvOK PR (mkD cZ sZ) v_L24_5:=envOK_of base aN (aC (okCln okI_50) (aC (okCln okI_51) aN))
theorem run_L24_5 (x:tY0):Out.run (mkO cZ sZ) (evRound v_L24_5 12 20 fd24.an q_L24_5 (loopIn (loopsOf fd24.body) 5) (ch_L24_5.enc x)) (back2 ch_L24_5 co0_L24_5 co0_L24_5 (.exit 0) .ret)=stp_L24_5 x:=by kernel_rfl
theorem ok_L24_5:LoopOK PR (oneS sl_L24_5) nt24 q_L24_5 (loopIn (loopsOf fd24.body) 5) :=
  loop_two v_L24_5_ok (loops:=12) (k:=20) (an:=fd24.an) (by kernel_rfl) (FnSt.subl rfl st24.keys (aC (.inl (by kernel_rfl)) aN)) ch_L24_5 co0_L24_5 co0_L24_5 (.exit 0) .ret rfl rfl stp_L24_5 _ run_L24_5 (fun x y h=>⟨_,h⟩) (fun _=>below_iff.1 rfl)
def dDelta (d1:Desk)(i1:Int)(l1:List Bool)(i2:Int):Option ((List Op)×Int) :=
 cond (decide (i2 < 1))
 (some ([],(min2 (max2 i1 0) (d1.log.length:Int))))
 (ob (L24_5 l1 i2 [] 0 (max2 i1 0) d1) fun y0 =>
 two y0 (fun a1 =>
 cond (fits a1.1.length)
 (some (a1.1,(a1.2.2.log.length:Int)))
 none) (fun b2 =>
 some (b2.1,b2.2.1)))
def un_dDelta (p:Desk×Int×(List Bool)×Int):Option ((List Op)×Int):=dDelta p.1 p.2.1 p.2.2.1 p.2.2.2
def df_dDelta:DFn TL:=DFn.of (DA.cons (DT.agg dc_Desk) (DA.cons dI (DA.cons (DT.one di_lBool) (DA.one dI)))) un_dDelta (DA.cons (DT.one di_lOp) (DA.one dI))
theorem run_dDelta:DRun [] [(124005,sl_L24_5)] (envOf tab sl sh [(24,fd24)] [(51,(.cln 61))]) 24 (DA.cons (DT.agg dc_Desk) (DA.cons dI (DA.cons (DT.one di_lBool) (DA.one dI)))) un_dDelta (DA.cons (DT.one di_lOp) (DA.one dI)):=fun _=>by kernel_rfl
theorem ok_dDelta:DOK PR 24 .keep df_dDelta:=dok run_dDelta (envOK_of base (aC (st24.okl rfl (aC (lC ok_L24_5 rfl) aN)) aN) (aC (okCln okI_51) aN)) (.inl rfl) st24.enters
def ledger_within (i1:Int)(i2:Int)(i3:Int):Option Bool :=
 some (cond (decide (i1≥i2)) (decide (i1≤i3)) false)
def un_ledger_within (p:Int×Int×Int):Option Bool:=ledger_within p.1 p.2.1 p.2.2
def df_ledger_within:DFn TL:=DFn.of (DA.cons dI (DA.cons dI (DA.one dI))) un_ledger_within (DA.one dB)
theorem run_ledger_within:DRun [] [] (envOf tab sl sh [(122,fd122)] []) 122 (DA.cons dI (DA.cons dI (DA.one dI))) un_ledger_within (DA.one dB):=fun _=>by kernel_rfl
theorem ok_ledger_within:DOK PR 122 .pure df_ledger_within:=dok run_ledger_within (envOK_of base (aC (st122.okl rfl aN) aN) aN) (.inr rfl) st122.enters
def rangesOwn (l1:List Range):Option ((List Range)) :=
 cond (decide (0≤(l1.length:Int)))
 (cond (fits (((l1.length:Int)).toNat))
 (some ((l1.take (Nat.min l1.length ((List.replicate (((l1.length:Int)).toNat) (Range.mk 0 0)).length)))++(((List.replicate (((l1.length:Int)).toNat) (Range.mk 0 0)).take ((List.replicate (((l1.length:Int)).toNat) (Range.mk 0 0)).length)).drop (Nat.min l1.length ((List.replicate (((l1.length:Int)).toNat) (Range.mk 0 0)).length)))))
 none)
 none
def ch_rangesOwn:kT ((List Range)):=kO (kS 0 (kC (kF j_lRange) kN) kN) (fun p=>p.1.1) (fun (x:(List Range))=>((x,()),())) (fun _=>rfl)
def co_rangesOwn:kT ((List Range)):=kO (kS 1 (kC (Cod.xs (Cod.sc (kA 0))) kN) (kC (kR 0 153 j_lRange) kN)) (fun p=>p.2.1) (fun (x:(List Range))=>(((),()),(x,()))) (fun _=>rfl)
def un_rangesOwn (p:(List Range)):Option ((List Range)):=rangesOwn p
def sf_rangesOwn:SFn TL:=SFn.one ch_rangesOwn.dec un_rangesOwn .normal co_rangesOwn.enc
def env_rangesOwn:Env:=envOf tab sl sh [(150,fd150)] []
theorem env_rangesOwn_ok:EnvOK PR (mkD cZ sZ) env_rangesOwn:=envOK_of base (aC (st150.okl rfl aN) aN) aN
theorem run_rangesOwn (x:(List Range)):Out.run (mkO cZ sZ) (evSum env_rangesOwn 12 20 150 (ch_rangesOwn.enc x)) (back1 co_rangesOwn)=un_rangesOwn x:=by kernel_rfl
theorem ok_rangesOwn:SOK PR 150 sf_rangesOwn:=sum_one env_rangesOwn_ok (loops:=12) (n:=20) st150.enters ch_rangesOwn co_rangesOwn un_rangesOwn run_rangesOwn
abbrev tY1:=(List Range)×(List Range)×Int×Range
def step_L123_5 (l1:List Range)(l2:List Range)(i1:Int)(rx1:Range):Option ((tY1)⊕(tY1)) :=
 cond (decide (i1 < (l1.length:Int)))
 (cond (decide (0≤i1))
 (ob (l1[i1.toNat]?) fun e0 =>
 cond (decide (e0.to_ < rx1.from_))
 (cond (decide (0≤i1))
 (ob (l1[i1.toNat]?) fun e1 =>
 cond (fits ((l2++[e1]).length))
 (some (.inl (l1,(l2++[e1]),(w64 (i1+1)),rx1)))
 none)
 none)
 (some (.inr (l1,l2,i1,rx1))))
 none)
 (some (.inr (l1,l2,i1,rx1)))
def stp_L123_5 (p:tY1):Option ((tY1)⊕(tY1)):=step_L123_5 p.1 p.2.1 p.2.2.1 p.2.2.2
def L123_5 (l1:List Range)(l2:List Range)(i1:Int)(rx1:Range):Option tY1:=iterO stp_L123_5 (((l1.length:Int) - i1).toNat+2) (l1,l2,i1,rx1)
def ch_L123_5:kT (tY1):=kO (kS 2 (kC (kF j_lRange) (kC (kP 0 0) (kC (Cod.xs (Cod.sc (kA 1))) (kC kI kN)))) (kC (Cod.var 0 153 (kC kJ (kC kJ kN))) (kC (kR 1 153 j_lRange) kN))) (fun p=>(p.1.1,p.2.2.1,p.1.2.2.2.1,(Range.mk p.2.1.1 p.2.1.2.1))) (fun (x:tY1)=>((x.1,((),((),(x.2.2.1,())))),((x.2.2.2.from_,(x.2.2.2.to_,())),(x.2.1,())))) (fun _=>rfl)
def co0_L123_5:kT (tY1):=kO (kS 4 (kC (kF j_lRange) (kC (kP 0 0) (kC (Cod.xs (Cod.sc (kA 3))) (kC kI kN)))) (kC (Cod.var 0 153 (kC kJ (kC kJ kN))) (kC (kR 3 153 j_lRange) kN))) (fun p=>(p.1.1,p.2.2.1,p.1.2.2.2.1,(Range.mk p.2.1.1 p.2.1.2.1))) (fun (x:tY1)=>((x.1,((),((),(x.2.2.1,())))),((x.2.2.2.from_,(x.2.2.2.to_,())),(x.2.1,())))) (fun _=>rfl)
def sl_L123_5:SFn TL:=SFn.one ch_L123_5.dec (fun p=>L123_5 p.1 p.2.1 p.2.2.1 p.2.2.2) (.exit 0) co0_L123_5.enc
def v_L123_5:Env:=envOf tab sl sh [] []
theorem v_L123_5_ok:EnvOK PR (mkD cZ sZ) v_L123_5:=envOK_of base aN aN
theorem run_L123_5 (x:tY1):Out.run (mkO cZ sZ) (evRound v_L123_5 12 20 fd123.an q_L123_5 (loopIn (loopsOf fd123.body) 5) (ch_L123_5.enc x)) (back ch_L123_5 co0_L123_5 fun e=>exE e (.exit 0))=stp_L123_5 x:=by kernel_rfl
theorem ok_L123_5:LoopOK PR (oneS sl_L123_5) nt123 q_L123_5 (loopIn (loopsOf fd123.body) 5) :=
  loop_one v_L123_5_ok (loops:=12) (k:=20) (an:=fd123.an) (by kernel_rfl) (FnSt.subl rfl st123.keys (aC (.inl (by kernel_rfl)) (aC (.inl (by kernel_rfl)) aN))) ch_L123_5 co0_L123_5 (.exit 0) rfl stp_L123_5 _ run_L123_5 (fun x y h=>⟨_,h⟩) (fun _=>below_iff.1 rfl)
def step_L123_8 (l1:List Range)(l2:List Range)(i1:Int)(rx1:Range):Option ((tY1)⊕(tY1)) :=
 cond (decide (i1 < (l1.length:Int)))
 (cond (decide (0≤i1))
 (ob (l1[i1.toNat]?) fun e0 =>
 cond (decide (e0.from_≤rx1.to_))
 (cond (decide (0≤i1))
 (ob (l1[i1.toNat]?) fun e1 =>
 cond (decide (0≤i1))
 (ob (l1[i1.toNat]?) fun e2 =>
 some (.inl (l1,l2,(w64 (i1+1)),(Range.mk (min2 rx1.from_ e1.from_) (max2 rx1.to_ e2.to_)))))
 none)
 none)
 (some (.inr (l1,l2,i1,rx1))))
 none)
 (some (.inr (l1,l2,i1,rx1)))
def stp_L123_8 (p:tY1):Option ((tY1)⊕(tY1)):=step_L123_8 p.1 p.2.1 p.2.2.1 p.2.2.2
def L123_8 (l1:List Range)(l2:List Range)(i1:Int)(rx1:Range):Option tY1:=iterO stp_L123_8 (((l1.length:Int) - i1).toNat+2) (l1,l2,i1,rx1)
def co0_L123_8:kT (tY1):=kO (kS 4 (kC (kF j_lRange) (kC (kP 0 0) (kC (Cod.xs (Cod.sc (kA 1))) (kC kI kN)))) (kC (Cod.var 0 153 (kC kJ (kC kJ kN))) (kC (kR 1 153 j_lRange) kN))) (fun p=>(p.1.1,p.2.2.1,p.1.2.2.2.1,(Range.mk p.2.1.1 p.2.1.2.1))) (fun (x:tY1)=>((x.1,((),((),(x.2.2.1,())))),((x.2.2.2.from_,(x.2.2.2.to_,())),(x.2.1,())))) (fun _=>rfl)
def sl_L123_8:SFn TL:=SFn.one ch_L123_5.dec (fun p=>L123_8 p.1 p.2.1 p.2.2.1 p.2.2.2) (.exit 2) co0_L123_8.enc
def v_L123_8:Env:=envOf tab sl sh [] []
theorem v_L123_8_ok:EnvOK PR (mkD cZ sZ) v_L123_8:=envOK_of base aN aN
theorem run_L123_8 (x:tY1):Out.run (mkO cZ sZ) (evRound v_L123_8 12 20 fd123.an q_L123_8 (loopIn (loopsOf fd123.body) 8) (ch_L123_5.enc x)) (back ch_L123_5 co0_L123_8 fun e=>exE e (.exit 2))=stp_L123_8 x:=by kernel_rfl
theorem ok_L123_8:LoopOK PR (oneS sl_L123_8) nt123 q_L123_8 (loopIn (loopsOf fd123.body) 8) :=
  loop_one v_L123_8_ok (loops:=12) (k:=20) (an:=fd123.an) (by kernel_rfl) (FnSt.subl rfl st123.keys (aC (.inl (by kernel_rfl)) (aC (.inl (by kernel_rfl)) aN))) ch_L123_5 co0_L123_8 (.exit 2) rfl stp_L123_8 _ run_L123_8 (fun x y h=>⟨_,h⟩) (fun _=>below_iff.1 rfl)
def rangesAdd (l1:List Range)(rx1:Range):Option ((List Range)) :=
 cond (cond (decide (rx1.from_≥rx1.to_)) true (cond (decide (rx1.from_ < 0)) true (decide (rx1.to_ > 1073741824))))
 (ob (rangesOwn l1) fun y0 =>
 some y0)
 (ob (L123_5 l1 [] 0 rx1) fun y1 =>
 ob (L123_8 y1.1 y1.2.1 y1.2.2.1 y1.2.2.2) fun y2 =>
 cond (decide (0≤(y2.2.1.length:Int)))
 (cond (decide ((y2.2.1.length:Int)=(y2.2.1.length:Int)))
 (cond (decide ((y2.2.1.length:Int)≤(y2.2.1.length:Int)))
 (cond (fits (((y2.2.1.take (((y2.2.1.length:Int)).toNat))++[y2.2.2.2]).length))
 (cond (decide (0≤y2.2.2.1))
 (cond (decide (y2.2.2.1≤(y2.1.length:Int)))
 (cond (decide ((y2.1.length:Int)≤(y2.1.length:Int)))
 (cond (fits ((((y2.2.1.take (((y2.2.1.length:Int)).toNat))++[y2.2.2.2])++((y2.1.take (((y2.1.length:Int)).toNat)).drop y2.2.2.1.toNat)).length))
 (ob (rangesOwn (((y2.2.1.take (((y2.2.1.length:Int)).toNat))++[y2.2.2.2])++((y2.1.take (((y2.1.length:Int)).toNat)).drop y2.2.2.1.toNat))) fun y3 =>
 some y3)
 none)
 none)
 none)
 none)
 none)
 none)
 none)
 none)
def un_rangesAdd (p:(List Range)×Range):Option ((List Range)):=rangesAdd p.1 p.2
def df_rangesAdd:DFn TL:=DFn.of (DA.cons (DT.one di_lRange) (DA.one (DT.agg dc_Range))) un_rangesAdd (DA.one (DT.one di_lRange))
theorem run_rangesAdd:DRun [] [(150,sf_rangesOwn),(223005,sl_L123_5),(223008,sl_L123_8)] (envOf tab sl sh [(123,fd123)] [(150,.sum)]) 123 (DA.cons (DT.one di_lRange) (DA.one (DT.agg dc_Range))) un_rangesAdd (DA.one (DT.one di_lRange)):=fun _=>by kernel_rfl
theorem ok_rangesAdd:DOK PR 123 .keep df_rangesAdd:=dok run_rangesAdd (envOK_of base (aC (st123.okl rfl (aC (lC ok_L123_5 rfl) (aC (lC ok_L123_8 rfl) aN))) aN) (aC (okS rfl ok_rangesOwn) aN)) (.inl rfl) st123.enters
def ledgerLease (lx1:Lease):Option Lease :=
 cond (fits lx1.slices.length)
 (cond (fits lx1.ids.length)
 (cond (fits lx1.used.length)
 (some lx1)
 none)
 none)
 none
def un_ledgerLease (p:Lease):Option Lease:=ledgerLease p
def sf_ledgerLease:SFn TL:=SFn.one ch_deskLease.dec un_ledgerLease .normal co_deskLease.enc
def env_ledgerLease:Env:=envOf tab sl sh [(151,fd151)] [(91,(.cln 133)),(92,(.cln 153)),(93,(.cln 3))]
theorem env_ledgerLease_ok:EnvOK PR (mkD cZ sZ) env_ledgerLease:=envOK_of base (aC (st151.okl rfl aN) aN) (aC (okCln okI_91) (aC (okCln okI_92) (aC (okCln okI_93) aN)))
theorem run_ledgerLease (x:Lease):Out.run (mkO cZ sZ) (evSum env_ledgerLease 12 20 151 (ch_deskLease.enc x)) (back1 co_deskLease)=un_ledgerLease x:=by kernel_rfl
theorem ok_ledgerLease:SOK PR 151 sf_ledgerLease:=sum_one env_ledgerLease_ok (loops:=12) (n:=20) st151.enters ch_deskLease co_deskLease un_ledgerLease run_ledgerLease
def step_L124_3 (i1:Int)(i2:Int)(bx1:Book)(bx2:Book):Option ((Int×Int×Book×Book)⊕(Book×Book)) :=
 cond (decide (i2 < i1))
 (cond (decide (0≤i2))
 (cond (decide (i2 < (bx1.leases.length:Int)))
 (ob (bx1.leases[i2.toNat]?) fun e0 =>
 ob (ledgerLease e0) fun y1 =>
 cond (decide (0≤i2))
 (cond (decide (i2 < (bx1.leases.length:Int)))
 (ob (bx1.leases[i2.toNat]?) fun _ =>
 some (.inl (i1,(w64 (i2+1)),(Book.mk bx1.counters bx1.free (bx1.leases.set i2.toNat y1) bx1.bound),bx2)))
 none)
 none)
 none)
 none)
 (some (.inr (bx1,bx2)))
def stp_L124_3 (p:Int×Int×Book×Book):Option ((Int×Int×Book×Book)⊕(Book×Book)):=step_L124_3 p.1 p.2.1 p.2.2.1 p.2.2.2
def L124_3 (i1:Int)(i2:Int)(bx1:Book)(bx2:Book):Option (Book×Book):=iterO stp_L124_3 ((i1 - i2).toNat+2) (i1,i2,bx1,bx2)
def sl_L124_3:SFn TL:=SFn.one ch_L77_3.dec (fun p=>L124_3 p.1 p.2.1 p.2.2.1 p.2.2.2) (.exit 0) co0_L77_3.enc
def ss_lL124_3:sL:=[(151,sf_ledgerLease)]
def v_L124_3:Env:=envOf tab sl sh [] [(151,.sum)]
theorem v_L124_3_ok:EnvOK PR (mkD cZ ss_lL124_3) v_L124_3:=envOK_of base aN (aC (okS rfl ok_ledgerLease) aN)
theorem run_L124_3 (x:Int×Int×Book×Book):Out.run (mkO cZ ss_lL124_3) (evRound v_L124_3 12 20 fd124.an q_L124_3 (loopIn (loopsOf fd124.body) 3) (ch_L77_3.enc x)) (back ch_L77_3 co0_L77_3 fun e=>exE e (.exit 0))=stp_L124_3 x:=by kernel_rfl
theorem ok_L124_3:LoopOK PR (oneS sl_L124_3) nt124 q_L124_3 (loopIn (loopsOf fd124.body) 3) :=
  loop_one v_L124_3_ok (loops:=12) (k:=20) (an:=fd124.an) (by kernel_rfl) (FnSt.subl rfl st124.keys (aC (.inl (by kernel_rfl)) aN)) ch_L77_3 co0_L77_3 (.exit 0) rfl stp_L124_3 _ run_L124_3 (fun x y h=>⟨_,h⟩) (fun _=>below_iff.1 rfl)
def ledgerOwn (bx1:Book):Option Book :=
 cond (fits bx1.counters.length)
 (cond (fits bx1.free.length)
 (cond (fits bx1.leases.length)
 (cond (fits bx1.bound.length)
 (ob (L124_3 (bx1.leases.length:Int) 0 bx1 (Book.mk [] [] [] [])) fun y0 =>
 some y0.1)
 none)
 none)
 none)
 none
def un_ledgerOwn (p:Book):Option Book:=ledgerOwn p
def sf_ledgerOwn:SFn TL:=SFn.one ch_deskBook.dec un_ledgerOwn .normal co_deskBook.enc
def ss_ledgerOwn:sL:=[(224003,sl_L124_3)]
def env_ledgerOwn:Env:=envOf tab sl sh [(124,fd124)] [(126,(.cln 65)),(92,(.cln 153)),(127,(.cln 43)),(93,(.cln 3))]
theorem env_ledgerOwn_ok:EnvOK PR (mkD cZ ss_ledgerOwn) env_ledgerOwn:=envOK_of base (aC (st124.okl rfl (aC (lC ok_L124_3 rfl) aN)) aN) (aC (okCln okI_126) (aC (okCln okI_92) (aC (okCln okI_127) (aC (okCln okI_93) aN))))
theorem run_ledgerOwn (x:Book):Out.run (mkO cZ ss_ledgerOwn) (evSum env_ledgerOwn 12 20 124 (ch_deskBook.enc x)) (back1 co_deskBook)=un_ledgerOwn x:=by kernel_rfl
theorem ok_ledgerOwn:SOK PR 124 sf_ledgerOwn:=sum_one env_ledgerOwn_ok (loops:=12) (n:=20) st124.enters ch_deskBook co_deskBook un_ledgerOwn run_ledgerOwn
abbrev tY2:=ByteArray×Bool×Int×Int
def step_L147_2 (s1:ByteArray)(b1:Bool)(i1:Int)(i2:Int):Option ((tY2)⊕(((ByteArray×Bool)⊕(ByteArray×Bool)))) :=
 cond (decide (i2 < i1))
 (cond (decide (0≤i2))
 (cond (decide (i2 < (s1.size:Int)))
 (cond (decide (((s1[(i2:Int).toNat]?.getD 0).toNat:Int) < 32))
 (some (.inr (.inr (s1,false))))
 (cond (decide (0≤i2))
 (cond (decide (i2 < (s1.size:Int)))
 (cond (((s1[(i2:Int).toNat]?.getD 0).toNat:Int) == 127)
 (some (.inr (.inr (s1,false))))
 (some (.inl (s1,b1,i1,(w64 (i2+1))))))
 none)
 none))
 none)
 none)
 (some (.inr (.inl (s1,b1))))
def stp_L147_2 (p:tY2):Option ((tY2)⊕(((ByteArray×Bool)⊕(ByteArray×Bool)))):=step_L147_2 p.1 p.2.1 p.2.2.1 p.2.2.2
def L147_2 (s1:ByteArray)(b1:Bool)(i1:Int)(i2:Int):Option (((ByteArray×Bool)⊕(ByteArray×Bool))):=iterO stp_L147_2 ((i1 - i2).toNat+2) (s1,b1,i1,i2)
def ch_L147_2:kT (tY2):=kO (kS 0 (kC (Cod.xs (Cod.sc kE)) (kC kB (kC kI (kC kI kN)))) kN) (fun ((z0,z1,z2,z3,_),_)=>(z0,z1,z2,z3)) (fun (x:tY2)=>((x.1,(x.2.1,(x.2.2.1,(x.2.2.2,())))),())) (fun _=>rfl)
def co0_L147_2:kT (ByteArray×Bool):=kO (kS 0 (kC (Cod.xs (Cod.sc kE)) (kC kB kN)) kN) (fun p=>(p.1.1,p.1.2.1)) (fun (x:ByteArray×Bool)=>((x.1,(x.2,())),())) (fun _=>rfl)
def sl_L147_2:SFn TL:=SFn.two ch_L147_2.dec (fun p=>L147_2 p.1 p.2.1 p.2.2.1 p.2.2.2) (.exit 0) .ret co0_L147_2.enc co0_L147_2.enc
def v_L147_2:Env:=envOf tab sl sh [] []
theorem v_L147_2_ok:EnvOK PR (mkD cZ sZ) v_L147_2:=envOK_of base aN aN
theorem run_L147_2 (x:tY2):Out.run (mkO cZ sZ) (evRound v_L147_2 12 20 fd147.an q_L147_2 (loopIn (loopsOf fd147.body) 2) (ch_L147_2.enc x)) (back2 ch_L147_2 co0_L147_2 co0_L147_2 (.exit 0) .ret)=stp_L147_2 x:=by kernel_rfl
theorem ok_L147_2:LoopOK PR (oneS sl_L147_2) nt147 q_L147_2 (loopIn (loopsOf fd147.body) 2) :=
  loop_two v_L147_2_ok (loops:=12) (k:=20) (an:=fd147.an) (by kernel_rfl) (FnSt.subl rfl st147.keys (aC (.inl (by kernel_rfl)) aN)) ch_L147_2 co0_L147_2 co0_L147_2 (.exit 0) .ret rfl rfl stp_L147_2 _ run_L147_2 (fun x y h=>⟨_,h⟩) (fun _=>below_iff.1 rfl)
def ledger_text (s1:ByteArray):Option Bool :=
 ob (L147_2 s1 false (s1.size:Int) 0) fun y0 =>
 two y0 (fun a1 =>
 some (decide ((a1.1.size:Int)≤40))) (fun b2 =>
 some b2.2)
def un_ledger_text (p:ByteArray):Option Bool:=ledger_text p
def df_ledger_text:DFn TL:=DFn.of (DA.one (DT.one DI.str)) un_ledger_text (DA.one dB)
theorem run_ledger_text:DRun [] [(247002,sl_L147_2)] (envOf tab sl sh [(147,fd147)] []) 147 (DA.one (DT.one DI.str)) un_ledger_text (DA.one dB):=fun _=>by kernel_rfl
theorem ok_ledger_text:DOK PR 147 .pure df_ledger_text:=dok run_ledger_text (envOK_of base (aC (st147.okl rfl (aC (lC ok_L147_2 rfl) aN)) aN) aN) (.inr rfl) st147.enters
def ledger_may (c1:Counter):Option Bool :=
 cond (!sEq c1.key s_empty)
 (ob (ledger_text c1.key) fun r0 =>
 cond (r0)
 (ob (ledger_within c1.coll 0 2) fun r1 =>
 some (cond r1 (cond (decide (c1.lo≥(-1099511627776))) (cond (decide (c1.lo≤c1.start)) (cond (decide (c1.start≤c1.hi)) (decide (c1.hi≤1099511627776)) false) false) false) false))
 (some false))
 (some false)
def un_ledger_may (p:Counter):Option Bool:=ledger_may p
def df_ledger_may:DFn TL:=DFn.of (DA.one (DT.agg dc_Counter)) un_ledger_may (DA.one dB)
theorem run_ledger_may:DRun [(147,df_ledger_text),(122,df_ledger_within)] [] (envOf tab sl sh [(120,fd120)] [(147,.pure),(122,.pure)]) 120 (DA.one (DT.agg dc_Counter)) un_ledger_may (DA.one dB):=fun _=>by kernel_rfl
theorem ok_ledger_may:DOK PR 120 .pure df_ledger_may:=dok run_ledger_may (envOK_of base (aC (st120.okl rfl aN) aN) (aC (oD ok_ledger_text rfl) (aC (oD ok_ledger_within rfl) aN))) (.inr rfl) st120.enters
abbrev tY3:=(List Counter)×Int×Int×Int×ByteArray
def step_L148_2 (l1:List Counter)(i1:Int)(i2:Int)(i3:Int)(s1:ByteArray):Option ((tY3)⊕(((Int×ByteArray)⊕(Int×ByteArray)))) :=
 cond (decide (i3 < i2))
 (cond (decide (0≤i3))
 (ob (l1[i3.toNat]?) fun e0 =>
 cond (sEq e0.key s1)
 (some (.inr (.inr (i3,s1))))
 (some (.inl (l1,i1,i2,(w64 (i3+1)),s1))))
 none)
 (some (.inr (.inl (i1,s1))))
def stp_L148_2 (p:tY3):Option ((tY3)⊕(((Int×ByteArray)⊕(Int×ByteArray)))):=step_L148_2 p.1 p.2.1 p.2.2.1 p.2.2.2.1 p.2.2.2.2
def L148_2 (l1:List Counter)(i1:Int)(i2:Int)(i3:Int)(s1:ByteArray):Option (((Int×ByteArray)⊕(Int×ByteArray))):=iterO stp_L148_2 ((i2 - i3).toNat+2) (l1,i1,i2,i3,s1)
def ch_L148_2:kT (tY3):=kO (kS 1 (kC (kF j_lCounter) (kC (Cod.xs (Cod.sc (Cod.clo 149 [] [(0,0)]))) (kC kI (kC kI (kC kI kN))))) (kC (Cod.var 0 9 (kC kE kN)) kN)) (fun p=>(p.1.1,p.1.2.2.1,p.1.2.2.2.1,p.1.2.2.2.2.1,p.2.1.1)) (fun (x:tY3)=>((x.1,((),(x.2.1,(x.2.2.1,(x.2.2.2.1,()))))),((x.2.2.2.2,()),()))) (fun _=>rfl)
def co0_L148_2:kT (Int×ByteArray):=kO (kS 2 (kC kI kN) (kC (Cod.var 0 9 (kC kE kN)) kN)) (fun p=>(p.1.1,p.2.1.1)) (fun (x:Int×ByteArray)=>((x.1,()),((x.2,()),()))) (fun _=>rfl)
def sl_L148_2:SFn TL:=SFn.two ch_L148_2.dec (fun p=>L148_2 p.1 p.2.1 p.2.2.1 p.2.2.2.1 p.2.2.2.2) (.exit 0) .ret co0_L148_2.enc co0_L148_2.enc
def v_L148_2:Env:=envOf tab sl sh [(149,fd149)] []
theorem v_L148_2_ok:EnvOK PR (mkD cZ sZ) v_L148_2:=envOK_of base (aC (st149.okl rfl aN) aN) aN
theorem run_L148_2 (x:tY3):Out.run (mkO cZ sZ) (evRound v_L148_2 12 20 fd148.an q_L148_2 (loopIn (loopsOf fd148.body) 2) (ch_L148_2.enc x)) (back2 ch_L148_2 co0_L148_2 co0_L148_2 (.exit 0) .ret)=stp_L148_2 x:=by kernel_rfl
theorem ok_L148_2:LoopOK PR (oneS sl_L148_2) nt148 q_L148_2 (loopIn (loopsOf fd148.body) 2) :=
  loop_two v_L148_2_ok (loops:=12) (k:=20) (an:=fd148.an) (by kernel_rfl) (FnSt.subl rfl st148.keys (aC (.inl (by kernel_rfl)) aN)) ch_L148_2 co0_L148_2 co0_L148_2 (.exit 0) .ret rfl rfl stp_L148_2 _ run_L148_2 (fun x y h=>⟨_,h⟩) (fun _=>below_iff.1 rfl)
def ledger_counter (bx1:Book)(s1:ByteArray):Option Int :=
 ob (L148_2 bx1.counters 0 (bx1.counters.length:Int) 0 s1) fun y0 =>
 two y0 (fun _ =>
 some (-1)) (fun b2 =>
 some b2.1)
def un_ledger_counter (p:Book×ByteArray):Option Int:=ledger_counter p.1 p.2
def df_ledger_counter:DFn TL:=DFn.of (DA.cons (DT.agg dc_Book) (DA.one (DT.one DI.str))) un_ledger_counter (DA.one dI)
theorem run_ledger_counter:DRun [] [(248002,sl_L148_2)] (envOf tab sl sh [(121,fd121),(148,fd148)] []) 121 (DA.cons (DT.agg dc_Book) (DA.one (DT.one DI.str))) un_ledger_counter (DA.one dI):=fun _=>by kernel_rfl
theorem ok_ledger_counter:DOK PR 121 .pure df_ledger_counter:=dok run_ledger_counter (envOK_of base (aC (st121.okl rfl aN) (aC (st148.okl rfl (aC (lC ok_L148_2 rfl) aN)) aN)) aN) (.inr rfl) st121.enters
abbrev tY4:=Int×Int×(List Counter)×Int×Int×Book×Book
def step_L75_5 (i1:Int)(i2:Int)(l1:List Counter)(i3:Int)(i4:Int)(bx1:Book)(bx2:Book):Option ((tY4)⊕(((Int×Int×Book×Book)⊕(Int×Int×Book×Book×(List Counter)×(List Range)×(List Lease)×(List Int))))) :=
 cond (decide (i4 < i3))
 (cond (decide (0≤i4))
 (ob (l1[i4.toNat]?) fun e0 =>
 ob (ledger_may e0) fun r1 =>
 cond (!r1)
 (some (.inr (.inr (i1,1,(Book.mk [] [] [] []),bx2,bx1.counters,bx1.free,bx1.leases,bx1.bound))))
 (ob (ledger_counter bx2 e0.key) fun r2 =>
 cond (decide (r2≥0))
 (some (.inr (.inr (i1,7,(Book.mk [] [] [] []),bx2,bx1.counters,bx1.free,bx1.leases,bx1.bound))))
 (cond (fits ((bx2.counters++[(Counter.mk e0.key e0.coll e0.lo e0.hi e0.start (w64 (e0.hi - e0.start)) (w64 (e0.start - e0.lo)))]).length))
 (some (.inl (i1,i2,l1,i3,(w64 (i4+1)),bx1,(Book.mk (bx2.counters++[(Counter.mk e0.key e0.coll e0.lo e0.hi e0.start (w64 (e0.hi - e0.start)) (w64 (e0.start - e0.lo)))]) bx2.free bx2.leases bx2.bound))))
 none)))
 none)
 (some (.inr (.inl (i1,i2,bx1,bx2))))
def stp_L75_5 (p:tY4):Option ((tY4)⊕(((Int×Int×Book×Book)⊕(Int×Int×Book×Book×(List Counter)×(List Range)×(List Lease)×(List Int))))):=step_L75_5 p.1 p.2.1 p.2.2.1 p.2.2.2.1 p.2.2.2.2.1 p.2.2.2.2.2.1 p.2.2.2.2.2.2
def L75_5 (i1:Int)(i2:Int)(l1:List Counter)(i3:Int)(i4:Int)(bx1:Book)(bx2:Book):Option (((Int×Int×Book×Book)⊕(Int×Int×Book×Book×(List Counter)×(List Range)×(List Lease)×(List Int)))):=iterO stp_L75_5 ((i3 - i4).toNat+2) (i1,i2,l1,i3,i4,bx1,bx2)
def ch_L75_5:kT (tY4):=kO (kS 10 (kC kI (kC (kP 0 0) (kC kI (kC (kP 1 0) (kC (kF j_lCounter) (kC kI (kC kI kN))))))) (kC (Cod.var 0 29 (kC (kA 2) (kC (kA 3) (kC (kA 4) (kC (kA 5) kN))))) (kC (Cod.var 1 29 (kC (kA 6) (kC (kA 7) (kC (kA 8) (kC (kA 9) kN))))) (kC (kR 2 65 j_lCounter) (kC (kR 3 153 j_lRange) (kC (kR 4 43 j_lLease) (kC (kR 5 3 j_lInt) (kC (kR 6 65 j_lCounter) (kC (kR 7 153 j_lRange) (kC (kR 8 43 j_lLease) (kC (kR 9 3 j_lInt) kN))))))))))) (fun p=>(p.1.1,p.1.2.2.1,p.1.2.2.2.2.1,p.1.2.2.2.2.2.1,p.1.2.2.2.2.2.2.1,(Book.mk p.2.2.2.1 p.2.2.2.2.1 p.2.2.2.2.2.1 p.2.2.2.2.2.2.1),(Book.mk p.2.2.2.2.2.2.2.1 p.2.2.2.2.2.2.2.2.1 (t8 p.2).1 (t8 p.2).2.1))) (fun (x:tY4)=>((x.1,((),(x.2.1,((),(x.2.2.1,(x.2.2.2.1,(x.2.2.2.2.1,()))))))),(((),((),((),((),())))),(((),((),((),((),())))),(x.2.2.2.2.2.1.counters,(x.2.2.2.2.2.1.free,(x.2.2.2.2.2.1.leases,(x.2.2.2.2.2.1.bound,(x.2.2.2.2.2.2.counters,(x.2.2.2.2.2.2.free,(x.2.2.2.2.2.2.leases,(x.2.2.2.2.2.2.bound,())))))))))))) (fun _=>rfl)
def co0_L75_5:kT (Int×Int×Book×Book):=kO (kS 20 (kC kI (kC (kP 0 0) (kC kI (kC (kP 1 0) kN)))) (kC (Cod.var 0 29 (kC (kA 2) (kC (kA 3) (kC (kA 4) (kC (kA 5) kN))))) (kC (Cod.var 1 29 (kC (kA 19) (kC (kA 7) (kC (kA 8) (kC (kA 9) kN))))) (kC (kR 2 65 j_lCounter) (kC (kR 3 153 j_lRange) (kC (kR 4 43 j_lLease) (kC (kR 5 3 j_lInt) (kC (kR 7 153 j_lRange) (kC (kR 8 43 j_lLease) (kC (kR 9 3 j_lInt) (kC (kR 19 65 j_lCounter) kN))))))))))) (fun p=>(p.1.1,p.1.2.2.1,(Book.mk p.2.2.2.1 p.2.2.2.2.1 p.2.2.2.2.2.1 p.2.2.2.2.2.2.1),(Book.mk (t8 p.2).2.1 p.2.2.2.2.2.2.2.1 p.2.2.2.2.2.2.2.2.1 (t8 p.2).1))) (fun (x:Int×Int×Book×Book)=>((x.1,((),(x.2.1,((),())))),(((),((),((),((),())))),(((),((),((),((),())))),(x.2.2.1.counters,(x.2.2.1.free,(x.2.2.1.leases,(x.2.2.1.bound,(x.2.2.2.free,(x.2.2.2.leases,(x.2.2.2.bound,(x.2.2.2.counters,())))))))))))) (fun _=>rfl)
def co1_L75_5:kT (Int×Int×Book×Book×(List Counter)×(List Range)×(List Lease)×(List Int)):=kO (kS 24 (kC kI (kC (kP 0 0) (kC kI (kC (kP 1 0) kN)))) (kC (Cod.var 0 29 (kC (kA 19) (kC (kA 20) (kC (kA 21) (kC (kA 22) kN))))) (kC (Cod.var 1 29 (kC (kA 23) (kC (kA 7) (kC (kA 8) (kC (kA 9) kN))))) (kC (kR 2 65 j_lCounter) (kC (kR 3 153 j_lRange) (kC (kR 4 43 j_lLease) (kC (kR 5 3 j_lInt) (kC (kR 7 153 j_lRange) (kC (kR 8 43 j_lLease) (kC (kR 9 3 j_lInt) (kC (kR 19 65 j_lCounter) (kC (kR 20 153 j_lRange) (kC (kR 21 43 j_lLease) (kC (kR 22 3 j_lInt) (kC (kR 23 65 j_lCounter) kN))))))))))))))) (fun p=>(p.1.1,p.1.2.2.1,(Book.mk (t8 p.2).2.1 (t8 p.2).2.2.1 (t8 p.2).2.2.2.1 (t8 p.2).2.2.2.2.1),(Book.mk (t8 p.2).2.2.2.2.2.1 p.2.2.2.2.2.2.2.1 p.2.2.2.2.2.2.2.2.1 (t8 p.2).1),p.2.2.2.1,p.2.2.2.2.1,p.2.2.2.2.2.1,p.2.2.2.2.2.2.1)) (fun (x:Int×Int×Book×Book×(List Counter)×(List Range)×(List Lease)×(List Int))=>((x.1,((),(x.2.1,((),())))),(((),((),((),((),())))),(((),((),((),((),())))),(x.2.2.2.2.1,(x.2.2.2.2.2.1,(x.2.2.2.2.2.2.1,(x.2.2.2.2.2.2.2,(x.2.2.2.1.free,(x.2.2.2.1.leases,(x.2.2.2.1.bound,(x.2.2.1.counters,(x.2.2.1.free,(x.2.2.1.leases,(x.2.2.1.bound,(x.2.2.2.1.counters,())))))))))))))))) (fun _=>rfl)
def sl_L75_5:SFn TL:=SFn.two ch_L75_5.dec (fun p=>L75_5 p.1 p.2.1 p.2.2.1 p.2.2.2.1 p.2.2.2.2.1 p.2.2.2.2.2.1 p.2.2.2.2.2.2) (.exit 0) .ret co0_L75_5.enc co1_L75_5.enc
def cs_lL75_5:cL:=[(120,df_ledger_may),(121,df_ledger_counter)]
def v_L75_5:Env:=envOf tab sl sh [] [(120,.pure),(121,.pure)]
theorem v_L75_5_ok:EnvOK PR (mkD cs_lL75_5 sZ) v_L75_5:=envOK_of base aN (aC (oD ok_ledger_may rfl) (aC (oD ok_ledger_counter rfl) aN))
theorem run_L75_5 (x:tY4):Out.run (mkO cs_lL75_5 sZ) (evRound v_L75_5 12 20 fd75.an q_L75_5 (loopIn (loopsOf fd75.body) 5) (ch_L75_5.enc x)) (back2 ch_L75_5 co0_L75_5 co1_L75_5 (.exit 0) .ret)=stp_L75_5 x:=by kernel_rfl
theorem ok_L75_5:LoopOK PR (oneS sl_L75_5) nt75 q_L75_5 (loopIn (loopsOf fd75.body) 5) :=
  loop_two v_L75_5_ok (loops:=12) (k:=20) (an:=fd75.an) (by kernel_rfl) (FnSt.subl rfl st75.keys (aC (.inl (by kernel_rfl)) aN)) ch_L75_5 co0_L75_5 co1_L75_5 (.exit 0) .ret rfl rfl stp_L75_5 _ run_L75_5 (fun x y h=>⟨_,h⟩) (fun _=>below_iff.1 rfl)
def ledgerNew (l1:List Counter)(i1:Int):Option (Book×Int) :=
 cond (decide ((l1.length:Int) > 4))
 (some ((Book.mk [] [] [] []),4))
 (ob (L75_5 i1 0 l1 (l1.length:Int) 0 (Book.mk [] [] [] []) (Book.mk [] [] [] [])) fun y0 =>
 two y0 (fun a1 =>
 ob (ledger_within a1.1 0 1000) fun r3 =>
 cond (!r3)
 (some ((Book.mk [] [] [] []),1))
 (ob (rangesAdd [] (Range.mk 0 a1.1)) fun r4 =>
 ob (ledgerOwn (Book.mk a1.2.2.2.counters r4 a1.2.2.2.leases a1.2.2.2.bound)) fun y5 =>
 some (y5,0))) (fun b2 =>
 some (b2.2.2.1,b2.2.1)))
def un_ledgerNew (p:(List Counter)×Int):Option (Book×Int):=ledgerNew p.1 p.2
def df_ledgerNew:DFn TL:=DFn.of (DA.cons (DT.one di_lCounter) (DA.one dI)) un_ledgerNew (DA.cons (DT.agg dc_Book) (DA.one dI))
theorem run_ledgerNew:DRun [(122,df_ledger_within),(123,df_rangesAdd)] [(124,sf_ledgerOwn),(175005,sl_L75_5)] (envOf tab sl sh [(75,fd75)] [(122,.pure),(123,.keep),(124,.sum)]) 75 (DA.cons (DT.one di_lCounter) (DA.one dI)) un_ledgerNew (DA.cons (DT.agg dc_Book) (DA.one dI)):=fun _=>by kernel_rfl
theorem ok_ledgerNew:DOK PR 75 .keep df_ledgerNew:=dok run_ledgerNew (envOK_of base (aC (st75.okl rfl (aC (lC ok_L75_5 rfl) aN)) aN) (aC (oD ok_ledger_within rfl) (aC (oD ok_rangesAdd rfl) (aC (okS rfl ok_ledgerOwn) aN)))) (.inl rfl) st75.enters
def deskNew (l1:List Counter)(i1:Int):Option (Desk×Int) :=
 ob (ledgerNew l1 i1) fun r0 =>
 cond (r0.2 != 0)
 (some ((Desk.mk (Book.mk [] [] [] []) (A3Coll.mk (Coll.mk [] [] [] [] [] []) (Coll.mk [] [] [] [] [] []) (Coll.mk [] [] [] [] [] [])) [] (A6Device.mk (Device.mk 0 0 (Reply.mk 0 0 (Lease.mk 0 0 0 0 [] [] []))) (Device.mk 0 0 (Reply.mk 0 0 (Lease.mk 0 0 0 0 [] [] []))) (Device.mk 0 0 (Reply.mk 0 0 (Lease.mk 0 0 0 0 [] [] []))) (Device.mk 0 0 (Reply.mk 0 0 (Lease.mk 0 0 0 0 [] [] []))) (Device.mk 0 0 (Reply.mk 0 0 (Lease.mk 0 0 0 0 [] [] []))) (Device.mk 0 0 (Reply.mk 0 0 (Lease.mk 0 0 0 0 [] [] [])))) [] 0),r0.2))
 (some ((Desk.mk r0.1 (A3Coll.mk (Coll.mk [] [] [] [] [] []) (Coll.mk [] [] [] [] [] []) (Coll.mk [] [] [] [] [] [])) [] (A6Device.mk (Device.mk 0 0 (Reply.mk 0 0 (Lease.mk 0 0 0 0 [] [] []))) (Device.mk 0 0 (Reply.mk 0 0 (Lease.mk 0 0 0 0 [] [] []))) (Device.mk 0 0 (Reply.mk 0 0 (Lease.mk 0 0 0 0 [] [] []))) (Device.mk 0 0 (Reply.mk 0 0 (Lease.mk 0 0 0 0 [] [] []))) (Device.mk 0 0 (Reply.mk 0 0 (Lease.mk 0 0 0 0 [] [] []))) (Device.mk 0 0 (Reply.mk 0 0 (Lease.mk 0 0 0 0 [] [] [])))) [] 0),0))
def un_deskNew (p:(List Counter)×Int):Option (Desk×Int):=deskNew p.1 p.2
def df_deskNew:DFn TL:=DFn.of (DA.cons (DT.one di_lCounter) (DA.one dI)) un_deskNew (DA.cons (DT.agg dc_Desk) (DA.one dI))
theorem run_deskNew:DRun [(75,df_ledgerNew)] [] (envOf tab sl sh [(36,fd36)] [(75,.keep)]) 36 (DA.cons (DT.one di_lCounter) (DA.one dI)) un_deskNew (DA.cons (DT.agg dc_Desk) (DA.one dI)):=fun _=>by kernel_rfl
theorem ok_deskNew:DOK PR 36 .keep df_deskNew:=dok run_deskNew (envOK_of base (aC (st36.okl rfl aN) aN) (aC (oD ok_ledgerNew rfl) aN)) (.inl rfl) st36.enters
def known  : Option Bool :=
 ob (deskNew [] 5) fun r0 =>
 ob (deskDo r0.1 (Cmd.mk 1 2 0 1 0 [] [])) fun r1 =>
 some (cond (r0.2 == 0) (cond (r1.2.err == 0) (cond (r1.2.n == 1) (cond (r1.1.dev.a2.epoch == 1) (r1.1.dev.a2.req == 1) false) false) false) false)
def un_known (_:Unit):Option Bool:=known
def df_known:DFn TL:=DFn.of (DA.nil) un_known (DA.one dB)
theorem run_known:DRun [(36,df_deskNew),(18,df_deskDo)] [] (envOf tab sl sh [(15,fd15)] [(36,.keep),(18,.keep)]) 15 (DA.nil) un_known (DA.one dB):=fun _=>by kernel_rfl
theorem ok_known:DOK PR 15 .pure df_known:=dok run_known (envOK_of base (aC (st15.okl rfl aN) aN) (aC (oD ok_deskNew rfl) (aC (oD ok_deskDo rfl) aN))) (.inr rfl) st15.enters
def within (i1:Int)(i2:Int):Option Int :=
 cond (decide (i2=0))
 none
 (some (cond (decide ((i1.tmod i2) < 0)) (w64 ((i1.tmod i2)+i2)) (i1.tmod i2)))
def un_within (p:Int×Int):Option Int:=within p.1 p.2
def df_within:DFn TL:=DFn.of (DA.cons dI (DA.one dI)) un_within (DA.one dI)
theorem run_within:DRun [] [] (envOf tab sl sh [(16,fd16)] []) 16 (DA.cons dI (DA.one dI)) un_within (DA.one dI):=fun _=>by kernel_rfl
theorem ok_within:DOK PR 16 .pure df_within:=dok run_within (envOK_of base (aC (st16.okl rfl aN) aN) aN) (.inr rfl) st16.enters
def l9Few (o1:Op):Option Bool :=
 some (cond (decide ((o1.key.size:Int)≤60)) (cond (decide ((o1.text.size:Int)≤60)) (decide ((o1.dots.length:Int)≤12)) false) false)
def un_l9Few (p:Op):Option Bool:=l9Few p
def df_l9Few:DFn TL:=DFn.of (DA.one (DT.agg dc_Op)) un_l9Few (DA.one dB)
theorem run_l9Few:DRun [] [] (envOf tab sl sh [(49,fd49)] []) 49 (DA.one (DT.agg dc_Op)) un_l9Few (DA.one dB):=fun _=>by kernel_rfl
theorem ok_l9Few:DOK PR 49 .pure df_l9Few:=dok run_l9Few (envOK_of base (aC (st49.okl rfl aN) aN) aN) (.inr rfl) st49.enters
abbrev tY5:=(List Act)×Bool×Int×Int
def step_L22_7 (l1:List Act)(b1:Bool)(i1:Int)(i2:Int):Option ((tY5)⊕((((List Act)×Bool×Int)⊕((List Act)×Bool×Int)))) :=
 cond (decide (0≤i1))
 (ob (l1[i1.toNat]?) fun e0 =>
 cond (decide (i2 < (e0.ops.length:Int)))
 (cond (decide (0≤i1))
 (ob (l1[i1.toNat]?) fun e1 =>
 cond (decide (0≤i2))
 (ob (e1.ops[i2.toNat]?) fun e2 =>
 ob (l9Few e2) fun r3 =>
 cond (!r3)
 (some (.inr (.inr (l1,false,i1))))
 (some (.inl (l1,b1,i1,(w64 (i2+1))))))
 none)
 none)
 (some (.inr (.inl (l1,b1,i1)))))
 none
def stp_L22_7 (p:tY5):Option ((tY5)⊕((((List Act)×Bool×Int)⊕((List Act)×Bool×Int)))):=step_L22_7 p.1 p.2.1 p.2.2.1 p.2.2.2
def L22_7 (l1:List Act)(b1:Bool)(i1:Int)(i2:Int):Option ((((List Act)×Bool×Int)⊕((List Act)×Bool×Int))):=iterO stp_L22_7 (1099511627776) (l1,b1,i1,i2)
def ch_L22_7:kT (tY5):=kO (kS 0 (kC (kF j_lAct) (kC kB (kC kI (kC kI kN)))) kN) (fun ((z0,z1,z2,z3,_),_)=>(z0,z1,z2,z3)) (fun (x:tY5)=>((x.1,(x.2.1,(x.2.2.1,(x.2.2.2,())))),())) (fun _=>rfl)
def co0_L22_7:kT ((List Act)×Bool×Int):=kO (kS 0 (kC (kF j_lAct) (kC kB (kC kI kN))) kN) (fun p=>(p.1.1,p.1.2.1,p.1.2.2.1)) (fun (x:(List Act)×Bool×Int)=>((x.1,(x.2.1,(x.2.2,()))),())) (fun _=>rfl)
def sl_L22_7:SFn TL:=SFn.two ch_L22_7.dec (fun p=>L22_7 p.1 p.2.1 p.2.2.1 p.2.2.2) (.exit 2) .ret co0_L22_7.enc co0_L22_7.enc
def cs_lL22_7:cL:=[(49,df_l9Few)]
def v_L22_7:Env:=envOf tab sl sh [] [(49,.pure)]
theorem v_L22_7_ok:EnvOK PR (mkD cs_lL22_7 sZ) v_L22_7:=envOK_of base aN (aC (oD ok_l9Few rfl) aN)
theorem run_L22_7 (x:tY5):Out.run (mkO cs_lL22_7 sZ) (evRound v_L22_7 12 20 fd22.an q_L22_7 (loopIn (loopsOf fd22.body) 7) (ch_L22_7.enc x)) (back2 ch_L22_7 co0_L22_7 co0_L22_7 (.exit 2) .ret)=stp_L22_7 x:=by kernel_rfl
theorem ok_L22_7:LoopOK PR (oneS sl_L22_7) nt22 q_L22_7 (loopIn (loopsOf fd22.body) 7) :=
  loop_two v_L22_7_ok (loops:=12) (k:=20) (an:=fd22.an) (by kernel_rfl) (FnSt.subl rfl st22.keys (aC (.inl (by kernel_rfl)) (aC (.inl (by kernel_rfl)) (aC (.inl (by kernel_rfl)) aN)))) ch_L22_7 co0_L22_7 co0_L22_7 (.exit 2) .ret rfl rfl stp_L22_7 _ run_L22_7 (fun x y h=>⟨_,h⟩) (fun _=>below_iff.1 rfl)
def step_L22_12 (l1:List Act)(b1:Bool)(i1:Int)(i2:Int):Option ((tY5)⊕((((List Act)×Bool×Int)⊕((List Act)×Bool×Int)))) :=
 cond (decide (0≤i1))
 (ob (l1[i1.toNat]?) fun e0 =>
 cond (decide (i2 < (e0.wants.length:Int)))
 (cond (decide (0≤i1))
 (ob (l1[i1.toNat]?) fun e1 =>
 cond (decide (0≤i2))
 (ob (e1.wants[i2.toNat]?) fun e2 =>
 cond (decide ((e2.key.size:Int) > 60))
 (some (.inr (.inr (l1,false,i1))))
 (some (.inl (l1,b1,i1,(w64 (i2+1))))))
 none)
 none)
 (some (.inr (.inl (l1,b1,i1)))))
 none
def stp_L22_12 (p:tY5):Option ((tY5)⊕((((List Act)×Bool×Int)⊕((List Act)×Bool×Int)))):=step_L22_12 p.1 p.2.1 p.2.2.1 p.2.2.2
def L22_12 (l1:List Act)(b1:Bool)(i1:Int)(i2:Int):Option ((((List Act)×Bool×Int)⊕((List Act)×Bool×Int))):=iterO stp_L22_12 (1099511627776) (l1,b1,i1,i2)
def sl_L22_12:SFn TL:=SFn.two ch_L22_7.dec (fun p=>L22_12 p.1 p.2.1 p.2.2.1 p.2.2.2) (.exit 4) .ret co0_L22_7.enc co0_L22_7.enc
def v_L22_12:Env:=envOf tab sl sh [] []
theorem v_L22_12_ok:EnvOK PR (mkD cZ sZ) v_L22_12:=envOK_of base aN aN
theorem run_L22_12 (x:tY5):Out.run (mkO cZ sZ) (evRound v_L22_12 12 20 fd22.an q_L22_12 (loopIn (loopsOf fd22.body) 12) (ch_L22_7.enc x)) (back2 ch_L22_7 co0_L22_7 co0_L22_7 (.exit 4) .ret)=stp_L22_12 x:=by kernel_rfl
theorem ok_L22_12:LoopOK PR (oneS sl_L22_12) nt22 q_L22_12 (loopIn (loopsOf fd22.body) 12) :=
  loop_two v_L22_12_ok (loops:=12) (k:=20) (an:=fd22.an) (by kernel_rfl) (FnSt.subl rfl st22.keys (aC (.inl (by kernel_rfl)) (aC (.inl (by kernel_rfl)) (aC (.inl (by kernel_rfl)) aN)))) ch_L22_7 co0_L22_7 co0_L22_7 (.exit 4) .ret rfl rfl stp_L22_12 _ run_L22_12 (fun x y h=>⟨_,h⟩) (fun _=>below_iff.1 rfl)
def step_L22_2 (l1:List Act)(b1:Bool)(i1:Int):Option (((List Act)×Bool×Int)⊕((((List Act)×Bool)⊕((List Act)×Bool)))) :=
 cond (decide (i1 < (l1.length:Int)))
 (cond (decide (0≤i1))
 (ob (l1[i1.toNat]?) fun e0 =>
 cond (decide ((e0.wants.length:Int) > 8))
 (some (.inr (.inr (l1,false))))
 (cond (decide (0≤i1))
 (ob (l1[i1.toNat]?) fun e1 =>
 cond (decide ((e1.ops.length:Int) > 22))
 (some (.inr (.inr (l1,false))))
 (ob (L22_7 l1 b1 i1 0) fun y2 =>
 two y2 (fun a3 =>
 ob (L22_12 a3.1 a3.2.1 a3.2.2 0) fun y5 =>
 two y5 (fun a6 =>
 some (.inl (a6.1,a6.2.1,(w64 (a6.2.2+1))))) (fun b7 =>
 some (.inr (.inr (b7.1,b7.2.1))))) (fun b4 =>
 some (.inr (.inr (b4.1,b4.2.1))))))
 none))
 none)
 (some (.inr (.inl (l1,b1))))
def stp_L22_2 (p:(List Act)×Bool×Int):Option (((List Act)×Bool×Int)⊕((((List Act)×Bool)⊕((List Act)×Bool)))):=step_L22_2 p.1 p.2.1 p.2.2
def L22_2 (l1:List Act)(b1:Bool)(i1:Int):Option ((((List Act)×Bool)⊕((List Act)×Bool))):=iterO stp_L22_2 (((l1.length:Int) - i1).toNat+2) (l1,b1,i1)
def co0_L22_2:kT ((List Act)×Bool):=kO (kS 0 (kC (kF j_lAct) (kC kB kN)) kN) (fun p=>(p.1.1,p.1.2.1)) (fun (x:(List Act)×Bool)=>((x.1,(x.2,())),())) (fun _=>rfl)
def sl_L22_2:SFn TL:=SFn.two co0_L22_7.dec (fun p=>L22_2 p.1 p.2.1 p.2.2) (.exit 0) .ret co0_L22_2.enc co0_L22_2.enc
def ss_lL22_2:sL:=[(122007,sl_L22_7),(122012,sl_L22_12)]
def v_L22_2:Env:=envOf tab sl sh [] []
theorem v_L22_2_ok:EnvOK PR (mkD cZ ss_lL22_2) v_L22_2:=envOK_of base aN aN
theorem run_L22_2 (x:(List Act)×Bool×Int):Out.run (mkO cZ ss_lL22_2) (evRound v_L22_2 12 20 fd22.an q_L22_2 (loopIn (loopsOf fd22.body) 2) (co0_L22_7.enc x)) (back2 co0_L22_7 co0_L22_2 co0_L22_2 (.exit 0) .ret)=stp_L22_2 x:=by kernel_rfl
theorem ok_L22_2:LoopOK PR (oneS sl_L22_2) nt22 q_L22_2 (loopIn (loopsOf fd22.body) 2) :=
  loop_two v_L22_2_ok (loops:=12) (k:=20) (an:=fd22.an) (by kernel_rfl) (FnSt.subl rfl st22.keys (aC (.inl (by kernel_rfl)) (aC (.inr (lC ok_L22_7 rfl)) (aC (.inr (lC ok_L22_12 rfl)) aN)))) co0_L22_7 co0_L22_2 co0_L22_2 (.exit 0) .ret rfl rfl stp_L22_2 _ run_L22_2 (fun x y h=>⟨_,h⟩) (fun _=>below_iff.1 rfl)
def l13Few (l1:List Act):Option Bool :=
 ob (L22_2 l1 false 0) fun y0 =>
 two y0 (fun a1 =>
 some (decide ((a1.1.length:Int)≤60))) (fun b2 =>
 some b2.2)
def un_l13Few (p:(List Act)):Option Bool:=l13Few p
def df_l13Few:DFn TL:=DFn.of (DA.one (DT.one di_lAct)) un_l13Few (DA.one dB)
theorem run_l13Few:DRun [] [(122002,sl_L22_2),(122007,sl_L22_7),(122012,sl_L22_12)] (envOf tab sl sh [(22,fd22)] []) 22 (DA.one (DT.one di_lAct)) un_l13Few (DA.one dB):=fun _=>by kernel_rfl
theorem ok_l13Few:DOK PR 22 .pure df_l13Few:=dok run_l13Few (envOK_of base (aC (st22.okl rfl (aC (lC ok_L22_2 rfl) (aC (lC ok_L22_7 rfl) (aC (lC ok_L22_12 rfl) aN)))) aN) aN) (.inr rfl) st22.enters
abbrev tY6:=(List Range)×(List Range)×(List Range)×Int×Range
def step_L125_5 (l1:List Range)(l2:List Range)(l3:List Range)(i1:Int)(rx1:Range):Option ((tY6)⊕((List Range)×(List Range)×Range)) :=
 cond (decide (i1 < (l1.length:Int)))
 (cond (decide (0≤i1))
 (ob (l1[i1.toNat]?) fun e0 =>
 cond (decide (e0.to_ < rx1.from_))
 (cond (decide (0≤i1))
 (ob (l1[i1.toNat]?) fun e1 =>
 cond (fits ((l2++[e1]).length))
 (some (.inl (l1,(l2++[e1]),l3,(w64 (i1+1)),rx1)))
 none)
 none)
 (cond (decide (0≤i1))
 (ob (l1[i1.toNat]?) fun e2 =>
 cond (decide (e2.from_ > rx1.to_))
 (cond (decide (0≤i1))
 (ob (l1[i1.toNat]?) fun e3 =>
 cond (fits ((l3++[e3]).length))
 (some (.inl (l1,l2,(l3++[e3]),(w64 (i1+1)),rx1)))
 none)
 none)
 (cond (decide (0≤i1))
 (ob (l1[i1.toNat]?) fun e4 =>
 cond (decide (0≤i1))
 (ob (l1[i1.toNat]?) fun e5 =>
 some (.inl (l1,l2,l3,(w64 (i1+1)),(Range.mk (min2 rx1.from_ e4.from_) (max2 rx1.to_ e5.to_)))))
 none)
 none))
 none))
 none)
 (some (.inr (l2,l3,rx1)))
def stp_L125_5 (p:tY6):Option ((tY6)⊕((List Range)×(List Range)×Range)):=step_L125_5 p.1 p.2.1 p.2.2.1 p.2.2.2.1 p.2.2.2.2
def L125_5 (l1:List Range)(l2:List Range)(l3:List Range)(i1:Int)(rx1:Range):Option ((List Range)×(List Range)×Range):=iterO stp_L125_5 (((l1.length:Int) - i1).toNat+2) (l1,l2,l3,i1,rx1)
def ch_L125_5:kT (tY6):=kO (kS 3 (kC (kF j_lRange) (kC (kP 0 0) (kC (Cod.xs (Cod.sc (kA 1))) (kC (Cod.xs (Cod.sc (kA 2))) (kC kI kN))))) (kC (Cod.var 0 153 (kC kJ (kC kJ kN))) (kC (kR 1 153 j_lRange) (kC (kR 2 153 j_lRange) kN)))) (fun p=>(p.1.1,p.2.2.1,p.2.2.2.1,p.1.2.2.2.2.1,(Range.mk p.2.1.1 p.2.1.2.1))) (fun (x:tY6)=>((x.1,((),((),((),(x.2.2.2.1,()))))),((x.2.2.2.2.from_,(x.2.2.2.2.to_,())),(x.2.1,(x.2.2.1,()))))) (fun _=>rfl)
def co0_L125_5:kT ((List Range)×(List Range)×Range):=kO (kS 6 (kC (kP 0 0) (kC (Cod.xs (Cod.sc (kA 4))) (kC (Cod.xs (Cod.sc (kA 5))) kN))) (kC (Cod.var 0 153 (kC kJ (kC kJ kN))) (kC (kR 4 153 j_lRange) (kC (kR 5 153 j_lRange) kN)))) (fun p=>(p.2.2.1,p.2.2.2.1,(Range.mk p.2.1.1 p.2.1.2.1))) (fun (x:(List Range)×(List Range)×Range)=>(((),((),((),()))),((x.2.2.from_,(x.2.2.to_,())),(x.1,(x.2.1,()))))) (fun _=>rfl)
def sl_L125_5:SFn TL:=SFn.one ch_L125_5.dec (fun p=>L125_5 p.1 p.2.1 p.2.2.1 p.2.2.2.1 p.2.2.2.2) (.exit 0) co0_L125_5.enc
def v_L125_5:Env:=envOf tab sl sh [] []
theorem v_L125_5_ok:EnvOK PR (mkD cZ sZ) v_L125_5:=envOK_of base aN aN
theorem run_L125_5 (x:tY6):Out.run (mkO cZ sZ) (evRound v_L125_5 12 20 fd125.an q_L125_5 (loopIn (loopsOf fd125.body) 5) (ch_L125_5.enc x)) (back ch_L125_5 co0_L125_5 fun e=>exE e (.exit 0))=stp_L125_5 x:=by kernel_rfl
theorem ok_L125_5:LoopOK PR (oneS sl_L125_5) nt125 q_L125_5 (loopIn (loopsOf fd125.body) 5) :=
  loop_one v_L125_5_ok (loops:=12) (k:=20) (an:=fd125.an) (by kernel_rfl) (FnSt.subl rfl st125.keys (aC (.inl (by kernel_rfl)) aN)) ch_L125_5 co0_L125_5 (.exit 0) rfl stp_L125_5 _ run_L125_5 (fun x y h=>⟨_,h⟩) (fun _=>below_iff.1 rfl)
def ref11Add (l1:List Range)(rx1:Range):Option ((List Range)) :=
 cond (cond (decide (rx1.from_ < 0)) true (cond (decide (rx1.from_≥rx1.to_)) true (decide (rx1.to_ > 1073741824))))
 (cond (fits (([]++l1).length))
 (some ([]++l1))
 none)
 (ob (L125_5 l1 [] [] 0 rx1) fun y0 =>
 cond (fits ((y0.1++[y0.2.2]).length))
 (cond (fits (((y0.1++[y0.2.2])++y0.2.1).length))
 (some ((y0.1++[y0.2.2])++y0.2.1))
 none)
 none)
def un_ref11Add (p:(List Range)×Range):Option ((List Range)):=ref11Add p.1 p.2
def df_ref11Add:DFn TL:=DFn.of (DA.cons (DT.one di_lRange) (DA.one (DT.agg dc_Range))) un_ref11Add (DA.one (DT.one di_lRange))
theorem run_ref11Add:DRun [] [(225005,sl_L125_5)] (envOf tab sl sh [(125,fd125)] []) 125 (DA.cons (DT.one di_lRange) (DA.one (DT.agg dc_Range))) un_ref11Add (DA.one (DT.one di_lRange)):=fun _=>by kernel_rfl
theorem ok_ref11Add:DOK PR 125 .keep df_ref11Add:=dok run_ref11Add (envOK_of base (aC (st125.okl rfl (aC (lC ok_L125_5 rfl) aN)) aN) aN) (.inl rfl) st125.enters
def step_L73_4 (s1:ByteArray)(b1:Bool)(i1:Int):Option ((ByteArray×Bool×Int)⊕(((Bool)⊕(Bool)))) :=
 cond (decide (i1 < (s1.size:Int)))
 (cond (decide (0≤i1))
 (cond (decide (i1 < (s1.size:Int)))
 (cond (decide (((s1[(i1:Int).toNat]?.getD 0).toNat:Int) < 32))
 (some (.inr (.inr false)))
 (cond (decide (0≤i1))
 (cond (decide (i1 < (s1.size:Int)))
 (cond (((s1[(i1:Int).toNat]?.getD 0).toNat:Int) == 127)
 (some (.inr (.inr false)))
 (some (.inl (s1,b1,(w64 (i1+1))))))
 none)
 none))
 none)
 none)
 (some (.inr (.inl b1)))
def stp_L73_4 (p:ByteArray×Bool×Int):Option ((ByteArray×Bool×Int)⊕(((Bool)⊕(Bool)))):=step_L73_4 p.1 p.2.1 p.2.2
def L73_4 (s1:ByteArray)(b1:Bool)(i1:Int):Option (((Bool)⊕(Bool))):=iterO stp_L73_4 (((s1.size:Int) - i1).toNat+2) (s1,b1,i1)
def ch_L73_4:kT (ByteArray×Bool×Int):=kO (kS 0 (kC (Cod.xs (Cod.sc kE)) (kC kB (kC kI kN))) kN) (fun p=>(p.1.1,p.1.2.1,p.1.2.2.1)) (fun (x:ByteArray×Bool×Int)=>((x.1,(x.2.1,(x.2.2,()))),())) (fun _=>rfl)
def co0_L73_4:kT (Bool):=kO (kS 0 (kC kB kN) kN) (fun p=>p.1.1) (fun (x:Bool)=>((x,()),())) (fun _=>rfl)
def sl_L73_4:SFn TL:=SFn.two ch_L73_4.dec (fun p=>L73_4 p.1 p.2.1 p.2.2) (.exit 0) .ret co0_L73_4.enc co0_L73_4.enc
def v_L73_4:Env:=envOf tab sl sh [] []
theorem v_L73_4_ok:EnvOK PR (mkD cZ sZ) v_L73_4:=envOK_of base aN aN
theorem run_L73_4 (x:ByteArray×Bool×Int):Out.run (mkO cZ sZ) (evRound v_L73_4 12 20 fd73.an q_L73_4 (loopIn (loopsOf fd73.body) 4) (ch_L73_4.enc x)) (back2 ch_L73_4 co0_L73_4 co0_L73_4 (.exit 0) .ret)=stp_L73_4 x:=by kernel_rfl
theorem ok_L73_4:LoopOK PR (oneS sl_L73_4) nt73 q_L73_4 (loopIn (loopsOf fd73.body) 4) :=
  loop_two v_L73_4_ok (loops:=12) (k:=20) (an:=fd73.an) (by kernel_rfl) (FnSt.subl rfl st73.keys (aC (.inl (by kernel_rfl)) aN)) ch_L73_4 co0_L73_4 co0_L73_4 (.exit 0) .ret rfl rfl stp_L73_4 _ run_L73_4 (fun x y h=>⟨_,h⟩) (fun _=>below_iff.1 rfl)
def ref5Text (s1:ByteArray):Option Bool :=
 cond (decide ((s1.size:Int) > 40))
 (some false)
 (ob (L73_4 s1 false 0) fun y0 =>
 two y0 (fun _ =>
 some true) (fun b2 =>
 some b2))
def un_ref5Text (p:ByteArray):Option Bool:=ref5Text p
def df_ref5Text:DFn TL:=DFn.of (DA.one (DT.one DI.str)) un_ref5Text (DA.one dB)
theorem run_ref5Text:DRun [] [(173004,sl_L73_4)] (envOf tab sl sh [(73,fd73)] []) 73 (DA.one (DT.one DI.str)) un_ref5Text (DA.one dB):=fun _=>by kernel_rfl
theorem ok_ref5Text:DOK PR 73 .pure df_ref5Text:=dok run_ref5Text (envOK_of base (aC (st73.okl rfl (aC (lC ok_L73_4 rfl) aN)) aN) aN) (.inr rfl) st73.enters
def ref12_counter (c1:Counter):Option Bool :=
 cond (!sEq c1.key s_empty)
 (ob (ref5Text c1.key) fun r0 =>
 some (cond r0 (cond (decide (c1.coll≥0)) (cond (decide (c1.coll < 3)) (cond (decide ((-1099511627776)≤c1.lo)) (cond (decide (c1.lo≤c1.start)) (cond (decide (c1.start≤c1.hi)) (decide (c1.hi≤1099511627776)) false) false) false) false) false) false))
 (some false)
def un_ref12_counter (p:Counter):Option Bool:=ref12_counter p
def df_ref12_counter:DFn TL:=DFn.of (DA.one (DT.agg dc_Counter)) un_ref12_counter (DA.one dB)
theorem run_ref12_counter:DRun [(73,df_ref5Text)] [] (envOf tab sl sh [(43,fd43)] [(73,.pure)]) 43 (DA.one (DT.agg dc_Counter)) un_ref12_counter (DA.one dB):=fun _=>by kernel_rfl
theorem ok_ref12_counter:DOK PR 43 .pure df_ref12_counter:=dok run_ref12_counter (envOK_of base (aC (st43.okl rfl aN) aN) (aC (oD ok_ref5Text rfl) aN)) (.inr rfl) st43.enters
abbrev tY7:=ByteArray×Int×Int×Book
def step_L44_2 (s1:ByteArray)(i1:Int)(i2:Int)(bx1:Book):Option ((tY7)⊕(((Int×Book)⊕(Int×Book)))) :=
 cond (decide (i2 < (bx1.counters.length:Int)))
 (cond (decide (0≤i2))
 (ob (bx1.counters[i2.toNat]?) fun e0 =>
 cond (sEq e0.key s1)
 (some (.inr (.inr (i2,bx1))))
 (some (.inl (s1,i1,(w64 (i2+1)),bx1))))
 none)
 (some (.inr (.inl (i1,bx1))))
def stp_L44_2 (p:tY7):Option ((tY7)⊕(((Int×Book)⊕(Int×Book)))):=step_L44_2 p.1 p.2.1 p.2.2.1 p.2.2.2
def L44_2 (s1:ByteArray)(i1:Int)(i2:Int)(bx1:Book):Option (((Int×Book)⊕(Int×Book))):=iterO stp_L44_2 (1099511627776) (s1,i1,i2,bx1)
def ch_L44_2:kT (tY7):=kO (kS 1 (kC (Cod.xs (Cod.sc kE)) (kC (kP 0 0) (kC kI (kC kI kN)))) (kC (Cod.var 0 29 cc_Book) kN)) (fun p=>(p.1.1,p.1.2.2.1,p.1.2.2.2.1,p.2.1)) (fun (x:tY7)=>((x.1,((),(x.2.1,(x.2.2.1,())))),(x.2.2.2,()))) (fun _=>rfl)
def co0_L44_2:kT (Int×Book):=kO (kS 2 (kC kI kN) (kC (Cod.var 0 29 cc_Book) kN)) (fun p=>(p.1.1,p.2.1)) (fun (x:Int×Book)=>((x.1,()),(x.2,()))) (fun _=>rfl)
def sl_L44_2:SFn TL:=SFn.two ch_L44_2.dec (fun p=>L44_2 p.1 p.2.1 p.2.2.1 p.2.2.2) (.exit 0) .ret co0_L44_2.enc co0_L44_2.enc
def v_L44_2:Env:=envOf tab sl sh [] []
theorem v_L44_2_ok:EnvOK PR (mkD cZ sZ) v_L44_2:=envOK_of base aN aN
theorem run_L44_2 (x:tY7):Out.run (mkO cZ sZ) (evRound v_L44_2 12 20 fd44.an q_L44_2 (loopIn (loopsOf fd44.body) 2) (ch_L44_2.enc x)) (back2 ch_L44_2 co0_L44_2 co0_L44_2 (.exit 0) .ret)=stp_L44_2 x:=by kernel_rfl
theorem ok_L44_2:LoopOK PR (oneS sl_L44_2) nt44 q_L44_2 (loopIn (loopsOf fd44.body) 2) :=
  loop_two v_L44_2_ok (loops:=12) (k:=20) (an:=fd44.an) (by kernel_rfl) (FnSt.subl rfl st44.keys (aC (.inl (by kernel_rfl)) aN)) ch_L44_2 co0_L44_2 co0_L44_2 (.exit 0) .ret rfl rfl stp_L44_2 _ run_L44_2 (fun x y h=>⟨_,h⟩) (fun _=>below_iff.1 rfl)
def ref12_place (bx1:Book)(s1:ByteArray):Option Int :=
 ob (L44_2 s1 0 0 bx1) fun y0 =>
 two y0 (fun _ =>
 some (-1)) (fun b2 =>
 some b2.1)
def un_ref12_place (p:Book×ByteArray):Option Int:=ref12_place p.1 p.2
def df_ref12_place:DFn TL:=DFn.of (DA.cons (DT.agg dc_Book) (DA.one (DT.one DI.str))) un_ref12_place (DA.one dI)
theorem run_ref12_place:DRun [] [(144002,sl_L44_2)] (envOf tab sl sh [(44,fd44)] []) 44 (DA.cons (DT.agg dc_Book) (DA.one (DT.one DI.str))) un_ref12_place (DA.one dI):=fun _=>by kernel_rfl
theorem ok_ref12_place:DOK PR 44 .pure df_ref12_place:=dok run_ref12_place (envOK_of base (aC (st44.okl rfl (aC (lC ok_L44_2 rfl) aN)) aN) aN) (.inr rfl) st44.enters
abbrev tY8:=(List Counter)×Int×Int×Int×Book×Book
def step_L76_5 (l1:List Counter)(i1:Int)(i2:Int)(i3:Int)(bx1:Book)(bx2:Book):Option ((tY8)⊕(((Int×Int×Book×Book)⊕(Int×Int×Book×Book×(List Counter)×(List Range)×(List Lease)×(List Int))))) :=
 cond (decide (i3 < (l1.length:Int)))
 (cond (decide (0≤i3))
 (ob (l1[i3.toNat]?) fun e0 =>
 ob (ref12_counter e0) fun r1 =>
 cond (!r1)
 (some (.inr (.inr (i1,1,(Book.mk [] [] [] []),bx2,bx1.counters,bx1.free,bx1.leases,bx1.bound))))
 (cond (decide (0≤i3))
 (ob (l1[i3.toNat]?) fun e2 =>
 ob (ref12_place bx2 e2.key) fun r3 =>
 cond (decide (r3≥0))
 (some (.inr (.inr (i1,7,(Book.mk [] [] [] []),bx2,bx1.counters,bx1.free,bx1.leases,bx1.bound))))
 (cond (decide (0≤i3))
 (ob (l1[i3.toNat]?) fun e4 =>
 cond (fits ((bx2.counters++[(Counter.mk e4.key e4.coll e4.lo e4.hi e4.start (w64 (e4.hi - e4.start)) (w64 (e4.start - e4.lo)))]).length))
 (some (.inl (l1,i1,i2,(w64 (i3+1)),bx1,(Book.mk (bx2.counters++[(Counter.mk e4.key e4.coll e4.lo e4.hi e4.start (w64 (e4.hi - e4.start)) (w64 (e4.start - e4.lo)))]) bx2.free bx2.leases bx2.bound))))
 none)
 none))
 none))
 none)
 (some (.inr (.inl (i1,i2,bx1,bx2))))
def stp_L76_5 (p:tY8):Option ((tY8)⊕(((Int×Int×Book×Book)⊕(Int×Int×Book×Book×(List Counter)×(List Range)×(List Lease)×(List Int))))):=step_L76_5 p.1 p.2.1 p.2.2.1 p.2.2.2.1 p.2.2.2.2.1 p.2.2.2.2.2
def L76_5 (l1:List Counter)(i1:Int)(i2:Int)(i3:Int)(bx1:Book)(bx2:Book):Option (((Int×Int×Book×Book)⊕(Int×Int×Book×Book×(List Counter)×(List Range)×(List Lease)×(List Int)))):=iterO stp_L76_5 (((l1.length:Int) - i3).toNat+2) (l1,i1,i2,i3,bx1,bx2)
def ch_L76_5:kT (tY8):=kO (kS 10 (kC (kF j_lCounter) (kC kI (kC (kP 0 0) (kC kI (kC (kP 1 0) (kC kI kN)))))) (kC (Cod.var 0 29 (kC (kA 2) (kC (kA 3) (kC (kA 4) (kC (kA 5) kN))))) (kC (Cod.var 1 29 (kC (kA 6) (kC (kA 7) (kC (kA 8) (kC (kA 9) kN))))) (kC (kR 2 65 j_lCounter) (kC (kR 3 153 j_lRange) (kC (kR 4 43 j_lLease) (kC (kR 5 3 j_lInt) (kC (kR 6 65 j_lCounter) (kC (kR 7 153 j_lRange) (kC (kR 8 43 j_lLease) (kC (kR 9 3 j_lInt) kN))))))))))) (fun p=>(p.1.1,p.1.2.1,p.1.2.2.2.1,p.1.2.2.2.2.2.1,(Book.mk p.2.2.2.1 p.2.2.2.2.1 p.2.2.2.2.2.1 p.2.2.2.2.2.2.1),(Book.mk p.2.2.2.2.2.2.2.1 p.2.2.2.2.2.2.2.2.1 (t8 p.2).1 (t8 p.2).2.1))) (fun (x:tY8)=>((x.1,(x.2.1,((),(x.2.2.1,((),(x.2.2.2.1,())))))),(((),((),((),((),())))),(((),((),((),((),())))),(x.2.2.2.2.1.counters,(x.2.2.2.2.1.free,(x.2.2.2.2.1.leases,(x.2.2.2.2.1.bound,(x.2.2.2.2.2.counters,(x.2.2.2.2.2.free,(x.2.2.2.2.2.leases,(x.2.2.2.2.2.bound,())))))))))))) (fun _=>rfl)
def sl_L76_5:SFn TL:=SFn.two ch_L76_5.dec (fun p=>L76_5 p.1 p.2.1 p.2.2.1 p.2.2.2.1 p.2.2.2.2.1 p.2.2.2.2.2) (.exit 0) .ret co0_L75_5.enc co1_L75_5.enc
def cs_lL76_5:cL:=[(43,df_ref12_counter),(44,df_ref12_place)]
def v_L76_5:Env:=envOf tab sl sh [] [(43,.pure),(44,.pure)]
theorem v_L76_5_ok:EnvOK PR (mkD cs_lL76_5 sZ) v_L76_5:=envOK_of base aN (aC (oD ok_ref12_counter rfl) (aC (oD ok_ref12_place rfl) aN))
theorem run_L76_5 (x:tY8):Out.run (mkO cs_lL76_5 sZ) (evRound v_L76_5 12 20 fd76.an q_L76_5 (loopIn (loopsOf fd76.body) 5) (ch_L76_5.enc x)) (back2 ch_L76_5 co0_L75_5 co1_L75_5 (.exit 0) .ret)=stp_L76_5 x:=by kernel_rfl
theorem ok_L76_5:LoopOK PR (oneS sl_L76_5) nt76 q_L76_5 (loopIn (loopsOf fd76.body) 5) :=
  loop_two v_L76_5_ok (loops:=12) (k:=20) (an:=fd76.an) (by kernel_rfl) (FnSt.subl rfl st76.keys (aC (.inl (by kernel_rfl)) aN)) ch_L76_5 co0_L75_5 co1_L75_5 (.exit 0) .ret rfl rfl stp_L76_5 _ run_L76_5 (fun x y h=>⟨_,h⟩) (fun _=>below_iff.1 rfl)
def ref12New (l1:List Counter)(i1:Int):Option (Book×Int) :=
 cond (decide ((l1.length:Int) > 4))
 (some ((Book.mk [] [] [] []),4))
 (ob (L76_5 l1 i1 0 0 (Book.mk [] [] [] []) (Book.mk [] [] [] [])) fun y0 =>
 two y0 (fun a1 =>
 cond (cond (decide (a1.1 < 0)) true (decide (a1.1 > 1000)))
 (some ((Book.mk [] [] [] []),1))
 (ob (ref11Add [] (Range.mk 0 a1.1)) fun r3 =>
 some ((Book.mk a1.2.2.2.counters r3 a1.2.2.2.leases a1.2.2.2.bound),0))) (fun b2 =>
 some (b2.2.2.1,b2.2.1)))
def un_ref12New (p:(List Counter)×Int):Option (Book×Int):=ref12New p.1 p.2
def df_ref12New:DFn TL:=DFn.of (DA.cons (DT.one di_lCounter) (DA.one dI)) un_ref12New (DA.cons (DT.agg dc_Book) (DA.one dI))
theorem run_ref12New:DRun [(125,df_ref11Add)] [(176005,sl_L76_5)] (envOf tab sl sh [(76,fd76)] [(125,.keep)]) 76 (DA.cons (DT.one di_lCounter) (DA.one dI)) un_ref12New (DA.cons (DT.agg dc_Book) (DA.one dI)):=fun _=>by kernel_rfl
theorem ok_ref12New:DOK PR 76 .keep df_ref12New:=dok run_ref12New (envOK_of base (aC (st76.okl rfl (aC (lC ok_L76_5 rfl) aN)) aN) (aC (oD ok_ref11Add rfl) aN)) (.inl rfl) st76.enters
def l12Begin  : Option Book :=
 ob (ref12New [(Counter.mk s_a 0 0 20 10 0 0),(Counter.mk s_b 1 (-30) 30 0 0 0)] 40) fun r0 =>
 some r0.1
def un_l12Begin (_:Unit):Option Book:=l12Begin
def df_l12Begin:DFn TL:=DFn.of (DA.nil) un_l12Begin (DA.one (DT.agg dc_Book))
theorem run_l12Begin:DRun [(76,df_ref12New)] [] (envOf tab sl sh [(37,fd37)] [(76,.keep)]) 37 (DA.nil) un_l12Begin (DA.one (DT.agg dc_Book)):=fun _=>by kernel_rfl
theorem ok_l12Begin:DOK PR 37 .keep df_l12Begin:=dok run_l12Begin (envOK_of base (aC (st37.okl rfl aN) aN) (aC (oD ok_ref12New rfl) aN)) (.inl rfl) st37.enters
def l13Begin  : Option Desk :=
 ob (l12Begin) fun r0 =>
 some (Desk.mk r0 (A3Coll.mk (Coll.mk [] [] [] [] [] []) (Coll.mk [] [] [] [] [] []) (Coll.mk [] [] [] [] [] [])) [] (A6Device.mk (Device.mk 0 0 (Reply.mk 0 0 (Lease.mk 0 0 0 0 [] [] []))) (Device.mk 0 0 (Reply.mk 0 0 (Lease.mk 0 0 0 0 [] [] []))) (Device.mk 0 0 (Reply.mk 0 0 (Lease.mk 0 0 0 0 [] [] []))) (Device.mk 0 0 (Reply.mk 0 0 (Lease.mk 0 0 0 0 [] [] []))) (Device.mk 0 0 (Reply.mk 0 0 (Lease.mk 0 0 0 0 [] [] []))) (Device.mk 0 0 (Reply.mk 0 0 (Lease.mk 0 0 0 0 [] [] [])))) [] 0)
def un_l13Begin (_:Unit):Option Desk:=l13Begin
def df_l13Begin:DFn TL:=DFn.of (DA.nil) un_l13Begin (DA.one (DT.agg dc_Desk))
theorem run_l13Begin:DRun [(37,df_l12Begin)] [] (envOf tab sl sh [(17,fd17)] [(37,.keep)]) 17 (DA.nil) un_l13Begin (DA.one (DT.agg dc_Desk)):=fun _=>by kernel_rfl
theorem ok_l13Begin:DOK PR 17 .keep df_l13Begin:=dok run_l13Begin (envOK_of base (aC (st17.okl rfl aN) aN) (aC (oD ok_l12Begin rfl) aN)) (.inl rfl) st17.enters
def l12_within (i1:Int)(i2:Int):Option Int :=
 cond (decide (i2=0))
 none
 (some (cond (decide ((i1.tmod i2) < 0)) (w64 ((i1.tmod i2)+i2)) (i1.tmod i2)))
def un_l12_within (p:Int×Int):Option Int:=l12_within p.1 p.2
def df_l12_within:DFn TL:=DFn.of (DA.cons dI (DA.one dI)) un_l12_within (DA.one dI)
theorem run_l12_within:DRun [] [] (envOf tab sl sh [(96,fd96)] []) 96 (DA.cons dI (DA.one dI)) un_l12_within (DA.one dI):=fun _=>by kernel_rfl
theorem ok_l12_within:DOK PR 96 .pure df_l12_within:=dok run_l12_within (envOK_of base (aC (st96.okl rfl aN) aN) aN) (.inr rfl) st96.enters
abbrev tY9:=(List Want)×(List Want)×Int
def step_L53_3 (l1:List Want)(l2:List Want)(i1:Int):Option ((tY9)⊕((List Want))) :=
 cond (cond (decide (i1 < (l1.length:Int))) (decide (i1 < 3)) false)
 (cond (decide (0≤i1))
 (cond (decide (i1 < ([s_a,s_b,s_empty].length:Int)))
 (ob ([s_a,s_b,s_empty][i1.toNat]?) fun e0 =>
 cond (decide (0≤i1))
 (ob (l1[i1.toNat]?) fun e1 =>
 ob (l12_within e1.up_ 7) fun r2 =>
 cond (decide (0≤i1))
 (ob (l1[i1.toNat]?) fun e3 =>
 ob (l12_within e3.down_ 7) fun r4 =>
 cond (decide (0≤i1))
 (ob (l1[i1.toNat]?) fun e5 =>
 ob (l12_within e5.ids 7) fun r6 =>
 cond (i1 == 2)
 (cond (fits ((l2++[(Want.mk e0 0 0 r6)]).length))
 (some (.inl (l1,(l2++[(Want.mk e0 0 0 r6)]),(w64 (i1+1)))))
 none)
 (cond (fits ((l2++[(Want.mk e0 r2 r4 r6)]).length))
 (some (.inl (l1,(l2++[(Want.mk e0 r2 r4 r6)]),(w64 (i1+1)))))
 none))
 none)
 none)
 none)
 none)
 none)
 (some (.inr l2))
def stp_L53_3 (p:tY9):Option ((tY9)⊕((List Want))):=step_L53_3 p.1 p.2.1 p.2.2
def L53_3 (l1:List Want)(l2:List Want)(i1:Int):Option ((List Want)):=iterO stp_L53_3 (((l1.length:Int) - i1).toNat+2) (l1,l2,i1)
def ch_L53_3:kT (tY9):=kO (kS 1 (kC (kF j_lWant) (kC (Cod.xs (Cod.sc (kA 0))) (kC kI kN))) (kC (kR 0 105 j_lWant) kN)) (fun p=>(p.1.1,p.2.1,p.1.2.2.1)) (fun (x:tY9)=>((x.1,((),(x.2.2,()))),(x.2.1,()))) (fun _=>rfl)
def co0_L53_3:kT ((List Want)):=kO (kS 2 (kC (Cod.xs (Cod.sc (kA 1))) kN) (kC (kR 1 105 j_lWant) kN)) (fun p=>p.2.1) (fun (x:(List Want))=>(((),()),(x,()))) (fun _=>rfl)
def sl_L53_3:SFn TL:=SFn.one ch_L53_3.dec (fun p=>L53_3 p.1 p.2.1 p.2.2) (.exit 0) co0_L53_3.enc
def cs_lL53_3:cL:=[(96,df_l12_within)]
def v_L53_3:Env:=envOf tab sl sh [] [(96,.pure)]
theorem v_L53_3_ok:EnvOK PR (mkD cs_lL53_3 sZ) v_L53_3:=envOK_of base aN (aC (oD ok_l12_within rfl) aN)
theorem run_L53_3 (x:tY9):Out.run (mkO cs_lL53_3 sZ) (evRound v_L53_3 12 20 fd53.an q_L53_3 (loopIn (loopsOf fd53.body) 3) (ch_L53_3.enc x)) (back ch_L53_3 co0_L53_3 fun e=>exE e (.exit 0))=stp_L53_3 x:=by kernel_rfl
theorem ok_L53_3:LoopOK PR (oneS sl_L53_3) nt53 q_L53_3 (loopIn (loopsOf fd53.body) 3) :=
  loop_one v_L53_3_ok (loops:=12) (k:=20) (an:=fd53.an) (by kernel_rfl) (FnSt.subl rfl st53.keys (aC (.inl (by kernel_rfl)) aN)) ch_L53_3 co0_L53_3 (.exit 0) rfl stp_L53_3 _ run_L53_3 (fun x y h=>⟨_,h⟩) (fun _=>below_iff.1 rfl)
def l12Wants (l1:List Want):Option ((List Want)) :=
 ob (L53_3 l1 [] 0) fun y0 =>
 some y0
def un_l12Wants (p:(List Want)):Option ((List Want)):=l12Wants p
def df_l12Wants:DFn TL:=DFn.of (DA.one (DT.one di_lWant)) un_l12Wants (DA.one (DT.one di_lWant))
theorem run_l12Wants:DRun [] [(153003,sl_L53_3)] (envOf tab sl sh [(53,fd53)] []) 53 (DA.one (DT.one di_lWant)) un_l12Wants (DA.one (DT.one di_lWant)):=fun _=>by kernel_rfl
theorem ok_l12Wants:DOK PR 53 .keep df_l12Wants:=dok run_l12Wants (envOK_of base (aC (st53.okl rfl (aC (lC ok_L53_3 rfl) aN)) aN) aN) (.inl rfl) st53.enters
abbrev tY10:=Int×Int×Int×Int×Desk
def step_L54_3 (i1:Int)(i2:Int)(i3:Int)(i4:Int)(d1:Desk):Option ((tY10)⊕(Int×Desk)) :=
 cond (decide (i4 < (d1.log.length:Int)))
 (cond (decide (0≤i4))
 (ob (d1.log[i4.toNat]?) fun e0 =>
 cond (e0.dot.device == i1)
 (cond (decide (0≤i4))
 (ob (d1.log[i4.toNat]?) fun e1 =>
 some (.inl (i1,i2,(cond (e1.dot.epoch == i2) (w64 (i3+1)) i3),(w64 (i4+1)),d1)))
 none)
 (some (.inl (i1,i2,i3,(w64 (i4+1)),d1))))
 none)
 (some (.inr (i3,d1)))
def stp_L54_3 (p:tY10):Option ((tY10)⊕(Int×Desk)):=step_L54_3 p.1 p.2.1 p.2.2.1 p.2.2.2.1 p.2.2.2.2
def L54_3 (i1:Int)(i2:Int)(i3:Int)(i4:Int)(d1:Desk):Option (Int×Desk):=iterO stp_L54_3 (1099511627776) (i1,i2,i3,i4,d1)
def ch_L54_3:kT (tY10):=kO (kS 1 (kC kI (kC kI (kC (kP 0 0) (kC kI (kC kI kN))))) (kC (Cod.var 0 50 cc_Desk) kN)) (fun ((z0,z1,_,z2,z3,_),z4,_)=>(z0,z1,z2,z3,z4)) (fun (x:tY10)=>((x.1,(x.2.1,((),(x.2.2.1,(x.2.2.2.1,()))))),(x.2.2.2.2,()))) (fun _=>rfl)
def co0_L54_3:kT (Int×Desk):=kO (kS 2 (kC kI kN) (kC (Cod.var 0 50 cc_Desk) kN)) (fun p=>(p.1.1,p.2.1)) (fun (x:Int×Desk)=>((x.1,()),(x.2,()))) (fun _=>rfl)
def sl_L54_3:SFn TL:=SFn.one ch_L54_3.dec (fun p=>L54_3 p.1 p.2.1 p.2.2.1 p.2.2.2.1 p.2.2.2.2) (.exit 0) co0_L54_3.enc
def v_L54_3:Env:=envOf tab sl sh [] []
theorem v_L54_3_ok:EnvOK PR (mkD cZ sZ) v_L54_3:=envOK_of base aN aN
theorem run_L54_3 (x:tY10):Out.run (mkO cZ sZ) (evRound v_L54_3 12 20 fd54.an q_L54_3 (loopIn (loopsOf fd54.body) 3) (ch_L54_3.enc x)) (back ch_L54_3 co0_L54_3 fun e=>exE e (.exit 0))=stp_L54_3 x:=by kernel_rfl
theorem ok_L54_3:LoopOK PR (oneS sl_L54_3) nt54 q_L54_3 (loopIn (loopsOf fd54.body) 3) :=
  loop_one v_L54_3_ok (loops:=12) (k:=20) (an:=fd54.an) (by kernel_rfl) (FnSt.subl rfl st54.keys (aC (.inl (by kernel_rfl)) aN)) ch_L54_3 co0_L54_3 (.exit 0) rfl stp_L54_3 _ run_L54_3 (fun x y h=>⟨_,h⟩) (fun _=>below_iff.1 rfl)
def ref13Included (d1:Desk)(i1:Int)(i2:Int):Option Int :=
 ob (L54_3 i1 i2 0 0 d1) fun y0 =>
 some y0.1
def un_ref13Included (p:Desk×Int×Int):Option Int:=ref13Included p.1 p.2.1 p.2.2
def df_ref13Included:DFn TL:=DFn.of (DA.cons (DT.agg dc_Desk) (DA.cons dI (DA.one dI))) un_ref13Included (DA.one dI)
theorem run_ref13Included:DRun [] [(154003,sl_L54_3)] (envOf tab sl sh [(54,fd54)] []) 54 (DA.cons (DT.agg dc_Desk) (DA.cons dI (DA.one dI))) un_ref13Included (DA.one dI):=fun _=>by kernel_rfl
theorem ok_ref13Included:DOK PR 54 .pure df_ref13Included:=dok run_ref13Included (envOK_of base (aC (st54.okl rfl (aC (lC ok_L54_3 rfl) aN)) aN) aN) (.inr rfl) st54.enters
def l9_within (i1:Int)(i2:Int):Option Int :=
 cond (decide (i2=0))
 none
 (some (cond (decide ((i1.tmod i2) < 0)) (w64 ((i1.tmod i2)+i2)) (i1.tmod i2)))
def un_l9_within (p:Int×Int):Option Int:=l9_within p.1 p.2
def df_l9_within:DFn TL:=DFn.of (DA.cons dI (DA.one dI)) un_l9_within (DA.one dI)
theorem run_l9_within:DRun [] [] (envOf tab sl sh [(97,fd97)] []) 97 (DA.cons dI (DA.one dI)) un_l9_within (DA.one dI):=fun _=>by kernel_rfl
theorem ok_l9_within:DOK PR 97 .pure df_l9_within:=dok run_l9_within (envOK_of base (aC (st97.okl rfl aN) aN) aN) (.inr rfl) st97.enters
def ref9Less (ex1:Entry)(ex2:Entry):Option Bool :=
 cond (ex1.device != ex2.device)
 (some (decide (ex1.device < ex2.device)))
 (cond (ex1.epoch != ex2.epoch)
 (some (decide (ex1.epoch < ex2.epoch)))
 (some (decide (ex1.seq < ex2.seq))))
def un_ref9Less (p:Entry×Entry):Option Bool:=ref9Less p.1 p.2
def df_ref9Less:DFn TL:=DFn.of (DA.cons (DT.agg dc_Entry) (DA.one (DT.agg dc_Entry))) un_ref9Less (DA.one dB)
theorem run_ref9Less:DRun [] [] (envOf tab sl sh [(74,fd74)] []) 74 (DA.cons (DT.agg dc_Entry) (DA.one (DT.agg dc_Entry))) un_ref9Less (DA.one dB):=fun _=>by kernel_rfl
theorem ok_ref9Less:DOK PR 74 .pure df_ref9Less:=dok run_ref9Less (envOK_of base (aC (st74.okl rfl aN) aN) aN) (.inr rfl) st74.enters
abbrev tY11:=(List Entry)×Int×Int×Op×Op×Entry
def step_L55_10 (l1:List Entry)(i1:Int)(i2:Int)(o1:Op)(o2:Op)(ex1:Entry):Option ((tY11)⊕(tY11)) :=
 cond (decide (i2 < (l1.length:Int)))
 (cond (decide (0≤i2))
 (ob (l1[i2.toNat]?) fun e0 =>
 ob (ref9Less e0 ex1) fun r1 =>
 cond (r1)
 (some (.inl (l1,i1,(w64 (i2+1)),o1,o2,ex1)))
 (some (.inr (l1,i1,i2,o1,o2,ex1))))
 none)
 (some (.inr (l1,i1,i2,o1,o2,ex1)))
def stp_L55_10 (p:tY11):Option ((tY11)⊕(tY11)):=step_L55_10 p.1 p.2.1 p.2.2.1 p.2.2.2.1 p.2.2.2.2.1 p.2.2.2.2.2
def L55_10 (l1:List Entry)(i1:Int)(i2:Int)(o1:Op)(o2:Op)(ex1:Entry):Option tY11:=iterO stp_L55_10 (((l1.length:Int) - i2).toNat+2) (l1,i1,i2,o1,o2,ex1)
def cc_Op:Cod (List (C TL)) Op:=kO (kC kJ (kC kJ (kC kJ (kC kJ (kC kJ (kC kJ (kC kE (kC kE (kC kJ (kC kJ (kC (kG j_lEntry) kN))))))))))) (fun p=>(Op.mk (Entry.mk p.1 p.2.1 p.2.2.1) p.2.2.2.1 p.2.2.2.2.1 p.2.2.2.2.2.1 p.2.2.2.2.2.2.1 p.2.2.2.2.2.2.2.1 (t8 p).1 (t8 p).2.1 (t8 p).2.2.1)) (fun (x:Op)=>(x.dot.device,(x.dot.epoch,(x.dot.seq,(x.coll,(x.ver,(x.kind,(x.key,(x.text,(x.n,(x.time,(x.dots,())))))))))))) (fun _=>rfl)
def ch_L55_10:kT (tY11):=kO (kS 4 (kC (kP 0 0) (kC (kP 1 0) (kC (kF j_lEntry) (kC kI (kC (kP 2 0) (kC kI kN)))))) (kC (Cod.var 0 61 cc_Op) (kC (Cod.var 1 61 (kC kJ (kC kJ (kC kJ (kC kJ (kC kJ (kC kJ (kC kE (kC kE (kC kJ (kC kJ (kC (kA 3) kN)))))))))))) (kC (Cod.var 2 59 (kC kJ (kC kJ (kC kJ kN)))) (kC (kR 3 59 j_lEntry) kN))))) (fun p=>(p.1.2.2.1,p.1.2.2.2.1,p.1.2.2.2.2.2.1,p.2.1,(Op.mk (Entry.mk p.2.2.1.1 p.2.2.1.2.1 p.2.2.1.2.2.1) p.2.2.1.2.2.2.1 p.2.2.1.2.2.2.2.1 p.2.2.1.2.2.2.2.2.1 p.2.2.1.2.2.2.2.2.2.1 p.2.2.1.2.2.2.2.2.2.2.1 (t8 p.2.2.1).1 (t8 p.2.2.1).2.1 p.2.2.2.2.1),(Entry.mk p.2.2.2.1.1 p.2.2.2.1.2.1 p.2.2.2.1.2.2.1))) (fun (x:tY11)=>(((),((),(x.1,(x.2.1,((),(x.2.2.1,())))))),(x.2.2.2.1,((x.2.2.2.2.1.dot.device,(x.2.2.2.2.1.dot.epoch,(x.2.2.2.2.1.dot.seq,(x.2.2.2.2.1.coll,(x.2.2.2.2.1.ver,(x.2.2.2.2.1.kind,(x.2.2.2.2.1.key,(x.2.2.2.2.1.text,(x.2.2.2.2.1.n,(x.2.2.2.2.1.time,((),()))))))))))),((x.2.2.2.2.2.device,(x.2.2.2.2.2.epoch,(x.2.2.2.2.2.seq,()))),(x.2.2.2.2.1.dots,())))))) (fun _=>rfl)
def co0_L55_10:kT (tY11):=kO (kS 8 (kC (kP 0 0) (kC (kP 1 0) (kC (kF j_lEntry) (kC kI (kC (kP 2 0) (kC kI kN)))))) (kC (Cod.var 0 61 cc_Op) (kC (Cod.var 1 61 (kC kJ (kC kJ (kC kJ (kC kJ (kC kJ (kC kJ (kC kE (kC kE (kC kJ (kC kJ (kC (kA 3) kN)))))))))))) (kC (Cod.var 2 59 (kC kJ (kC kJ (kC kJ kN)))) (kC (kR 3 59 j_lEntry) kN))))) (fun p=>(p.1.2.2.1,p.1.2.2.2.1,p.1.2.2.2.2.2.1,p.2.1,(Op.mk (Entry.mk p.2.2.1.1 p.2.2.1.2.1 p.2.2.1.2.2.1) p.2.2.1.2.2.2.1 p.2.2.1.2.2.2.2.1 p.2.2.1.2.2.2.2.2.1 p.2.2.1.2.2.2.2.2.2.1 p.2.2.1.2.2.2.2.2.2.2.1 (t8 p.2.2.1).1 (t8 p.2.2.1).2.1 p.2.2.2.2.1),(Entry.mk p.2.2.2.1.1 p.2.2.2.1.2.1 p.2.2.2.1.2.2.1))) (fun (x:tY11)=>(((),((),(x.1,(x.2.1,((),(x.2.2.1,())))))),(x.2.2.2.1,((x.2.2.2.2.1.dot.device,(x.2.2.2.2.1.dot.epoch,(x.2.2.2.2.1.dot.seq,(x.2.2.2.2.1.coll,(x.2.2.2.2.1.ver,(x.2.2.2.2.1.kind,(x.2.2.2.2.1.key,(x.2.2.2.2.1.text,(x.2.2.2.2.1.n,(x.2.2.2.2.1.time,((),()))))))))))),((x.2.2.2.2.2.device,(x.2.2.2.2.2.epoch,(x.2.2.2.2.2.seq,()))),(x.2.2.2.2.1.dots,())))))) (fun _=>rfl)
def sl_L55_10:SFn TL:=SFn.one ch_L55_10.dec (fun p=>L55_10 p.1 p.2.1 p.2.2.1 p.2.2.2.1 p.2.2.2.2.1 p.2.2.2.2.2) (.exit 2) co0_L55_10.enc
def cs_lL55_10:cL:=[(74,df_ref9Less)]
def v_L55_10:Env:=envOf tab sl sh [] [(74,.pure)]
theorem v_L55_10_ok:EnvOK PR (mkD cs_lL55_10 sZ) v_L55_10:=envOK_of base aN (aC (oD ok_ref9Less rfl) aN)
theorem run_L55_10 (x:tY11):Out.run (mkO cs_lL55_10 sZ) (evRound v_L55_10 12 20 fd55.an q_L55_10 (loopIn (loopsOf fd55.body) 10) (ch_L55_10.enc x)) (back ch_L55_10 co0_L55_10 fun e=>exE e (.exit 2))=stp_L55_10 x:=by kernel_rfl
theorem ok_L55_10:LoopOK PR (oneS sl_L55_10) nt55 q_L55_10 (loopIn (loopsOf fd55.body) 10) :=
  loop_one v_L55_10_ok (loops:=12) (k:=20) (an:=fd55.an) (by kernel_rfl) (FnSt.subl rfl st55.keys (aC (.inl (by kernel_rfl)) (aC (.inl (by kernel_rfl)) aN))) ch_L55_10 co0_L55_10 (.exit 2) rfl stp_L55_10 _ run_L55_10 (fun x y h=>⟨_,h⟩) (fun _=>below_iff.1 rfl)
abbrev tY12:=(List Entry)×Int×Op×Op
def step_L55_6 (l1:List Entry)(i1:Int)(o1:Op)(o2:Op):Option ((tY12)⊕((List Entry)×Op×Op)) :=
 cond (cond (decide (i1 < (o1.dots.length:Int))) (cond (decide (i1 < 8)) (o1.kind == 3) false) false)
 (cond (decide (0≤i1))
 (ob (o1.dots[i1.toNat]?) fun e0 =>
 ob (l9_within e0.device 6) fun r1 =>
 cond (decide (0≤i1))
 (ob (o1.dots[i1.toNat]?) fun e2 =>
 ob (l9_within e2.epoch 3) fun r3 =>
 cond (decide (0≤i1))
 (ob (o1.dots[i1.toNat]?) fun e4 =>
 ob (l9_within e4.seq 12) fun r5 =>
 ob (L55_10 l1 i1 0 o1 o2 (Entry.mk r1 (w64 (1+r3)) (w64 (1+r5)))) fun y6 =>
 cond (decide (y6.2.2.1 < (y6.1.length:Int)))
 (cond (decide (0≤y6.2.2.1))
 (ob (y6.1[y6.2.2.1.toNat]?) fun e7 =>
 cond (cond (e7.device == y6.2.2.2.2.2.device) (cond (e7.epoch == y6.2.2.2.2.2.epoch) (cond (e7.seq == y6.2.2.2.2.2.seq) true false) false) false)
 (some (.inl (y6.1,(w64 (y6.2.1+1)),y6.2.2.2.1,y6.2.2.2.2.1)))
 (cond (decide (0≤y6.2.2.1))
 (cond (decide (y6.2.2.1≤(y6.1.length:Int)))
 (cond (fits (([]++(y6.1.take y6.2.2.1.toNat)).length))
 (cond (fits ((([]++(y6.1.take y6.2.2.1.toNat))++[y6.2.2.2.2.2]).length))
 (cond (decide (0≤y6.2.2.1))
 (cond (decide (y6.2.2.1≤(y6.1.length:Int)))
 (cond (decide ((y6.1.length:Int)≤(y6.1.length:Int)))
 (cond (fits (((([]++(y6.1.take y6.2.2.1.toNat))++[y6.2.2.2.2.2])++((y6.1.take (((y6.1.length:Int)).toNat)).drop y6.2.2.1.toNat)).length))
 (some (.inl (((([]++(y6.1.take y6.2.2.1.toNat))++[y6.2.2.2.2.2])++((y6.1.take (((y6.1.length:Int)).toNat)).drop y6.2.2.1.toNat)),(w64 (y6.2.1+1)),y6.2.2.2.1,y6.2.2.2.2.1)))
 none)
 none)
 none)
 none)
 none)
 none)
 none)
 none))
 none)
 (cond (decide (0≤y6.2.2.1))
 (cond (decide (y6.2.2.1≤(y6.1.length:Int)))
 (cond (fits (([]++(y6.1.take y6.2.2.1.toNat)).length))
 (cond (fits ((([]++(y6.1.take y6.2.2.1.toNat))++[y6.2.2.2.2.2]).length))
 (cond (decide (0≤y6.2.2.1))
 (cond (decide (y6.2.2.1≤(y6.1.length:Int)))
 (cond (decide ((y6.1.length:Int)≤(y6.1.length:Int)))
 (cond (fits (((([]++(y6.1.take y6.2.2.1.toNat))++[y6.2.2.2.2.2])++((y6.1.take (((y6.1.length:Int)).toNat)).drop y6.2.2.1.toNat)).length))
 (some (.inl (((([]++(y6.1.take y6.2.2.1.toNat))++[y6.2.2.2.2.2])++((y6.1.take (((y6.1.length:Int)).toNat)).drop y6.2.2.1.toNat)),(w64 (y6.2.1+1)),y6.2.2.2.1,y6.2.2.2.2.1)))
 none)
 none)
 none)
 none)
 none)
 none)
 none)
 none))
 none)
 none)
 none)
 (some (.inr (l1,o1,o2)))
def stp_L55_6 (p:tY12):Option ((tY12)⊕((List Entry)×Op×Op)):=step_L55_6 p.1 p.2.1 p.2.2.1 p.2.2.2
def L55_6 (l1:List Entry)(i1:Int)(o1:Op)(o2:Op):Option ((List Entry)×Op×Op):=iterO stp_L55_6 ((8 - i1).toNat+2) (l1,i1,o1,o2)
def ch_L55_6:kT (tY12):=kO (kS 3 (kC (kP 0 0) (kC (kP 1 0) (kC (kF j_lEntry) (kC kI kN)))) (kC (Cod.var 0 61 cc_Op) (kC (Cod.var 1 61 (kC kJ (kC kJ (kC kJ (kC kJ (kC kJ (kC kJ (kC kE (kC kE (kC kJ (kC kJ (kC (kA 2) kN)))))))))))) (kC (kR 2 59 j_lEntry) kN)))) (fun p=>(p.1.2.2.1,p.1.2.2.2.1,p.2.1,(Op.mk (Entry.mk p.2.2.1.1 p.2.2.1.2.1 p.2.2.1.2.2.1) p.2.2.1.2.2.2.1 p.2.2.1.2.2.2.2.1 p.2.2.1.2.2.2.2.2.1 p.2.2.1.2.2.2.2.2.2.1 p.2.2.1.2.2.2.2.2.2.2.1 (t8 p.2.2.1).1 (t8 p.2.2.1).2.1 p.2.2.2.1))) (fun (x:tY12)=>(((),((),(x.1,(x.2.1,())))),(x.2.2.1,((x.2.2.2.dot.device,(x.2.2.2.dot.epoch,(x.2.2.2.dot.seq,(x.2.2.2.coll,(x.2.2.2.ver,(x.2.2.2.kind,(x.2.2.2.key,(x.2.2.2.text,(x.2.2.2.n,(x.2.2.2.time,((),()))))))))))),(x.2.2.2.dots,()))))) (fun _=>rfl)
def co0_L55_6:kT ((List Entry)×Op×Op):=kO (kS 6 (kC (kP 0 0) (kC (kP 1 0) (kC (kF j_lEntry) kN))) (kC (Cod.var 0 61 cc_Op) (kC (Cod.var 1 61 (kC kJ (kC kJ (kC kJ (kC kJ (kC kJ (kC kJ (kC kE (kC kE (kC kJ (kC kJ (kC (kA 2) kN)))))))))))) (kC (kR 2 59 j_lEntry) kN)))) (fun p=>(p.1.2.2.1,p.2.1,(Op.mk (Entry.mk p.2.2.1.1 p.2.2.1.2.1 p.2.2.1.2.2.1) p.2.2.1.2.2.2.1 p.2.2.1.2.2.2.2.1 p.2.2.1.2.2.2.2.2.1 p.2.2.1.2.2.2.2.2.2.1 p.2.2.1.2.2.2.2.2.2.2.1 (t8 p.2.2.1).1 (t8 p.2.2.1).2.1 p.2.2.2.1))) (fun (x:(List Entry)×Op×Op)=>(((),((),(x.1,()))),(x.2.1,((x.2.2.dot.device,(x.2.2.dot.epoch,(x.2.2.dot.seq,(x.2.2.coll,(x.2.2.ver,(x.2.2.kind,(x.2.2.key,(x.2.2.text,(x.2.2.n,(x.2.2.time,((),()))))))))))),(x.2.2.dots,()))))) (fun _=>rfl)
def sl_L55_6:SFn TL:=SFn.one ch_L55_6.dec (fun p=>L55_6 p.1 p.2.1 p.2.2.1 p.2.2.2) (.exit 0) co0_L55_6.enc
def cs_lL55_6:cL:=[(97,df_l9_within)]
def ss_lL55_6:sL:=[(155010,sl_L55_10)]
def v_L55_6:Env:=envOf tab sl sh [] [(97,.pure)]
theorem v_L55_6_ok:EnvOK PR (mkD cs_lL55_6 ss_lL55_6) v_L55_6:=envOK_of base aN (aC (oD ok_l9_within rfl) aN)
theorem run_L55_6 (x:tY12):Out.run (mkO cs_lL55_6 ss_lL55_6) (evRound v_L55_6 12 20 fd55.an q_L55_6 (loopIn (loopsOf fd55.body) 6) (ch_L55_6.enc x)) (back ch_L55_6 co0_L55_6 fun e=>exE e (.exit 0))=stp_L55_6 x:=by kernel_rfl
theorem ok_L55_6:LoopOK PR (oneS sl_L55_6) nt55 q_L55_6 (loopIn (loopsOf fd55.body) 6) :=
  loop_one v_L55_6_ok (loops:=12) (k:=20) (an:=fd55.an) (by kernel_rfl) (FnSt.subl rfl st55.keys (aC (.inl (by kernel_rfl)) (aC (.inr (lC ok_L55_10 rfl)) aN))) ch_L55_6 co0_L55_6 (.exit 0) rfl stp_L55_6 _ run_L55_6 (fun x y h=>⟨_,h⟩) (fun _=>below_iff.1 rfl)
def l9Good (o1:Op):Option Op :=
 ob (l9_within o1.dot.device 6) fun r0 =>
 ob (l9_within o1.dot.epoch 3) fun r1 =>
 ob (l9_within o1.dot.seq 30) fun r2 =>
 ob (l9_within o1.coll 3) fun r3 =>
 ob (l9_within o1.ver 3) fun r4 =>
 ob (l9_within o1.kind 5) fun r5 =>
 ob (l9_within o1.time 50) fun r6 =>
 ob (l9_within (o1.key.size:Int) 3) fun r7 =>
 cond (decide (0≤r7))
 (cond (decide (r7 < ([s_a,s_b,s_x].length:Int)))
 (ob ([s_a,s_b,s_x][r7.toNat]?) fun e8 =>
 ob (l9_within (o1.text.size:Int) 4) fun r9 =>
 cond (decide (0≤r9))
 (cond (decide (r9 < ([s_empty,s_t,s_U_20,s__20v].length:Int)))
 (ob ([s_empty,s_t,s_U_20,s__20v][r9.toNat]?) fun e10 =>
 ob (L55_6 [] 0 (Op.mk (Entry.mk r0 (w64 (1+r1)) (w64 (1+r2))) r3 (w64 (1+r4)) (w64 (1+r5)) e8 e10 o1.n r6 o1.dots) (Op.mk (Entry.mk 0 0 0) 0 0 0 s_empty s_empty 0 0 [])) fun y11 =>
 cond (y11.2.1.kind == 4)
 (ob (l9_within y11.2.1.n 12) fun r12 =>
 cond ((w64 (r12 - 6)) == 0)
 (some (Op.mk y11.2.1.dot y11.2.1.coll y11.2.1.ver y11.2.1.kind y11.2.1.key y11.2.1.text 6 y11.2.1.time y11.1))
 (some (Op.mk y11.2.1.dot y11.2.1.coll y11.2.1.ver y11.2.1.kind y11.2.1.key y11.2.1.text (w64 (r12 - 6)) y11.2.1.time y11.1)))
 (cond (y11.2.1.kind == 5)
 (ob (l9_within y11.2.1.n 30) fun r13 =>
 some (Op.mk y11.2.1.dot y11.2.1.coll y11.2.1.ver y11.2.1.kind y11.2.1.key y11.2.1.text r13 y11.2.1.time y11.1))
 (some (Op.mk y11.2.1.dot y11.2.1.coll y11.2.1.ver y11.2.1.kind y11.2.1.key y11.2.1.text y11.2.1.n y11.2.1.time y11.1))))
 none)
 none)
 none)
 none
def un_l9Good (p:Op):Option Op:=l9Good p
def df_l9Good:DFn TL:=DFn.of (DA.one (DT.agg dc_Op)) un_l9Good (DA.one (DT.agg dc_Op))
theorem run_l9Good:DRun [(97,df_l9_within)] [(155006,sl_L55_6),(155010,sl_L55_10)] (envOf tab sl sh [(55,fd55)] [(97,.pure)]) 55 (DA.one (DT.agg dc_Op)) un_l9Good (DA.one (DT.agg dc_Op)):=fun _=>by kernel_rfl
theorem ok_l9Good:DOK PR 55 .keep df_l9Good:=dok run_l9Good (envOK_of base (aC (st55.okl rfl (aC (lC ok_L55_6 rfl) (aC (lC ok_L55_10 rfl) aN))) aN) (aC (oD ok_l9_within rfl) aN)) (.inl rfl) st55.enters
end
end Go.Proofs.YtcjpeijiaojeiaaGreat
