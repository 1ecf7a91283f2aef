/- By program (gen.py): the functions in their typed form. -/
import Derived.Test.YthhfjodcgibhfaaGreatFn
import Derived.Test.YthhfjodcgibhfaaGreatLb
namespace Go.Proofs.YthhfjodcgibhfaaGreat
open Go Go.Ev
set_option maxRecDepth 1000000
noncomputable section
abbrev cL:=List (Nat×DFn TL)
abbrev sL:=List (Nat×SFn TL)
def cZ:cL:=[]
def sZ:sL:=[]
abbrev kI:Cod (X TL) Int:=Cod.xs (Cod.sc (Cod.im (Cod.int .i64)))
abbrev kB:Cod (X TL) Bool:=Cod.xs (Cod.sc (Cod.im Cod.bool))
abbrev kD:Cod (C TL) Bool:=Cod.im Cod.bool
abbrev kE:Cod (C TL) ByteArray:=Cod.im Cod.str
abbrev kR {T:Type}(i:Nat)(e:TypeId)(j:Cod.Inj TL T):=Cod.arr i e j
abbrev kA (i:Nat):Cod (C TL) Unit:=Cod.ar i
abbrev kO {α β γ:Type}(c:Cod α β)(f:β→γ)(g:γ→β)(h:∀ b,g (f b)=b):=Cod.iso c f g h
abbrev kS {β γ:Type}(n:Nat)(a:Cod (List (X TL)) β)(b:Cod (List (Nat×En TL)) γ):=Cod.cst n a b
abbrev kT:=Cod (Cst TL)
abbrev kF {T:Type}(j:Cod.Inj TL T):Cod (X TL) T:=Cod.xs (Cod.sc (Cod.im (Cod.fz j)))
abbrev kG {T:Type}(j:Cod.Inj TL T):Cod (C TL) T:=Cod.im (Cod.fz j)
abbrev kP (a b:Nat):Cod (X TL) Unit:=Cod.xs (Cod.sc (Cod.ptr a b))
abbrev kJ:Cod (C TL) Int:=Cod.im (Cod.int .i64)
abbrev kC {α β γ:Type}(c:Cod α β)(d:Cod (List α) γ):=Cod.cons c d
abbrev kN {α:Type}:Cod (List α) Unit:=Cod.nil
abbrev dI:DT TL Int:=DT.one (DI.int .i64)
abbrev dB:DT TL Bool:=DT.one DI.bool
def DRun (cs:cL)(ss:sL)(E:Env)(f:FuncId){X Y:Type}(a:DA TL X)(u:X→Option Y)(r:DA TL Y):Prop:=∀ x,Out.run (mkO cs ss) (evOrc E 12 20 f (a.enc x)) r.dec=u x
theorem dok {P:Program}{cs:cL}{ss:sL}{E:Env}{f:FuncId}{kd:OrcKind}{X Y:Type}{a:DA TL X}{u:X→Option Y}{r:DA TL Y}(h:DRun cs ss E f a u r)(hE:EnvOK P (mkD cs ss) E)(hk:kd=.keep∨kd=.pure)(hen:Enters P f):DOK P f kd (DFn.of a u r):=data_of hE hk hen a u r h
theorem lC {P:Program}{nt:Nat}{q:LoopA}{b:Code}{d:SFn TL}{cs:cL}{ss:sL}(h:LoopOK P (oneS d) nt q b)(hd:lookU ss q.sid=some d):LoopOK P (mkD cs ss) nt q b:=LoopOK.cast h hd
theorem oD {P:Program}{cs:cL}{ss:sL}{f:Nat}{k:OrcKind}{d:DFn TL}(h:DOK P f k d)(hd:lookU cs f=some d):OGood P cs ss (f,k):=okD hd h
theorem aN {α:Type}{p:α→Prop}:∀ x∈([]:List α),p x:=all_nil
theorem aC {α:Type}{p:α→Prop}{a:α}{l:List α}(h:p a)(t:∀ x∈l,p x):∀ x∈a::l,p x:=all_cons h t
abbrev PR:=Tryz.prog
def cmpInt (i1:Int)(i2:Int):Option Int :=
 cond (i1 != i1)
 (cond (i2 != i2)
 (some 0)
 (some (-1)))
 (cond (i2 != i2)
 (some 1)
 (cond (decide (i1 < i2))
 (some (-1))
 (cond (decide (i1 > i2))
 (some 1)
 (some 0))))
def un_cmpInt (p:Int×Int):Option Int:=cmpInt p.1 p.2
def df_cmpInt:DFn TL:=DFn.of (DA.cons dI (DA.one dI)) un_cmpInt (DA.one dI)
theorem run_cmpInt:DRun [] [] (envOf tab sl sh [(118,fd118),(144,fd144)] []) 118 (DA.cons dI (DA.one dI)) un_cmpInt (DA.one dI):=fun _=>by kernel_rfl
theorem ok_cmpInt:DOK PR 118 .pure df_cmpInt:=dok run_cmpInt (envOK_of base (aC (st118.okl rfl aN) (aC (st144.okl rfl aN) aN)) aN) (.inr rfl) st118.enters
def cmpStr (s1:ByteArray)(s2:ByteArray):Option Int :=
 cond (!sEq s1 s1)
 (cond (!sEq s2 s2)
 (some 0)
 (some (-1)))
 (cond (!sEq s2 s2)
 (some 1)
 (cond (sLt s1 s2)
 (some (-1))
 (cond (!(sLt s1 s2 || sEq s1 s2))
 (some 1)
 (some 0))))
def un_cmpStr (p:ByteArray×ByteArray):Option Int:=cmpStr p.1 p.2
def df_cmpStr:DFn TL:=DFn.of (DA.cons (DT.one DI.str) (DA.one (DT.one DI.str))) un_cmpStr (DA.one dI)
theorem run_cmpStr:DRun [] [] (envOf tab sl sh [(94,fd94),(121,fd121)] []) 94 (DA.cons (DT.one DI.str) (DA.one (DT.one DI.str))) un_cmpStr (DA.one dI):=fun _=>by kernel_rfl
theorem ok_cmpStr:DOK PR 94 .pure df_cmpStr:=dok run_cmpStr (envOK_of base (aC (st94.okl rfl aN) (aC (st121.okl rfl aN) aN)) aN) (.inr rfl) st94.enters
abbrev tY0:=Int×Int×(List Int)×Int×Int
def step_L93_3 (i1:Int)(i2:Int)(l1:List Int)(i3:Int)(i4:Int):Option ((tY0)⊕(((Int×Int)⊕(Int×Int)))) :=
 cond (decide (i4 < i3))
 (cond (decide (0≤i4))
 (ob (l1[i4.toNat]?) fun e0 =>
 cond (e0 != i2)
 (some (.inr (.inr (e0,i2))))
 (some (.inl (i1,i2,l1,i3,(w64 (i4+1))))))
 none)
 (some (.inr (.inl (i1,i2))))
def stp_L93_3 (p:tY0):Option ((tY0)⊕(((Int×Int)⊕(Int×Int)))):=step_L93_3 p.1 p.2.1 p.2.2.1 p.2.2.2.1 p.2.2.2.2
def L93_3 (i1:Int)(i2:Int)(l1:List Int)(i3:Int)(i4:Int):Option (((Int×Int)⊕(Int×Int))):=iterO stp_L93_3 ((i3 - i4).toNat+2) (i1,i2,l1,i3,i4)
def ch_L93_3:kT (tY0):=kO (kS 0 (kC kI (kC kI (kC (kF j_lInt) (kC kI (kC kI kN))))) kN) (fun ((z0,z1,z2,z3,z4,_),_)=>(z0,z1,z2,z3,z4)) (fun (x:tY0)=>((x.1,(x.2.1,(x.2.2.1,(x.2.2.2.1,(x.2.2.2.2,()))))),())) (fun _=>rfl)
def co0_L93_3:kT (Int×Int):=kO (kS 0 (kC kI (kC kI kN)) kN) (fun p=>(p.1.1,p.1.2.1)) (fun (x:Int×Int)=>((x.1,(x.2,())),())) (fun _=>rfl)
def sl_L93_3:SFn TL:=SFn.two ch_L93_3.dec (fun p=>L93_3 p.1 p.2.1 p.2.2.1 p.2.2.2.1 p.2.2.2.2) (.exit 0) .ret co0_L93_3.enc co0_L93_3.enc
def v_L93_3:Env:=envOf tab sl sh [] []
theorem v_L93_3_ok:EnvOK PR (mkD cZ sZ) v_L93_3:=envOK_of base aN aN
theorem run_L93_3 (x:tY0):Out.run (mkO cZ sZ) (evRound v_L93_3 12 20 fd93.an q_L93_3 (loopIn (loopsOf fd93.body) 3) (ch_L93_3.enc x)) (back2 ch_L93_3 co0_L93_3 co0_L93_3 (.exit 0) .ret)=stp_L93_3 x:=by kernel_rfl
theorem ok_L93_3:LoopOK PR (oneS sl_L93_3) nt93 q_L93_3 (loopIn (loopsOf fd93.body) 3) :=
  loop_two v_L93_3_ok (loops:=12) (k:=20) (an:=fd93.an) (by kernel_rfl) (FnSt.subl rfl st93.keys (aC (.inl (by kernel_rfl)) aN)) ch_L93_3 co0_L93_3 co0_L93_3 (.exit 0) .ret rfl rfl stp_L93_3 _ run_L93_3 (fun x y h=>⟨_,h⟩) (fun _=>below_iff.1 rfl)
def cmpOr (l1:List Int):Option Int :=
 ob (L93_3 0 0 l1 (l1.length:Int) 0) fun y0 =>
 two y0 (fun a1 =>
 some a1.2) (fun b2 =>
 some b2.1)
def un_cmpOr (p:(List Int)):Option Int:=cmpOr p
def df_cmpOr:DFn TL:=DFn.of (DA.one (DT.one di_lInt)) un_cmpOr (DA.one dI)
theorem run_cmpOr:DRun [] [(193003,sl_L93_3)] (envOf tab sl sh [(93,fd93)] []) 93 (DA.one (DT.one di_lInt)) un_cmpOr (DA.one dI):=fun _=>by kernel_rfl
theorem ok_cmpOr:DOK PR 93 .pure df_cmpOr:=dok run_cmpOr (envOK_of base (aC (st93.okl rfl (aC (lC ok_L93_3 rfl) aN)) aN) aN) (.inr rfl) st93.enters
def lessInt (i1:Int)(i2:Int):Option Bool :=
 some (cond (i1 != i1) (cond (!(i2 != i2)) true (decide (i1 < i2))) (decide (i1 < i2)))
def un_lessInt (p:Int×Int):Option Bool:=lessInt p.1 p.2
def df_lessInt:DFn TL:=DFn.of (DA.cons dI (DA.one dI)) un_lessInt (DA.one dB)
theorem run_lessInt:DRun [] [] (envOf tab sl sh [(136,fd136),(144,fd144)] []) 136 (DA.cons dI (DA.one dI)) un_lessInt (DA.one dB):=fun _=>by kernel_rfl
theorem ok_lessInt:DOK PR 136 .pure df_lessInt:=dok run_lessInt (envOK_of base (aC (st136.okl rfl aN) (aC (st144.okl rfl aN) aN)) aN) (.inr rfl) st136.enters
def isNaNInt (i1:Int):Option Bool :=
 some (i1 != i1)
def un_isNaNInt (p:Int):Option Bool:=isNaNInt p
def df_isNaNInt:DFn TL:=DFn.of (DA.one dI) un_isNaNInt (DA.one dB)
theorem run_isNaNInt:DRun [] [] (envOf tab sl sh [(137,fd137)] []) 137 (DA.one dI) un_isNaNInt (DA.one dB):=fun _=>by kernel_rfl
theorem ok_isNaNInt:DOK PR 137 .pure df_isNaNInt:=dok run_isNaNInt (envOK_of base (aC (st137.okl rfl aN) aN) aN) (.inr rfl) st137.enters
def opsWithin (i1:Int)(i2:Int)(i3:Int):Option Bool :=
 some (cond (decide (i1≥i2)) (decide (i1≤i3)) false)
def un_opsWithin (p:Int×Int×Int):Option Bool:=opsWithin p.1 p.2.1 p.2.2
def df_opsWithin:DFn TL:=DFn.of (DA.cons dI (DA.cons dI (DA.one dI))) un_opsWithin (DA.one dB)
theorem run_opsWithin:DRun [] [] (envOf tab sl sh [(72,fd72)] []) 72 (DA.cons dI (DA.cons dI (DA.one dI))) un_opsWithin (DA.one dB):=fun _=>by kernel_rfl
theorem ok_opsWithin:DOK PR 72 .pure df_opsWithin:=dok run_opsWithin (envOK_of base (aC (st72.okl rfl aN) aN) aN) (.inr rfl) st72.enters
abbrev tY1:=ByteArray×Bool×Int×Int
def step_L73_2 (s1:ByteArray)(b1:Bool)(i1:Int)(i2:Int):Option ((tY1)⊕(((ByteArray×Bool)⊕(ByteArray×Bool)))) :=
 cond (decide (i2 < i1))
 (cond (decide (0≤i2))
 (cond (decide (i2 < (s1.size:Int)))
 (cond (decide (((s1[(i2:Int).toNat]?.getD 0).toNat:Int) < 32))
 (some (.inr (.inr (s1,false))))
 (cond (decide (0≤i2))
 (cond (decide (i2 < (s1.size:Int)))
 (cond (((s1[(i2:Int).toNat]?.getD 0).toNat:Int) == 127)
 (some (.inr (.inr (s1,false))))
 (some (.inl (s1,b1,i1,(w64 (i2+1))))))
 none)
 none))
 none)
 none)
 (some (.inr (.inl (s1,b1))))
def stp_L73_2 (p:tY1):Option ((tY1)⊕(((ByteArray×Bool)⊕(ByteArray×Bool)))):=step_L73_2 p.1 p.2.1 p.2.2.1 p.2.2.2
def L73_2 (s1:ByteArray)(b1:Bool)(i1:Int)(i2:Int):Option (((ByteArray×Bool)⊕(ByteArray×Bool))):=iterO stp_L73_2 ((i1 - i2).toNat+2) (s1,b1,i1,i2)
def ch_L73_2:kT (tY1):=kO (kS 0 (kC (Cod.xs (Cod.sc kE)) (kC kB (kC kI (kC kI kN)))) kN) (fun ((z0,z1,z2,z3,_),_)=>(z0,z1,z2,z3)) (fun (x:tY1)=>((x.1,(x.2.1,(x.2.2.1,(x.2.2.2,())))),())) (fun _=>rfl)
def co0_L73_2:kT (ByteArray×Bool):=kO (kS 0 (kC (Cod.xs (Cod.sc kE)) (kC kB kN)) kN) (fun p=>(p.1.1,p.1.2.1)) (fun (x:ByteArray×Bool)=>((x.1,(x.2,())),())) (fun _=>rfl)
def sl_L73_2:SFn TL:=SFn.two ch_L73_2.dec (fun p=>L73_2 p.1 p.2.1 p.2.2.1 p.2.2.2) (.exit 0) .ret co0_L73_2.enc co0_L73_2.enc
def v_L73_2:Env:=envOf tab sl sh [] []
theorem v_L73_2_ok:EnvOK PR (mkD cZ sZ) v_L73_2:=envOK_of base aN aN
theorem run_L73_2 (x:tY1):Out.run (mkO cZ sZ) (evRound v_L73_2 12 20 fd73.an q_L73_2 (loopIn (loopsOf fd73.body) 2) (ch_L73_2.enc x)) (back2 ch_L73_2 co0_L73_2 co0_L73_2 (.exit 0) .ret)=stp_L73_2 x:=by kernel_rfl
theorem ok_L73_2:LoopOK PR (oneS sl_L73_2) nt73 q_L73_2 (loopIn (loopsOf fd73.body) 2) :=
  loop_two v_L73_2_ok (loops:=12) (k:=20) (an:=fd73.an) (by kernel_rfl) (FnSt.subl rfl st73.keys (aC (.inl (by kernel_rfl)) aN)) ch_L73_2 co0_L73_2 co0_L73_2 (.exit 0) .ret rfl rfl stp_L73_2 _ run_L73_2 (fun x y h=>⟨_,h⟩) (fun _=>below_iff.1 rfl)
def opsText (s1:ByteArray):Option Bool :=
 ob (L73_2 s1 false (s1.size:Int) 0) fun y0 =>
 two y0 (fun a1 =>
 some (decide ((a1.1.size:Int)≤40))) (fun b2 =>
 some b2.2)
def un_opsText (p:ByteArray):Option Bool:=opsText p
def df_opsText:DFn TL:=DFn.of (DA.one (DT.one DI.str)) un_opsText (DA.one dB)
theorem run_opsText:DRun [] [(173002,sl_L73_2)] (envOf tab sl sh [(73,fd73)] []) 73 (DA.one (DT.one DI.str)) un_opsText (DA.one dB):=fun _=>by kernel_rfl
theorem ok_opsText:DOK PR 73 .pure df_opsText:=dok run_opsText (envOK_of base (aC (st73.okl rfl (aC (lC ok_L73_2 rfl) aN)) aN) aN) (.inr rfl) st73.enters
def step_L69_2 (s1:ByteArray)(b1:Bool)(i1:Int)(i2:Int):Option ((tY1)⊕(((ByteArray×Bool)⊕(ByteArray×Bool)))) :=
 cond (decide (i2 < i1))
 (cond (decide (0≤i2))
 (cond (decide (i2 < (s1.size:Int)))
 (cond (decide (((s1[(i2:Int).toNat]?.getD 0).toNat:Int) < 32))
 (some (.inr (.inr (s1,false))))
 (cond (decide (0≤i2))
 (cond (decide (i2 < (s1.size:Int)))
 (cond (((s1[(i2:Int).toNat]?.getD 0).toNat:Int) == 127)
 (some (.inr (.inr (s1,false))))
 (some (.inl (s1,b1,i1,(w64 (i2+1))))))
 none)
 none))
 none)
 none)
 (some (.inr (.inl (s1,b1))))
def stp_L69_2 (p:tY1):Option ((tY1)⊕(((ByteArray×Bool)⊕(ByteArray×Bool)))):=step_L69_2 p.1 p.2.1 p.2.2.1 p.2.2.2
def L69_2 (s1:ByteArray)(b1:Bool)(i1:Int)(i2:Int):Option (((ByteArray×Bool)⊕(ByteArray×Bool))):=iterO stp_L69_2 ((i1 - i2).toNat+2) (s1,b1,i1,i2)
def sl_L69_2:SFn TL:=SFn.two ch_L73_2.dec (fun p=>L69_2 p.1 p.2.1 p.2.2.1 p.2.2.2) (.exit 0) .ret co0_L73_2.enc co0_L73_2.enc
def v_L69_2:Env:=envOf tab sl sh [] []
theorem v_L69_2_ok:EnvOK PR (mkD cZ sZ) v_L69_2:=envOK_of base aN aN
theorem run_L69_2 (x:tY1):Out.run (mkO cZ sZ) (evRound v_L69_2 12 20 fd69.an q_L69_2 (loopIn (loopsOf fd69.body) 2) (ch_L73_2.enc x)) (back2 ch_L73_2 co0_L73_2 co0_L73_2 (.exit 0) .ret)=stp_L69_2 x:=by kernel_rfl
theorem ok_L69_2:LoopOK PR (oneS sl_L69_2) nt69 q_L69_2 (loopIn (loopsOf fd69.body) 2) :=
  loop_two v_L69_2_ok (loops:=12) (k:=20) (an:=fd69.an) (by kernel_rfl) (FnSt.subl rfl st69.keys (aC (.inl (by kernel_rfl)) aN)) ch_L73_2 co0_L73_2 co0_L73_2 (.exit 0) .ret rfl rfl stp_L69_2 _ run_L69_2 (fun x y h=>⟨_,h⟩) (fun _=>below_iff.1 rfl)
def localText (s1:ByteArray):Option Bool :=
 ob (L69_2 s1 false (s1.size:Int) 0) fun y0 =>
 two y0 (fun a1 =>
 some (decide ((a1.1.size:Int)≤40))) (fun b2 =>
 some b2.2)
def un_localText (p:ByteArray):Option Bool:=localText p
def df_localText:DFn TL:=DFn.of (DA.one (DT.one DI.str)) un_localText (DA.one dB)
theorem run_localText:DRun [] [(169002,sl_L69_2)] (envOf tab sl sh [(69,fd69)] []) 69 (DA.one (DT.one DI.str)) un_localText (DA.one dB):=fun _=>by kernel_rfl
theorem ok_localText:DOK PR 69 .pure df_localText:=dok run_localText (envOK_of base (aC (st69.okl rfl (aC (lC ok_L69_2 rfl) aN)) aN) aN) (.inr rfl) st69.enters
def before (d1:Dot)(d2:Dot):Option Int :=
 ob (cmpInt d1.device d2.device) fun r0 =>
 ob (cmpInt d1.epoch d2.epoch) fun r1 =>
 ob (cmpInt d1.seq d2.seq) fun r2 =>
 ob (cmpOr [r0,r1,r2]) fun r3 =>
 some r3
def un_before (p:Dot×Dot):Option Int:=before p.1 p.2
def df_before:DFn TL:=DFn.of (DA.cons (DT.agg dc_Dot) (DA.one (DT.agg dc_Dot))) un_before (DA.one dI)
theorem run_before:DRun [(118,df_cmpInt),(93,df_cmpOr)] [] (envOf tab sl sh [(135,fd135)] [(118,.pure),(93,.pure)]) 135 (DA.cons (DT.agg dc_Dot) (DA.one (DT.agg dc_Dot))) un_before (DA.one dI):=fun _=>by kernel_rfl
theorem ok_before:DOK PR 135 .pure df_before:=dok run_before (envOK_of base (aC (st135.okl rfl aN) aN) (aC (oD ok_cmpInt rfl) (aC (oD ok_cmpOr rfl) aN))) (.inr rfl) st135.enters
abbrev tY2:=(List Dot)×Int×Int×Int
def step_L104_4 (l1:List Dot)(i1:Int)(i2:Int)(i3:Int):Option ((tY2)⊕(((Int)⊕(Int)))) :=
 cond (decide (i3 < i2))
 (cond (decide (i3 > 0))
 (cond (decide (0≤(w64 (i3 - 1))))
 (ob (l1[((w64 (i3 - 1))).toNat]?) fun e0 =>
 cond (decide (0≤i3))
 (ob (l1[i3.toNat]?) fun e1 =>
 ob (before e0 e1) fun r2 =>
 cond (decide (r2≥0))
 (some (.inr (.inr 10)))
 (some (.inl (l1,i1,i2,(w64 (i3+1))))))
 none)
 none)
 (some (.inl (l1,i1,i2,(w64 (i3+1))))))
 (some (.inr (.inl i1)))
def stp_L104_4 (p:tY2):Option ((tY2)⊕(((Int)⊕(Int)))):=step_L104_4 p.1 p.2.1 p.2.2.1 p.2.2.2
def L104_4 (l1:List Dot)(i1:Int)(i2:Int)(i3:Int):Option (((Int)⊕(Int))):=iterO stp_L104_4 ((i2 - i3).toNat+2) (l1,i1,i2,i3)
def ch_L104_4:kT (tY2):=kO (kS 0 (kC (kF j_lDot) (kC kI (kC kI (kC kI kN)))) kN) (fun ((z0,z1,z2,z3,_),_)=>(z0,z1,z2,z3)) (fun (x:tY2)=>((x.1,(x.2.1,(x.2.2.1,(x.2.2.2,())))),())) (fun _=>rfl)
def co0_L104_4:kT (Int):=kO (kS 0 (kC kI kN) kN) (fun p=>p.1.1) (fun (x:Int)=>((x,()),())) (fun _=>rfl)
def sl_L104_4:SFn TL:=SFn.two ch_L104_4.dec (fun p=>L104_4 p.1 p.2.1 p.2.2.1 p.2.2.2) (.exit 0) .ret co0_L104_4.enc co0_L104_4.enc
def cs_lL104_4:cL:=[(135,df_before)]
def v_L104_4:Env:=envOf tab sl sh [] [(135,.pure)]
theorem v_L104_4_ok:EnvOK PR (mkD cs_lL104_4 sZ) v_L104_4:=envOK_of base aN (aC (oD ok_before rfl) aN)
theorem run_L104_4 (x:tY2):Out.run (mkO cs_lL104_4 sZ) (evRound v_L104_4 12 20 fd104.an q_L104_4 (loopIn (loopsOf fd104.body) 4) (ch_L104_4.enc x)) (back2 ch_L104_4 co0_L104_4 co0_L104_4 (.exit 0) .ret)=stp_L104_4 x:=by kernel_rfl
theorem ok_L104_4:LoopOK PR (oneS sl_L104_4) nt104 q_L104_4 (loopIn (loopsOf fd104.body) 4) :=
  loop_two v_L104_4_ok (loops:=12) (k:=20) (an:=fd104.an) (by kernel_rfl) (FnSt.subl rfl st104.keys (aC (.inl (by kernel_rfl)) aN)) ch_L104_4 co0_L104_4 co0_L104_4 (.exit 0) .ret rfl rfl stp_L104_4 _ run_L104_4 (fun x y h=>⟨_,h⟩) (fun _=>below_iff.1 rfl)
def opsDots (l1:List Dot):Option Int :=
 cond (decide ((l1.length:Int) > 8))
 (some 4)
 (ob (L104_4 l1 0 (l1.length:Int) 0) fun y0 =>
 two y0 (fun _ =>
 some 0) (fun b2 =>
 some b2))
def un_opsDots (p:(List Dot)):Option Int:=opsDots p
def df_opsDots:DFn TL:=DFn.of (DA.one (DT.one di_lDot)) un_opsDots (DA.one dI)
theorem run_opsDots:DRun [] [(204004,sl_L104_4)] (envOf tab sl sh [(104,fd104)] []) 104 (DA.one (DT.one di_lDot)) un_opsDots (DA.one dI):=fun _=>by kernel_rfl
theorem ok_opsDots:DOK PR 104 .pure df_opsDots:=dok run_opsDots (envOK_of base (aC (st104.okl rfl (aC (lC ok_L104_4 rfl) aN)) aN) aN) (.inr rfl) st104.enters
def opsKind (o1:Op):Option Int :=
 cond (o1.kind == 3)
 (cond (!sEq o1.key s_empty)
 (ob (opsDots o1.dots) fun r0 =>
 some r0)
 (cond (sEq o1.key s_empty)
 (some 1)
 (some 0)))
 (cond (cond (o1.kind == 1) (o1.kind == 1) (o1.kind == 2))
 (cond (sEq o1.key s_empty)
 (some 1)
 (some 0))
 (cond (o1.kind == 4)
 (cond (sEq o1.key s_empty)
 (some 1)
 (cond (o1.n == 0)
 (some 11)
 (ob (opsWithin o1.n (-1099511627776) 1099511627776) fun r1 =>
 cond (!r1)
 (some 11)
 (some 0))))
 (cond (o1.kind == 5)
 (ob (opsWithin o1.n 0 999) fun r2 =>
 cond (!r2)
 (some 11)
 (some 0))
 (some 0))))
def un_opsKind (p:Op):Option Int:=opsKind p
def df_opsKind:DFn TL:=DFn.of (DA.one (DT.agg dc_Op)) un_opsKind (DA.one dI)
theorem run_opsKind:DRun [(104,df_opsDots),(72,df_opsWithin)] [] (envOf tab sl sh [(74,fd74)] [(104,.pure),(72,.pure)]) 74 (DA.one (DT.agg dc_Op)) un_opsKind (DA.one dI):=fun _=>by kernel_rfl
theorem ok_opsKind:DOK PR 74 .pure df_opsKind:=dok run_opsKind (envOK_of base (aC (st74.okl rfl aN) aN) (aC (oD ok_opsDots rfl) (aC (oD ok_opsWithin rfl) aN))) (.inr rfl) st74.enters
def opsCheck (o1:Op):Option Int :=
 ob (opsWithin o1.dot.device 0 5) fun r0 =>
 cond (!r0)
 (some 1)
 (ob (opsWithin o1.dot.epoch 1 1073741824) fun r1 =>
 cond (!r1)
 (some 1)
 (ob (opsWithin o1.dot.seq 1 1073741824) fun r2 =>
 cond (!r2)
 (some 1)
 (ob (opsWithin o1.coll 0 2) fun r3 =>
 cond (!r3)
 (some 1)
 (ob (opsWithin o1.ver 1 3) fun r4 =>
 cond (!r4)
 (some 1)
 (ob (opsWithin o1.time 0 1099511627776) fun r5 =>
 cond (!r5)
 (some 1)
 (ob (opsWithin o1.kind 1 5) fun r6 =>
 cond (!r6)
 (some 3)
 (ob (opsText o1.key) fun r7 =>
 cond (!r7)
 (some 5)
 (ob (opsText o1.text) fun r8 =>
 cond (!r8)
 (some 5)
 (ob (opsKind o1) fun r9 =>
 some r9)))))))))
def un_opsCheck (p:Op):Option Int:=opsCheck p
def df_opsCheck:DFn TL:=DFn.of (DA.one (DT.agg dc_Op)) un_opsCheck (DA.one dI)
theorem run_opsCheck:DRun [(72,df_opsWithin),(73,df_opsText),(74,df_opsKind)] [] (envOf tab sl sh [(42,fd42)] [(72,.pure),(73,.pure),(74,.pure)]) 42 (DA.one (DT.agg dc_Op)) un_opsCheck (DA.one dI):=fun _=>by kernel_rfl
theorem ok_opsCheck:DOK PR 42 .pure df_opsCheck:=dok run_opsCheck (envOK_of base (aC (st42.okl rfl aN) aN) (aC (oD ok_opsWithin rfl) (aC (oD ok_opsText rfl) (aC (oD ok_opsKind rfl) aN)))) (.inr rfl) st42.enters
def pairCompare (px1:Pair)(px2:Pair):Option Int :=
 ob (cmpInt px1.device px2.device) fun r0 =>
 ob (cmpInt px1.epoch px2.epoch) fun r1 =>
 ob (cmpOr [r0,r1]) fun r2 =>
 some r2
def un_pairCompare (p:Pair×Pair):Option Int:=pairCompare p.1 p.2
def df_pairCompare:DFn TL:=DFn.of (DA.cons (DT.agg dc_Pair) (DA.one (DT.agg dc_Pair))) un_pairCompare (DA.one dI)
theorem run_pairCompare:DRun [(118,df_cmpInt),(93,df_cmpOr)] [] (envOf tab sl sh [(142,fd142)] [(118,.pure),(93,.pure)]) 142 (DA.cons (DT.agg dc_Pair) (DA.one (DT.agg dc_Pair))) un_pairCompare (DA.one dI):=fun _=>by kernel_rfl
theorem ok_pairCompare:DOK PR 142 .pure df_pairCompare:=dok run_pairCompare (envOK_of base (aC (st142.okl rfl aN) aN) (aC (oD ok_cmpInt rfl) (aC (oD ok_cmpOr rfl) aN))) (.inr rfl) st142.enters
def step_L140_2 (l1:List Dot)(i1:Int)(px1:Pair):Option (((List Dot)×Int×Pair)⊕((List Dot)×Int×Pair)) :=
 cond (decide (i1 < (l1.length:Int)))
 (cond (decide (0≤i1))
 (ob (l1[i1.toNat]?) fun e0 =>
 ob (pairCompare (Pair.mk e0.device e0.epoch) px1) fun r1 =>
 cond (decide (r1 < 0))
 (some (.inl (l1,(w64 (i1+1)),px1)))
 (some (.inr (l1,i1,px1))))
 none)
 (some (.inr (l1,i1,px1)))
def stp_L140_2 (p:(List Dot)×Int×Pair):Option (((List Dot)×Int×Pair)⊕((List Dot)×Int×Pair)):=step_L140_2 p.1 p.2.1 p.2.2
def L140_2 (l1:List Dot)(i1:Int)(px1:Pair):Option ((List Dot)×Int×Pair):=iterO stp_L140_2 (((l1.length:Int) - i1).toNat+2) (l1,i1,px1)
def ch_L140_2:kT ((List Dot)×Int×Pair):=kO (kS 1 (kC (kF j_lDot) (kC (Cod.xs (Cod.sc (Cod.clo 141 [] [(0,0)]))) (kC kI kN))) (kC (Cod.var 0 170 (kC kJ (kC kJ kN))) kN)) (fun p=>(p.1.1,p.1.2.2.1,(Pair.mk p.2.1.1 p.2.1.2.1))) (fun (x:(List Dot)×Int×Pair)=>((x.1,((),(x.2.1,()))),((x.2.2.device,(x.2.2.epoch,())),()))) (fun _=>rfl)
def co0_L140_2:kT ((List Dot)×Int×Pair):=kO (kS 2 (kC (kF j_lDot) (kC (Cod.xs (Cod.sc (Cod.clo 141 [] [(0,0)]))) (kC kI kN))) (kC (Cod.var 0 170 (kC kJ (kC kJ kN))) kN)) (fun p=>(p.1.1,p.1.2.2.1,(Pair.mk p.2.1.1 p.2.1.2.1))) (fun (x:(List Dot)×Int×Pair)=>((x.1,((),(x.2.1,()))),((x.2.2.device,(x.2.2.epoch,())),()))) (fun _=>rfl)
def sl_L140_2:SFn TL:=SFn.one ch_L140_2.dec (fun p=>L140_2 p.1 p.2.1 p.2.2) (.exit 0) co0_L140_2.enc
def cs_lL140_2:cL:=[(142,df_pairCompare)]
def v_L140_2:Env:=envOf tab sl sh [(141,fd141),(113,fd113)] [(142,.pure)]
theorem v_L140_2_ok:EnvOK PR (mkD cs_lL140_2 sZ) v_L140_2:=envOK_of base (aC (st141.okl rfl aN) (aC (st113.okl rfl aN) aN)) (aC (oD ok_pairCompare rfl) aN)
theorem run_L140_2 (x:(List Dot)×Int×Pair):Out.run (mkO cs_lL140_2 sZ) (evRound v_L140_2 12 20 fd140.an q_L140_2 (loopIn (loopsOf fd140.body) 2) (ch_L140_2.enc x)) (back ch_L140_2 co0_L140_2 fun e=>exE e (.exit 0))=stp_L140_2 x:=by kernel_rfl
theorem ok_L140_2:LoopOK PR (oneS sl_L140_2) nt140 q_L140_2 (loopIn (loopsOf fd140.body) 2) :=
  loop_one v_L140_2_ok (loops:=12) (k:=20) (an:=fd140.an) (by kernel_rfl) (FnSt.subl rfl st140.keys (aC (.inl (by kernel_rfl)) aN)) ch_L140_2 co0_L140_2 (.exit 0) rfl stp_L140_2 _ run_L140_2 (fun x y h=>⟨_,h⟩) (fun _=>below_iff.1 rfl)
def vectorGet (l1:List Dot)(i1:Int)(i2:Int):Option Int :=
 ob (L140_2 l1 0 (Pair.mk i1 i2)) fun y0 =>
 cond (decide (y0.2.1 < (y0.1.length:Int)))
 (cond (decide (0≤y0.2.1))
 (ob (y0.1[y0.2.1.toNat]?) fun e1 =>
 ob (pairCompare (Pair.mk e1.device e1.epoch) y0.2.2) fun r2 =>
 cond (!(r2 == 0))
 (some 0)
 (cond (decide (0≤y0.2.1))
 (ob (l1[y0.2.1.toNat]?) fun e3 =>
 some e3.seq)
 none))
 none)
 (some 0)
def un_vectorGet (p:(List Dot)×Int×Int):Option Int:=vectorGet p.1 p.2.1 p.2.2
def df_vectorGet:DFn TL:=DFn.of (DA.cons (DT.one di_lDot) (DA.cons dI (DA.one dI))) un_vectorGet (DA.one dI)
theorem run_vectorGet:DRun [(142,df_pairCompare)] [(240002,sl_L140_2)] (envOf tab sl sh [(111,fd111),(112,fd112),(140,fd140),(141,fd141),(113,fd113)] [(142,.pure)]) 111 (DA.cons (DT.one di_lDot) (DA.cons dI (DA.one dI))) un_vectorGet (DA.one dI):=fun _=>by kernel_rfl
theorem ok_vectorGet:DOK PR 111 .pure df_vectorGet:=dok run_vectorGet (envOK_of base (aC (st111.okl rfl aN) (aC (st112.okl rfl aN) (aC (st140.okl rfl (aC (lC ok_L140_2 rfl) aN)) (aC (st141.okl rfl aN) (aC (st113.okl rfl aN) aN))))) (aC (oD ok_pairCompare rfl) aN)) (.inr rfl) st111.enters
def vectorHas (l1:List Dot)(d1:Dot):Option Bool :=
 cond (decide (d1.seq≥1))
 (ob (vectorGet l1 d1.device d1.epoch) fun r0 =>
 some (decide (d1.seq≤r0)))
 (some false)
def un_vectorHas (p:(List Dot)×Dot):Option Bool:=vectorHas p.1 p.2
def df_vectorHas:DFn TL:=DFn.of (DA.cons (DT.one di_lDot) (DA.one (DT.agg dc_Dot))) un_vectorHas (DA.one dB)
theorem run_vectorHas:DRun [(111,df_vectorGet)] [] (envOf tab sl sh [(85,fd85)] [(111,.pure)]) 85 (DA.cons (DT.one di_lDot) (DA.one (DT.agg dc_Dot))) un_vectorHas (DA.one dB):=fun _=>by kernel_rfl
theorem ok_vectorHas:DOK PR 85 .pure df_vectorHas:=dok run_vectorHas (envOK_of base (aC (st85.okl rfl aN) aN) (aC (oD ok_vectorGet rfl) aN)) (.inr rfl) st85.enters
def step_L140b_2 (l1:List Dot)(i1:Int)(px1:Pair):Option (((List Dot)×Int×Pair)⊕((List Dot)×Int×Pair)) :=
 cond (decide (i1 < (l1.length:Int)))
 (cond (decide (0≤i1))
 (cond (decide (i1 < (l1.length:Int)))
 (ob (l1[i1.toNat]?) fun e0 =>
 ob (pairCompare (Pair.mk e0.device e0.epoch) px1) fun r1 =>
 cond (decide (r1 < 0))
 (some (.inl (l1,(w64 (i1+1)),px1)))
 (some (.inr (l1,i1,px1))))
 none)
 none)
 (some (.inr (l1,i1,px1)))
def stp_L140b_2 (p:(List Dot)×Int×Pair):Option (((List Dot)×Int×Pair)⊕((List Dot)×Int×Pair)):=step_L140b_2 p.1 p.2.1 p.2.2
def L140b_2 (l1:List Dot)(i1:Int)(px1:Pair):Option ((List Dot)×Int×Pair):=iterO stp_L140b_2 (((l1.length:Int) - i1).toNat+2) (l1,i1,px1)
def ch_L140b_2:kT ((List Dot)×Int×Pair):=kO (kS 2 (kC (Cod.xs (Cod.sc (kA 0))) (kC (Cod.xs (Cod.sc (Cod.clo 141 [] [(1,0)]))) (kC kI kN))) (kC (kR 0 112 j_lDot) (kC (Cod.var 1 170 (kC kJ (kC kJ kN))) kN))) (fun p=>(p.2.1,p.1.2.2.1,(Pair.mk p.2.2.1.1 p.2.2.1.2.1))) (fun (x:(List Dot)×Int×Pair)=>(((),((),(x.2.1,()))),(x.1,((x.2.2.device,(x.2.2.epoch,())),())))) (fun _=>rfl)
def co0_L140b_2:kT ((List Dot)×Int×Pair):=kO (kS 4 (kC (Cod.xs (Cod.sc (kA 0))) (kC (Cod.xs (Cod.sc (Cod.clo 141 [] [(1,0)]))) (kC kI kN))) (kC (kR 0 112 j_lDot) (kC (Cod.var 1 170 (kC kJ (kC kJ kN))) kN))) (fun p=>(p.2.1,p.1.2.2.1,(Pair.mk p.2.2.1.1 p.2.2.1.2.1))) (fun (x:(List Dot)×Int×Pair)=>(((),((),(x.2.1,()))),(x.1,((x.2.2.device,(x.2.2.epoch,())),())))) (fun _=>rfl)
def sl_L140b_2:SFn TL:=SFn.one ch_L140b_2.dec (fun p=>L140b_2 p.1 p.2.1 p.2.2) (.exit 0) co0_L140b_2.enc
def cs_lL140b_2:cL:=[(142,df_pairCompare)]
def v_L140b_2:Env:=envOf tab sl sh [(141,fd141),(113,fd113)] [(142,.pure)]
theorem v_L140b_2_ok:EnvOK PR (mkD cs_lL140b_2 sZ) v_L140b_2:=envOK_of base (aC (st141.okl rfl aN) (aC (st113.okl rfl aN) aN)) (aC (oD ok_pairCompare rfl) aN)
theorem run_L140b_2 (x:(List Dot)×Int×Pair):Out.run (mkO cs_lL140b_2 sZ) (evRound v_L140b_2 12 20 fd140b.an q_L140b_2 (loopIn (loopsOf fd140b.body) 2) (ch_L140b_2.enc x)) (back ch_L140b_2 co0_L140b_2 fun e=>exE e (.exit 0))=stp_L140b_2 x:=by kernel_rfl
theorem ok_L140b_2:LoopOK PR (oneS sl_L140b_2) nt140 q_L140b_2 (loopIn (loopsOf fd140b.body) 2) :=
  loop_one v_L140b_2_ok (loops:=12) (k:=20) (an:=fd140b.an) (by kernel_rfl) (FnSt.subl rfl st140b.keys (aC (.inl (by kernel_rfl)) aN)) ch_L140b_2 co0_L140b_2 (.exit 0) rfl stp_L140b_2 _ run_L140b_2 (fun x y h=>⟨_,h⟩) (fun _=>below_iff.1 rfl)
abbrev tY3:=(List Dot)×(List Dot)×Int×Int
def step_L86_4 (l1:List Dot)(l2:List Dot)(i1:Int)(i2:Int):Option ((tY3)⊕((List Dot))) :=
 cond (decide (i2 < i1))
 (cond (decide (0≤i2))
 (ob (l2[i2.toNat]?) fun e0 =>
 ob (L140b_2 l1 0 (Pair.mk e0.device e0.epoch)) fun y1 =>
 cond (decide (y1.2.1 < (y1.1.length:Int)))
 (cond (decide (0≤y1.2.1))
 (cond (decide (y1.2.1 < (y1.1.length:Int)))
 (ob (y1.1[y1.2.1.toNat]?) fun e2 =>
 ob (pairCompare (Pair.mk e2.device e2.epoch) y1.2.2) fun r3 =>
 cond (r3 == 0)
 (cond (decide (0≤y1.2.1))
 (cond (decide (y1.2.1 < (y1.1.length:Int)))
 (ob (y1.1[y1.2.1.toNat]?) fun e4 =>
 cond (decide (0≤y1.2.1))
 (cond (decide (y1.2.1 < (y1.1.length:Int)))
 (ob (y1.1[y1.2.1.toNat]?) fun e5 =>
 some (.inl ((y1.1.set y1.2.1.toNat (Dot.mk e5.device e5.epoch (max2 e4.seq e0.seq))),l2,i1,(w64 (i2+1)))))
 none)
 none)
 none)
 none)
 (cond (fits ((y1.1++[(Dot.mk 0 0 0)]).length))
 (cond (decide (0≤(w64 (y1.2.1+1))))
 (cond (decide ((w64 (y1.2.1+1))≤((y1.1++[(Dot.mk 0 0 0)]).length:Int)))
 (cond (decide (((y1.1++[(Dot.mk 0 0 0)]).length:Int)≤((y1.1++[(Dot.mk 0 0 0)]).length:Int)))
 (cond (decide (0≤y1.2.1))
 (cond (decide (y1.2.1≤((y1.1++[(Dot.mk 0 0 0)]).length:Int)))
 (cond (decide (((y1.1++[(Dot.mk 0 0 0)]).length:Int)≤((y1.1++[(Dot.mk 0 0 0)]).length:Int)))
 (cond (decide (0≤y1.2.1))
 (cond (decide (y1.2.1 < (((((y1.1++[(Dot.mk 0 0 0)]).take (((w64 (y1.2.1+1))).toNat))++((((y1.1++[(Dot.mk 0 0 0)]).take ((((y1.1++[(Dot.mk 0 0 0)]).length:Int)).toNat)).drop y1.2.1.toNat).take (Nat.min ((((y1.1++[(Dot.mk 0 0 0)]).take ((((y1.1++[(Dot.mk 0 0 0)]).length:Int)).toNat)).drop y1.2.1.toNat).length) ((((y1.1++[(Dot.mk 0 0 0)]).length:Int)).toNat - ((w64 (y1.2.1+1))).toNat))))++(((y1.1++[(Dot.mk 0 0 0)]).take ((y1.1++[(Dot.mk 0 0 0)]).length)).drop (((w64 (y1.2.1+1))).toNat+(Nat.min ((((y1.1++[(Dot.mk 0 0 0)]).take ((((y1.1++[(Dot.mk 0 0 0)]).length:Int)).toNat)).drop y1.2.1.toNat).length) ((((y1.1++[(Dot.mk 0 0 0)]).length:Int)).toNat - ((w64 (y1.2.1+1))).toNat))))).length:Int)))
 (ob (((((y1.1++[(Dot.mk 0 0 0)]).take (((w64 (y1.2.1+1))).toNat))++((((y1.1++[(Dot.mk 0 0 0)]).take ((((y1.1++[(Dot.mk 0 0 0)]).length:Int)).toNat)).drop y1.2.1.toNat).take (Nat.min ((((y1.1++[(Dot.mk 0 0 0)]).take ((((y1.1++[(Dot.mk 0 0 0)]).length:Int)).toNat)).drop y1.2.1.toNat).length) ((((y1.1++[(Dot.mk 0 0 0)]).length:Int)).toNat - ((w64 (y1.2.1+1))).toNat))))++(((y1.1++[(Dot.mk 0 0 0)]).take ((y1.1++[(Dot.mk 0 0 0)]).length)).drop (((w64 (y1.2.1+1))).toNat+(Nat.min ((((y1.1++[(Dot.mk 0 0 0)]).take ((((y1.1++[(Dot.mk 0 0 0)]).length:Int)).toNat)).drop y1.2.1.toNat).length) ((((y1.1++[(Dot.mk 0 0 0)]).length:Int)).toNat - ((w64 (y1.2.1+1))).toNat)))))[y1.2.1.toNat]?) fun _ =>
 some (.inl ((((((y1.1++[(Dot.mk 0 0 0)]).take (((w64 (y1.2.1+1))).toNat))++((((y1.1++[(Dot.mk 0 0 0)]).take ((((y1.1++[(Dot.mk 0 0 0)]).length:Int)).toNat)).drop y1.2.1.toNat).take (Nat.min ((((y1.1++[(Dot.mk 0 0 0)]).take ((((y1.1++[(Dot.mk 0 0 0)]).length:Int)).toNat)).drop y1.2.1.toNat).length) ((((y1.1++[(Dot.mk 0 0 0)]).length:Int)).toNat - ((w64 (y1.2.1+1))).toNat))))++(((y1.1++[(Dot.mk 0 0 0)]).take ((y1.1++[(Dot.mk 0 0 0)]).length)).drop (((w64 (y1.2.1+1))).toNat+(Nat.min ((((y1.1++[(Dot.mk 0 0 0)]).take ((((y1.1++[(Dot.mk 0 0 0)]).length:Int)).toNat)).drop y1.2.1.toNat).length) ((((y1.1++[(Dot.mk 0 0 0)]).length:Int)).toNat - ((w64 (y1.2.1+1))).toNat))))).set y1.2.1.toNat e0),l2,i1,(w64 (i2+1)))))
 none)
 none)
 none)
 none)
 none)
 none)
 none)
 none)
 none))
 none)
 none)
 (cond (fits ((y1.1++[(Dot.mk 0 0 0)]).length))
 (cond (decide (0≤(w64 (y1.2.1+1))))
 (cond (decide ((w64 (y1.2.1+1))≤((y1.1++[(Dot.mk 0 0 0)]).length:Int)))
 (cond (decide (((y1.1++[(Dot.mk 0 0 0)]).length:Int)≤((y1.1++[(Dot.mk 0 0 0)]).length:Int)))
 (cond (decide (0≤y1.2.1))
 (cond (decide (y1.2.1≤((y1.1++[(Dot.mk 0 0 0)]).length:Int)))
 (cond (decide (((y1.1++[(Dot.mk 0 0 0)]).length:Int)≤((y1.1++[(Dot.mk 0 0 0)]).length:Int)))
 (cond (decide (0≤y1.2.1))
 (cond (decide (y1.2.1 < (((((y1.1++[(Dot.mk 0 0 0)]).take (((w64 (y1.2.1+1))).toNat))++((((y1.1++[(Dot.mk 0 0 0)]).take ((((y1.1++[(Dot.mk 0 0 0)]).length:Int)).toNat)).drop y1.2.1.toNat).take (Nat.min ((((y1.1++[(Dot.mk 0 0 0)]).take ((((y1.1++[(Dot.mk 0 0 0)]).length:Int)).toNat)).drop y1.2.1.toNat).length) ((((y1.1++[(Dot.mk 0 0 0)]).length:Int)).toNat - ((w64 (y1.2.1+1))).toNat))))++(((y1.1++[(Dot.mk 0 0 0)]).take ((y1.1++[(Dot.mk 0 0 0)]).length)).drop (((w64 (y1.2.1+1))).toNat+(Nat.min ((((y1.1++[(Dot.mk 0 0 0)]).take ((((y1.1++[(Dot.mk 0 0 0)]).length:Int)).toNat)).drop y1.2.1.toNat).length) ((((y1.1++[(Dot.mk 0 0 0)]).length:Int)).toNat - ((w64 (y1.2.1+1))).toNat))))).length:Int)))
 (ob (((((y1.1++[(Dot.mk 0 0 0)]).take (((w64 (y1.2.1+1))).toNat))++((((y1.1++[(Dot.mk 0 0 0)]).take ((((y1.1++[(Dot.mk 0 0 0)]).length:Int)).toNat)).drop y1.2.1.toNat).take (Nat.min ((((y1.1++[(Dot.mk 0 0 0)]).take ((((y1.1++[(Dot.mk 0 0 0)]).length:Int)).toNat)).drop y1.2.1.toNat).length) ((((y1.1++[(Dot.mk 0 0 0)]).length:Int)).toNat - ((w64 (y1.2.1+1))).toNat))))++(((y1.1++[(Dot.mk 0 0 0)]).take ((y1.1++[(Dot.mk 0 0 0)]).length)).drop (((w64 (y1.2.1+1))).toNat+(Nat.min ((((y1.1++[(Dot.mk 0 0 0)]).take ((((y1.1++[(Dot.mk 0 0 0)]).length:Int)).toNat)).drop y1.2.1.toNat).length) ((((y1.1++[(Dot.mk 0 0 0)]).length:Int)).toNat - ((w64 (y1.2.1+1))).toNat)))))[y1.2.1.toNat]?) fun _ =>
 some (.inl ((((((y1.1++[(Dot.mk 0 0 0)]).take (((w64 (y1.2.1+1))).toNat))++((((y1.1++[(Dot.mk 0 0 0)]).take ((((y1.1++[(Dot.mk 0 0 0)]).length:Int)).toNat)).drop y1.2.1.toNat).take (Nat.min ((((y1.1++[(Dot.mk 0 0 0)]).take ((((y1.1++[(Dot.mk 0 0 0)]).length:Int)).toNat)).drop y1.2.1.toNat).length) ((((y1.1++[(Dot.mk 0 0 0)]).length:Int)).toNat - ((w64 (y1.2.1+1))).toNat))))++(((y1.1++[(Dot.mk 0 0 0)]).take ((y1.1++[(Dot.mk 0 0 0)]).length)).drop (((w64 (y1.2.1+1))).toNat+(Nat.min ((((y1.1++[(Dot.mk 0 0 0)]).take ((((y1.1++[(Dot.mk 0 0 0)]).length:Int)).toNat)).drop y1.2.1.toNat).length) ((((y1.1++[(Dot.mk 0 0 0)]).length:Int)).toNat - ((w64 (y1.2.1+1))).toNat))))).set y1.2.1.toNat e0),l2,i1,(w64 (i2+1)))))
 none)
 none)
 none)
 none)
 none)
 none)
 none)
 none)
 none))
 none)
 (some (.inr l1))
def stp_L86_4 (p:tY3):Option ((tY3)⊕((List Dot))):=step_L86_4 p.1 p.2.1 p.2.2.1 p.2.2.2
def L86_4 (l1:List Dot)(l2:List Dot)(i1:Int)(i2:Int):Option ((List Dot)):=iterO stp_L86_4 ((i1 - i2).toNat+2) (l1,l2,i1,i2)
def ch_L86_4:kT (tY3):=kO (kS 1 (kC (Cod.xs (Cod.sc (kA 0))) (kC (kF j_lDot) (kC kI (kC kI kN)))) (kC (kR 0 112 j_lDot) kN)) (fun p=>(p.2.1,p.1.2.1,p.1.2.2.1,p.1.2.2.2.1)) (fun (x:tY3)=>(((),(x.2.1,(x.2.2.1,(x.2.2.2,())))),(x.1,()))) (fun _=>rfl)
def co0_L86_4:kT ((List Dot)):=kO (kS 2 (kC (Cod.xs (Cod.sc (kA 1))) kN) (kC (kR 1 112 j_lDot) kN)) (fun p=>p.2.1) (fun (x:(List Dot))=>(((),()),(x,()))) (fun _=>rfl)
def sl_L86_4:SFn TL:=SFn.one ch_L86_4.dec (fun p=>L86_4 p.1 p.2.1 p.2.2.1 p.2.2.2) (.exit 0) co0_L86_4.enc
def cs_lL86_4:cL:=[(142,df_pairCompare)]
def ss_lL86_4:sL:=[(20240002,sl_L140b_2)]
def v_L86_4:Env:=envOf tab sl sh [(113,fd113),(112,fd112),(140,fd140b),(141,fd141)] [(142,.pure)]
theorem v_L86_4_ok:EnvOK PR (mkD cs_lL86_4 ss_lL86_4) v_L86_4:=envOK_of base (aC (st113.okl rfl aN) (aC (st112.okl rfl aN) (aC (st140b.okl rfl (aC (lC ok_L140b_2 rfl) aN)) (aC (st141.okl rfl aN) aN)))) (aC (oD ok_pairCompare rfl) aN)
theorem run_L86_4 (x:tY3):Out.run (mkO cs_lL86_4 ss_lL86_4) (evRound v_L86_4 12 20 fd86.an q_L86_4 (loopIn (loopsOf fd86.body) 4) (ch_L86_4.enc x)) (back ch_L86_4 co0_L86_4 fun e=>exE e (.exit 0))=stp_L86_4 x:=by kernel_rfl
theorem ok_L86_4:LoopOK PR (oneS sl_L86_4) nt86 q_L86_4 (loopIn (loopsOf fd86.body) 4) :=
  loop_one v_L86_4_ok (loops:=12) (k:=20) (an:=fd86.an) (by kernel_rfl) (FnSt.subl rfl st86.keys (aC (.inl (by kernel_rfl)) aN)) ch_L86_4 co0_L86_4 (.exit 0) rfl stp_L86_4 _ run_L86_4 (fun x y h=>⟨_,h⟩) (fun _=>below_iff.1 rfl)
def laid (l1:List Dot)(l2:List Dot):Option ((List Dot)) :=
 cond (decide (0≤(l1.length:Int)))
 (cond (decide ((l1.length:Int)≤(w64 ((l1.length:Int)+(l2.length:Int)))))
 (cond (fits (((w64 ((l1.length:Int)+(l2.length:Int)))).toNat))
 (ob (L86_4 ((l1.take (Nat.min l1.length ((List.replicate (((l1.length:Int)).toNat) (Dot.mk 0 0 0)).length)))++(((List.replicate (((l1.length:Int)).toNat) (Dot.mk 0 0 0)).take ((List.replicate (((l1.length:Int)).toNat) (Dot.mk 0 0 0)).length)).drop (Nat.min l1.length ((List.replicate (((l1.length:Int)).toNat) (Dot.mk 0 0 0)).length)))) l2 (l2.length:Int) 0) fun y0 =>
 cond (fits (([]++y0).length))
 (some ([]++y0))
 none)
 none)
 none)
 none
def un_laid (p:(List Dot)×(List Dot)):Option ((List Dot)):=laid p.1 p.2
def df_laid:DFn TL:=⟨(List Dot)×(List Dot),(List Dot),(DA.cons (DT.one di_lDot) (DA.one (DT.one di_lDot)):DA TL ((List Dot)×(List Dot))).dec,un_laid,fun l=>[.c (.im (.fz (j_lDot.put l)))]⟩
def ss_laid:sL:=[(186004,sl_L86_4)]
def env_laid:Env:=envOf tab sl sh [(86,fd86)] []
theorem env_laid_ok:EnvOK PR (mkD cZ ss_laid) env_laid:=envOK_of base (aC (st86.okl rfl (aC (lC ok_L86_4 rfl) aN)) aN) aN
theorem run_laid (x:(List Dot)×(List Dot)):Out.run (mkO cZ ss_laid) (evFresh env_laid 12 20 86 112 ((DA.cons (DT.one di_lDot) (DA.one (DT.one di_lDot)):DA TL ((List Dot)×(List Dot))).enc x)) j_lDot.un=un_laid x:=by kernel_rfl
theorem ok_laid:DOK PR 86 (.fresh 112) df_laid:=fresh_of env_laid_ok (loops:=12) (n:=20) st86.enters (DA.cons (DT.one di_lDot) (DA.one (DT.one di_lDot))) un_laid j_lDot run_laid
def vectorStep (l1:List Dot)(d1:Dot):Option ((List Dot)×Int) :=
 cond (cond (decide (d1.device < 0)) true (cond (decide (d1.epoch < 0)) true (decide (d1.seq < 1))))
 (some ([],1))
 (ob (vectorHas l1 d1) fun r0 =>
 cond (r0)
 (some ([],7))
 (ob (laid l1 [d1]) fun r1 =>
 some (r1,0)))
def un_vectorStep (p:(List Dot)×Dot):Option ((List Dot)×Int):=vectorStep p.1 p.2
def df_vectorStep:DFn TL:=DFn.of (DA.cons (DT.one di_lDot) (DA.one (DT.agg dc_Dot))) un_vectorStep (DA.cons (DT.one di_lDot) (DA.one dI))
theorem run_vectorStep:DRun [(85,df_vectorHas),(86,df_laid)] [] (envOf tab sl sh [(50,fd50)] [(85,.pure),(86,(.fresh 112))]) 50 (DA.cons (DT.one di_lDot) (DA.one (DT.agg dc_Dot))) un_vectorStep (DA.cons (DT.one di_lDot) (DA.one dI)):=fun _=>by kernel_rfl
theorem ok_vectorStep:DOK PR 50 .keep df_vectorStep:=dok run_vectorStep (envOK_of base (aC (st50.okl rfl aN) aN) (aC (oD ok_vectorHas rfl) (aC (oD ok_laid rfl) aN))) (.inl rfl) st50.enters
def dotCompare (d1:Dot)(d2:Dot):Option Int :=
 ob (cmpInt d1.device d2.device) fun r0 =>
 ob (cmpInt d1.epoch d2.epoch) fun r1 =>
 ob (cmpInt d1.seq d2.seq) fun r2 =>
 ob (cmpOr [r0,r1,r2]) fun r3 =>
 some r3
def un_dotCompare (p:Dot×Dot):Option Int:=dotCompare p.1 p.2
def df_dotCompare:DFn TL:=DFn.of (DA.cons (DT.agg dc_Dot) (DA.one (DT.agg dc_Dot))) un_dotCompare (DA.one dI)
theorem run_dotCompare:DRun [(118,df_cmpInt),(93,df_cmpOr)] [] (envOf tab sl sh [(89,fd89)] [(118,.pure),(93,.pure)]) 89 (DA.cons (DT.agg dc_Dot) (DA.one (DT.agg dc_Dot))) un_dotCompare (DA.one dI):=fun _=>by kernel_rfl
theorem ok_dotCompare:DOK PR 89 .pure df_dotCompare:=dok run_dotCompare (envOK_of base (aC (st89.okl rfl aN) aN) (aC (oD ok_cmpInt rfl) (aC (oD ok_cmpOr rfl) aN))) (.inr rfl) st89.enters
def collOwn (c1:Coll):Option Coll :=
 cond (fits c1.v.length)
 (cond (fits c1.regs.length)
 (cond (fits c1.elems.length)
 (cond (fits c1.gone.length)
 (cond (fits c1.sums.length)
 (cond (fits c1.binds.length)
 (some c1)
 none)
 none)
 none)
 none)
 none)
 none
def cc_Coll:Cod (List (C TL)) Coll:=kO (kC (kG j_lDot) (kC (kG j_lReg) (kC (kG j_lElem) (kC (kG j_lDot) (kC (kG j_lSum) (kC (kG j_lBind) kN)))))) (fun (z0,z1,z2,z3,z4,z5,_)=>(Coll.mk z0 z1 z2 z3 z4 z5)) (fun (x:Coll)=>(x.v,(x.regs,(x.elems,(x.gone,(x.sums,(x.binds,()))))))) (fun _=>rfl)
def ch_collOwn:kT (Coll):=kO (kS 0 (kC (Cod.xs (Cod.sa cc_Coll)) kN) kN) (fun p=>p.1.1) (fun (x:Coll)=>((x,()),())) (fun _=>rfl)
def co_collOwn:kT (Coll):=kO (kS 6 (kC (Cod.xs (Cod.sa (kC (kA 0) (kC (kA 1) (kC (kA 2) (kC (kA 3) (kC (kA 4) (kC (kA 5) kN)))))))) kN) (kC (kR 0 112 j_lDot) (kC (kR 1 103 j_lReg) (kC (kR 2 100 j_lElem) (kC (kR 3 48 j_lDot) (kC (kR 4 118 j_lSum) (kC (kR 5 121 j_lBind) kN))))))) (fun (_,z0,z1,z2,z3,z4,z5,_)=>(Coll.mk z0 z1 z2 z3 z4 z5)) (fun (x:Coll)=>((((),((),((),((),((),((),())))))),()),(x.v,(x.regs,(x.elems,(x.gone,(x.sums,(x.binds,())))))))) (fun _=>rfl)
def un_collOwn (p:Coll):Option Coll:=collOwn p
def sf_collOwn:SFn TL:=SFn.one ch_collOwn.dec un_collOwn .normal co_collOwn.enc
def env_collOwn:Env:=envOf tab sl sh [(49,fd49)] [(76,(.cln 112)),(77,(.cln 103)),(78,(.cln 100)),(41,(.cln 48)),(79,(.cln 118)),(80,(.cln 121))]
theorem env_collOwn_ok:EnvOK PR (mkD cZ sZ) env_collOwn:=envOK_of base (aC (st49.okl rfl aN) aN) (aC (okCln okI_76) (aC (okCln okI_77) (aC (okCln okI_78) (aC (okCln okI_41) (aC (okCln okI_79) (aC (okCln okI_80) aN))))))
theorem run_collOwn (x:Coll):Out.run (mkO cZ sZ) (evSum env_collOwn 12 20 49 (ch_collOwn.enc x)) (back1 co_collOwn)=un_collOwn x:=by kernel_rfl
theorem ok_collOwn:SOK PR 49 sf_collOwn:=sum_one env_collOwn_ok (loops:=12) (n:=20) st49.enters ch_collOwn co_collOwn un_collOwn run_collOwn
abbrev tY4:=(List Reg)×Int×Int×ByteArray
def step_L114_2 (l1:List Reg)(i1:Int)(i2:Int)(s1:ByteArray):Option ((tY4)⊕((List Reg)×Int×ByteArray)) :=
 cond (decide (i1 < i2))
 (cond (decide (0≤(w64 ((w64 (i1+i2)).tdiv 2))))
 (cond (decide ((w64 ((w64 (i1+i2)).tdiv 2)) < (l1.length:Int)))
 (ob (l1[((w64 ((w64 (i1+i2)).tdiv 2))).toNat]?) fun e0 =>
 ob (cmpStr e0.key s1) fun r1 =>
 some (.inl (l1,(cond (decide (r1 < 0)) (w64 ((w64 ((w64 (i1+i2)).tdiv 2))+1)) i1),(cond (decide (r1 < 0)) i2 (w64 ((w64 (i1+i2)).tdiv 2))),s1)))
 none)
 none)
 (some (.inr (l1,i1,s1)))
def stp_L114_2 (p:tY4):Option ((tY4)⊕((List Reg)×Int×ByteArray)):=step_L114_2 p.1 p.2.1 p.2.2.1 p.2.2.2
def L114_2 (l1:List Reg)(i1:Int)(i2:Int)(s1:ByteArray):Option ((List Reg)×Int×ByteArray):=iterO stp_L114_2 ((i2 - i1).toNat+2) (l1,i1,i2,s1)
def ch_L114_2:kT (tY4):=kO (kS 2 (kC (Cod.xs (Cod.sc (kA 0))) (kC (Cod.xs (Cod.sc (Cod.clo 115 [] [(1,0)]))) (kC kI (kC kI kN)))) (kC (kR 0 103 j_lReg) (kC (Cod.var 1 9 (kC kE kN)) kN))) (fun p=>(p.2.1,p.1.2.2.1,p.1.2.2.2.1,p.2.2.1.1)) (fun (x:tY4)=>(((),((),(x.2.1,(x.2.2.1,())))),(x.1,((x.2.2.2,()),())))) (fun _=>rfl)
def co0_L114_2:kT ((List Reg)×Int×ByteArray):=kO (kS 4 (kC (Cod.xs (Cod.sc (kA 0))) (kC (Cod.xs (Cod.sc (Cod.clo 115 [] [(1,0)]))) (kC kI kN))) (kC (kR 0 103 j_lReg) (kC (Cod.var 1 9 (kC kE kN)) kN))) (fun p=>(p.2.1,p.1.2.2.1,p.2.2.1.1)) (fun (x:(List Reg)×Int×ByteArray)=>(((),((),(x.2.1,()))),(x.1,((x.2.2,()),())))) (fun _=>rfl)
def sl_L114_2:SFn TL:=SFn.one ch_L114_2.dec (fun p=>L114_2 p.1 p.2.1 p.2.2.1 p.2.2.2) (.exit 0) co0_L114_2.enc
def cs_lL114_2:cL:=[(94,df_cmpStr)]
def v_L114_2:Env:=envOf tab sl sh [(115,fd115)] [(94,.pure)]
theorem v_L114_2_ok:EnvOK PR (mkD cs_lL114_2 sZ) v_L114_2:=envOK_of base (aC (st115.okl rfl aN) aN) (aC (oD ok_cmpStr rfl) aN)
theorem run_L114_2 (x:tY4):Out.run (mkO cs_lL114_2 sZ) (evRound v_L114_2 12 20 fd114.an q_L114_2 (loopIn (loopsOf fd114.body) 2) (ch_L114_2.enc x)) (back ch_L114_2 co0_L114_2 fun e=>exE e (.exit 0))=stp_L114_2 x:=by kernel_rfl
theorem ok_L114_2:LoopOK PR (oneS sl_L114_2) nt114 q_L114_2 (loopIn (loopsOf fd114.body) 2) :=
  loop_one v_L114_2_ok (loops:=12) (k:=20) (an:=fd114.an) (by kernel_rfl) (FnSt.subl rfl st114.keys (aC (.inl (by kernel_rfl)) aN)) ch_L114_2 co0_L114_2 (.exit 0) rfl stp_L114_2 _ run_L114_2 (fun x y h=>⟨_,h⟩) (fun _=>below_iff.1 rfl)
abbrev tY5:=(List Dot)×Int×Int×Dot
def step_L119_2 (l1:List Dot)(i1:Int)(i2:Int)(d1:Dot):Option ((tY5)⊕((List Dot)×Int×Dot)) :=
 cond (decide (i1 < i2))
 (cond (decide (0≤(w64 ((w64 (i1+i2)).tdiv 2))))
 (cond (decide ((w64 ((w64 (i1+i2)).tdiv 2)) < (l1.length:Int)))
 (ob (l1[((w64 ((w64 (i1+i2)).tdiv 2))).toNat]?) fun e0 =>
 ob (dotCompare e0 d1) fun r1 =>
 some (.inl (l1,(cond (decide (r1 < 0)) (w64 ((w64 ((w64 (i1+i2)).tdiv 2))+1)) i1),(cond (decide (r1 < 0)) i2 (w64 ((w64 (i1+i2)).tdiv 2))),d1)))
 none)
 none)
 (some (.inr (l1,i1,d1)))
def stp_L119_2 (p:tY5):Option ((tY5)⊕((List Dot)×Int×Dot)):=step_L119_2 p.1 p.2.1 p.2.2.1 p.2.2.2
def L119_2 (l1:List Dot)(i1:Int)(i2:Int)(d1:Dot):Option ((List Dot)×Int×Dot):=iterO stp_L119_2 ((i2 - i1).toNat+2) (l1,i1,i2,d1)
def ch_L119_2:kT (tY5):=kO (kS 3 (kC (Cod.xs (Cod.sc (kA 0))) (kC (Cod.xs (Cod.sc (Cod.clo 120 [] [(1,0),(2,0)]))) (kC kI (kC kI kN)))) (kC (kR 0 48 j_lDot) (kC (Cod.var 1 175 (kC (Cod.clo 89 [] []) kN)) (kC (Cod.var 2 48 (kC kJ (kC kJ (kC kJ kN)))) kN)))) (fun ((_,_,z0,z1,_),z2,_,(z3,z4,z5,_),_)=>(z2,z0,z1,(Dot.mk z3 z4 z5))) (fun (x:tY5)=>(((),((),(x.2.1,(x.2.2.1,())))),(x.1,(((),()),((x.2.2.2.device,(x.2.2.2.epoch,(x.2.2.2.seq,()))),()))))) (fun _=>rfl)
def co0_L119_2:kT ((List Dot)×Int×Dot):=kO (kS 6 (kC (Cod.xs (Cod.sc (kA 0))) (kC (Cod.xs (Cod.sc (Cod.clo 120 [] [(1,0),(2,0)]))) (kC kI kN))) (kC (kR 0 48 j_lDot) (kC (Cod.var 1 175 (kC (Cod.clo 89 [] []) kN)) (kC (Cod.var 2 48 (kC kJ (kC kJ (kC kJ kN)))) kN)))) (fun ((_,_,z0,_),z1,_,(z2,z3,z4,_),_)=>(z1,z0,(Dot.mk z2 z3 z4))) (fun (x:(List Dot)×Int×Dot)=>(((),((),(x.2.1,()))),(x.1,(((),()),((x.2.2.device,(x.2.2.epoch,(x.2.2.seq,()))),()))))) (fun _=>rfl)
def sl_L119_2:SFn TL:=SFn.one ch_L119_2.dec (fun p=>L119_2 p.1 p.2.1 p.2.2.1 p.2.2.2) (.exit 0) co0_L119_2.enc
def cs_lL119_2:cL:=[(89,df_dotCompare)]
def v_L119_2:Env:=envOf tab sl sh [(120,fd120)] [(89,.pure)]
theorem v_L119_2_ok:EnvOK PR (mkD cs_lL119_2 sZ) v_L119_2:=envOK_of base (aC (st120.okl rfl aN) aN) (aC (oD ok_dotCompare rfl) aN)
theorem run_L119_2 (x:tY5):Out.run (mkO cs_lL119_2 sZ) (evRound v_L119_2 12 20 fd119.an q_L119_2 (loopIn (loopsOf fd119.body) 2) (ch_L119_2.enc x)) (back ch_L119_2 co0_L119_2 fun e=>exE e (.exit 0))=stp_L119_2 x:=by kernel_rfl
theorem ok_L119_2:LoopOK PR (oneS sl_L119_2) nt119 q_L119_2 (loopIn (loopsOf fd119.body) 2) :=
  loop_one v_L119_2_ok (loops:=12) (k:=20) (an:=fd119.an) (by kernel_rfl) (FnSt.subl rfl st119.keys (aC (.inl (by kernel_rfl)) aN)) ch_L119_2 co0_L119_2 (.exit 0) rfl stp_L119_2 _ run_L119_2 (fun x y h=>⟨_,h⟩) (fun _=>below_iff.1 rfl)
abbrev tY6:=(List Elem)×Int×Int×Op
def step_L91_2 (l1:List Elem)(i1:Int)(i2:Int)(o1:Op):Option ((tY6)⊕((List Elem)×Int×Op)) :=
 cond (decide (i1 < i2))
 (cond (decide (0≤(w64 ((w64 (i1+i2)).tdiv 2))))
 (cond (decide ((w64 ((w64 (i1+i2)).tdiv 2)) < (l1.length:Int)))
 (ob (l1[((w64 ((w64 (i1+i2)).tdiv 2))).toNat]?) fun e0 =>
 ob (cmpStr e0.key o1.key) fun r1 =>
 ob (cmpStr e0.text o1.text) fun r2 =>
 ob (dotCompare e0.dot o1.dot) fun r3 =>
 ob (cmpOr [r1,r2,r3]) fun r4 =>
 some (.inl (l1,(cond (decide (r4 < 0)) (w64 ((w64 ((w64 (i1+i2)).tdiv 2))+1)) i1),(cond (decide (r4 < 0)) i2 (w64 ((w64 (i1+i2)).tdiv 2))),o1)))
 none)
 none)
 (some (.inr (l1,i1,o1)))
def stp_L91_2 (p:tY6):Option ((tY6)⊕((List Elem)×Int×Op)):=step_L91_2 p.1 p.2.1 p.2.2.1 p.2.2.2
def L91_2 (l1:List Elem)(i1:Int)(i2:Int)(o1:Op):Option ((List Elem)×Int×Op):=iterO stp_L91_2 ((i2 - i1).toNat+2) (l1,i1,i2,o1)
def cc_Op:Cod (List (C TL)) Op:=kO (kC kJ (kC kJ (kC kJ (kC kJ (kC kJ (kC kJ (kC kE (kC kE (kC kJ (kC kJ (kC (kG j_lDot) kN))))))))))) (fun p=>(Op.mk (Dot.mk p.1 p.2.1 p.2.2.1) p.2.2.2.1 p.2.2.2.2.1 p.2.2.2.2.2.1 p.2.2.2.2.2.2.1 p.2.2.2.2.2.2.2.1 (t8 p).1 (t8 p).2.1 (t8 p).2.2.1)) (fun (x:Op)=>(x.dot.device,(x.dot.epoch,(x.dot.seq,(x.coll,(x.ver,(x.kind,(x.key,(x.text,(x.n,(x.time,(x.dots,())))))))))))) (fun _=>rfl)
def ch_L91_2:kT (tY6):=kO (kS 2 (kC (Cod.xs (Cod.sc (kA 0))) (kC (Cod.xs (Cod.sc (Cod.clo 92 [] [(1,0)]))) (kC kI (kC kI kN)))) (kC (kR 0 100 j_lElem) (kC (Cod.var 1 50 cc_Op) kN))) (fun p=>(p.2.1,p.1.2.2.1,p.1.2.2.2.1,p.2.2.1)) (fun (x:tY6)=>(((),((),(x.2.1,(x.2.2.1,())))),(x.1,(x.2.2.2,())))) (fun _=>rfl)
def co0_L91_2:kT ((List Elem)×Int×Op):=kO (kS 4 (kC (Cod.xs (Cod.sc (kA 0))) (kC (Cod.xs (Cod.sc (Cod.clo 92 [] [(1,0)]))) (kC kI kN))) (kC (kR 0 100 j_lElem) (kC (Cod.var 1 50 cc_Op) kN))) (fun p=>(p.2.1,p.1.2.2.1,p.2.2.1)) (fun (x:(List Elem)×Int×Op)=>(((),((),(x.2.1,()))),(x.1,(x.2.2,())))) (fun _=>rfl)
def sl_L91_2:SFn TL:=SFn.one ch_L91_2.dec (fun p=>L91_2 p.1 p.2.1 p.2.2.1 p.2.2.2) (.exit 0) co0_L91_2.enc
def cs_lL91_2:cL:=[(94,df_cmpStr),(89,df_dotCompare),(93,df_cmpOr)]
def v_L91_2:Env:=envOf tab sl sh [(92,fd92)] [(94,.pure),(89,.pure),(93,.pure)]
theorem v_L91_2_ok:EnvOK PR (mkD cs_lL91_2 sZ) v_L91_2:=envOK_of base (aC (st92.okl rfl aN) aN) (aC (oD ok_cmpStr rfl) (aC (oD ok_dotCompare rfl) (aC (oD ok_cmpOr rfl) aN)))
theorem run_L91_2 (x:tY6):Out.run (mkO cs_lL91_2 sZ) (evRound v_L91_2 12 20 fd91.an q_L91_2 (loopIn (loopsOf fd91.body) 2) (ch_L91_2.enc x)) (back ch_L91_2 co0_L91_2 fun e=>exE e (.exit 0))=stp_L91_2 x:=by kernel_rfl
theorem ok_L91_2:LoopOK PR (oneS sl_L91_2) nt91 q_L91_2 (loopIn (loopsOf fd91.body) 2) :=
  loop_one v_L91_2_ok (loops:=12) (k:=20) (an:=fd91.an) (by kernel_rfl) (FnSt.subl rfl st91.keys (aC (.inl (by kernel_rfl)) aN)) ch_L91_2 co0_L91_2 (.exit 0) rfl stp_L91_2 _ run_L91_2 (fun x y h=>⟨_,h⟩) (fun _=>below_iff.1 rfl)
abbrev tY7:=(List Elem)×Int×Int×Dot
def step_L97_5 (l1:List Elem)(i1:Int)(i2:Int)(d1:Dot):Option ((tY7)⊕((List Elem)×Int×Dot)) :=
 cond (decide (i2 < (l1.length:Int)))
 (cond (decide (0≤i2))
 (cond (decide (i2 < (l1.length:Int)))
 (ob (l1[i2.toNat]?) fun e0 =>
 cond (!(cond (e0.dot.device == d1.device) (cond (e0.dot.epoch == d1.epoch) (cond (e0.dot.seq == d1.seq) true false) false) false))
 (cond (decide (0≤i1))
 (cond (decide (i1 < (l1.length:Int)))
 (ob (l1[i1.toNat]?) fun _ =>
 some (.inl ((l1.set i1.toNat e0),(w64 (i1+1)),(w64 (i2+1)),d1)))
 none)
 none)
 (some (.inl (l1,i1,(w64 (i2+1)),d1))))
 none)
 none)
 (some (.inr (l1,i1,d1)))
def stp_L97_5 (p:tY7):Option ((tY7)⊕((List Elem)×Int×Dot)):=step_L97_5 p.1 p.2.1 p.2.2.1 p.2.2.2
def L97_5 (l1:List Elem)(i1:Int)(i2:Int)(d1:Dot):Option ((List Elem)×Int×Dot):=iterO stp_L97_5 (((l1.length:Int) - i2).toNat+2) (l1,i1,i2,d1)
def ch_L97_5:kT (tY7):=kO (kS 2 (kC (Cod.xs (Cod.sc (kA 0))) (kC (Cod.xs (Cod.sc (Cod.clo 98 [] [(1,0)]))) (kC kI (kC kI kN)))) (kC (kR 0 100 j_lElem) (kC (Cod.var 1 48 (kC kJ (kC kJ (kC kJ kN)))) kN))) (fun ((_,_,z0,z1,_),z2,(z3,z4,z5,_),_)=>(z2,z0,z1,(Dot.mk z3 z4 z5))) (fun (x:tY7)=>(((),((),(x.2.1,(x.2.2.1,())))),(x.1,((x.2.2.2.device,(x.2.2.2.epoch,(x.2.2.2.seq,()))),())))) (fun _=>rfl)
def co0_L97_5:kT ((List Elem)×Int×Dot):=kO (kS 4 (kC (Cod.xs (Cod.sc (kA 0))) (kC kI kN)) (kC (kR 0 100 j_lElem) (kC (Cod.var 1 48 (kC kJ (kC kJ (kC kJ kN)))) kN))) (fun p=>(p.2.1,p.1.2.1,(Dot.mk p.2.2.1.1 p.2.2.1.2.1 p.2.2.1.2.2.1))) (fun (x:(List Elem)×Int×Dot)=>(((),(x.2.1,())),(x.1,((x.2.2.device,(x.2.2.epoch,(x.2.2.seq,()))),())))) (fun _=>rfl)
def sl_L97_5:SFn TL:=SFn.one ch_L97_5.dec (fun p=>L97_5 p.1 p.2.1 p.2.2.1 p.2.2.2) (.exit 0) co0_L97_5.enc
def v_L97_5:Env:=envOf tab sl sh [(98,fd98)] []
theorem v_L97_5_ok:EnvOK PR (mkD cZ sZ) v_L97_5:=envOK_of base (aC (st98.okl rfl aN) aN) aN
theorem run_L97_5 (x:tY7):Out.run (mkO cZ sZ) (evRound v_L97_5 12 20 fd97.an q_L97_5 (loopIn (loopsOf fd97.body) 5) (ch_L97_5.enc x)) (back ch_L97_5 co0_L97_5 fun e=>exE e (.exit 0))=stp_L97_5 x:=by kernel_rfl
theorem ok_L97_5:LoopOK PR (oneS sl_L97_5) nt97 q_L97_5 (loopIn (loopsOf fd97.body) 5) :=
  loop_one v_L97_5_ok (loops:=12) (k:=20) (an:=fd97.an) (by kernel_rfl) (FnSt.subl rfl st97.keys (aC (.inl (by kernel_rfl)) aN)) ch_L97_5 co0_L97_5 (.exit 0) rfl stp_L97_5 _ run_L97_5 (fun x y h=>⟨_,h⟩) (fun _=>below_iff.1 rfl)
abbrev tY8:=(List Elem)×Int×Int×Int×Dot
def step_L126_2 (l1:List Elem)(i1:Int)(i2:Int)(i3:Int)(d1:Dot):Option ((tY8)⊕(((Int×Dot×(List Elem))⊕(Int×Dot×(List Elem))))) :=
 cond (decide (i3 < i2))
 (cond (decide (0≤i3))
 (cond (decide (i3 < (l1.length:Int)))
 (ob (l1[i3.toNat]?) fun e0 =>
 cond (cond (e0.dot.device == d1.device) (cond (e0.dot.epoch == d1.epoch) (cond (e0.dot.seq == d1.seq) true false) false) false)
 (some (.inr (.inr (i3,d1,l1))))
 (some (.inl (l1,i1,i2,(w64 (i3+1)),d1))))
 none)
 none)
 (some (.inr (.inl (i1,d1,l1))))
def stp_L126_2 (p:tY8):Option ((tY8)⊕(((Int×Dot×(List Elem))⊕(Int×Dot×(List Elem))))):=step_L126_2 p.1 p.2.1 p.2.2.1 p.2.2.2.1 p.2.2.2.2
def L126_2 (l1:List Elem)(i1:Int)(i2:Int)(i3:Int)(d1:Dot):Option (((Int×Dot×(List Elem))⊕(Int×Dot×(List Elem)))):=iterO stp_L126_2 ((i2 - i3).toNat+2) (l1,i1,i2,i3,d1)
def ch_L126_2:kT (tY8):=kO (kS 2 (kC (Cod.xs (Cod.sc (kA 0))) (kC (Cod.xs (Cod.sc (Cod.clo 98 [] [(1,0)]))) (kC kI (kC kI (kC kI kN))))) (kC (kR 0 100 j_lElem) (kC (Cod.var 1 48 (kC kJ (kC kJ (kC kJ kN)))) kN))) (fun ((_,_,z0,z1,z2,_),z3,(z4,z5,z6,_),_)=>(z3,z0,z1,z2,(Dot.mk z4 z5 z6))) (fun (x:tY8)=>(((),((),(x.2.1,(x.2.2.1,(x.2.2.2.1,()))))),(x.1,((x.2.2.2.2.device,(x.2.2.2.2.epoch,(x.2.2.2.2.seq,()))),())))) (fun _=>rfl)
def co0_L126_2:kT (Int×Dot×(List Elem)):=kO (kS 4 (kC kI kN) (kC (kR 0 100 j_lElem) (kC (Cod.var 1 48 (kC kJ (kC kJ (kC kJ kN)))) kN))) (fun ((z0,_),z1,(z2,z3,z4,_),_)=>(z0,(Dot.mk z2 z3 z4),z1)) (fun (x:Int×Dot×(List Elem))=>((x.1,()),(x.2.2,((x.2.1.device,(x.2.1.epoch,(x.2.1.seq,()))),())))) (fun _=>rfl)
def sl_L126_2:SFn TL:=SFn.two ch_L126_2.dec (fun p=>L126_2 p.1 p.2.1 p.2.2.1 p.2.2.2.1 p.2.2.2.2) (.exit 0) .ret co0_L126_2.enc co0_L126_2.enc
def v_L126_2:Env:=envOf tab sl sh [(98,fd98)] []
theorem v_L126_2_ok:EnvOK PR (mkD cZ sZ) v_L126_2:=envOK_of base (aC (st98.okl rfl aN) aN) aN
theorem run_L126_2 (x:tY8):Out.run (mkO cZ sZ) (evRound v_L126_2 12 20 fd126.an q_L126_2 (loopIn (loopsOf fd126.body) 2) (ch_L126_2.enc x)) (back2 ch_L126_2 co0_L126_2 co0_L126_2 (.exit 0) .ret)=stp_L126_2 x:=by kernel_rfl
theorem ok_L126_2:LoopOK PR (oneS sl_L126_2) nt126 q_L126_2 (loopIn (loopsOf fd126.body) 2) :=
  loop_two v_L126_2_ok (loops:=12) (k:=20) (an:=fd126.an) (by kernel_rfl) (FnSt.subl rfl st126.keys (aC (.inl (by kernel_rfl)) aN)) ch_L126_2 co0_L126_2 co0_L126_2 (.exit 0) .ret rfl rfl stp_L126_2 _ run_L126_2 (fun x y h=>⟨_,h⟩) (fun _=>below_iff.1 rfl)
abbrev tY9:=(List Dot)×Int×Int×Coll×Coll
def step_L53_2 (l1:List Dot)(i1:Int)(i2:Int)(c1:Coll)(c2:Coll):Option ((tY9)⊕(Coll×Coll)) :=
 cond (decide (i2 < i1))
 (cond (decide (0≤i2))
 (ob (l1[i2.toNat]?) fun e0 =>
 ob (L119_2 c1.gone 0 (c1.gone.length:Int) e0) fun y1 =>
 cond (decide (y1.2.1 < (y1.1.length:Int)))
 (cond (decide (0≤y1.2.1))
 (cond (decide (y1.2.1 < (y1.1.length:Int)))
 (ob (y1.1[y1.2.1.toNat]?) fun e2 =>
 ob (dotCompare e2 y1.2.2) fun r3 =>
 cond (!(r3 == 0))
 (cond (decide (0≤y1.2.1))
 (cond (decide (y1.2.1≤(y1.1.length:Int)))
 (cond (fits ((((y1.1.take y1.2.1.toNat)++[e0])++((y1.1.take y1.1.length).drop y1.2.1.toNat)).length))
 (ob (L126_2 c1.elems 0 (c1.elems.length:Int) 0 e0) fun y4 =>
 two y4 (fun a5 =>
 some (.inl (l1,i1,(w64 (i2+1)),(Coll.mk c1.v c1.regs a5.2.2 (((y1.1.take y1.2.1.toNat)++[e0])++((y1.1.take y1.1.length).drop y1.2.1.toNat)) c1.sums c1.binds),c2))) (fun b6 =>
 cond (b6.1 == (-1))
 (some (.inl (l1,i1,(w64 (i2+1)),(Coll.mk c1.v c1.regs b6.2.2 (((y1.1.take y1.2.1.toNat)++[e0])++((y1.1.take y1.1.length).drop y1.2.1.toNat)) c1.sums c1.binds),c2)))
 (ob (L97_5 b6.2.2 b6.1 (w64 (b6.1+1)) b6.2.1) fun y7 =>
 cond (decide (0≤y7.2.1))
 (cond (decide (y7.2.1≤(y7.1.length:Int)))
 (cond (decide ((y7.1.length:Int)≤(y7.1.length:Int)))
 (cond (decide (0≤y7.2.1))
 (cond (decide (y7.2.1≤((((y7.1.take y7.2.1.toNat)++(List.replicate (((y7.1.length:Int)).toNat - y7.2.1.toNat) (Elem.mk s_empty s_empty 0 (Dot.mk 0 0 0))))++((y7.1.take y7.1.length).drop (y7.2.1.toNat+(((y7.1.length:Int)).toNat - y7.2.1.toNat)))).length:Int)))
 (some (.inl (l1,i1,(w64 (i2+1)),(Coll.mk c1.v c1.regs ((((y7.1.take y7.2.1.toNat)++(List.replicate (((y7.1.length:Int)).toNat - y7.2.1.toNat) (Elem.mk s_empty s_empty 0 (Dot.mk 0 0 0))))++((y7.1.take y7.1.length).drop (y7.2.1.toNat+(((y7.1.length:Int)).toNat - y7.2.1.toNat)))).take y7.2.1.toNat) (((y1.1.take y1.2.1.toNat)++[e0])++((y1.1.take y1.1.length).drop y1.2.1.toNat)) c1.sums c1.binds),c2)))
 none)
 none)
 none)
 none)
 none)))
 none)
 none)
 none)
 (ob (L126_2 c1.elems 0 (c1.elems.length:Int) 0 e0) fun y8 =>
 two y8 (fun a9 =>
 some (.inl (l1,i1,(w64 (i2+1)),(Coll.mk c1.v c1.regs a9.2.2 y1.1 c1.sums c1.binds),c2))) (fun b10 =>
 cond (b10.1 == (-1))
 (some (.inl (l1,i1,(w64 (i2+1)),(Coll.mk c1.v c1.regs b10.2.2 y1.1 c1.sums c1.binds),c2)))
 (ob (L97_5 b10.2.2 b10.1 (w64 (b10.1+1)) b10.2.1) fun y11 =>
 cond (decide (0≤y11.2.1))
 (cond (decide (y11.2.1≤(y11.1.length:Int)))
 (cond (decide ((y11.1.length:Int)≤(y11.1.length:Int)))
 (cond (decide (0≤y11.2.1))
 (cond (decide (y11.2.1≤((((y11.1.take y11.2.1.toNat)++(List.replicate (((y11.1.length:Int)).toNat - y11.2.1.toNat) (Elem.mk s_empty s_empty 0 (Dot.mk 0 0 0))))++((y11.1.take y11.1.length).drop (y11.2.1.toNat+(((y11.1.length:Int)).toNat - y11.2.1.toNat)))).length:Int)))
 (some (.inl (l1,i1,(w64 (i2+1)),(Coll.mk c1.v c1.regs ((((y11.1.take y11.2.1.toNat)++(List.replicate (((y11.1.length:Int)).toNat - y11.2.1.toNat) (Elem.mk s_empty s_empty 0 (Dot.mk 0 0 0))))++((y11.1.take y11.1.length).drop (y11.2.1.toNat+(((y11.1.length:Int)).toNat - y11.2.1.toNat)))).take y11.2.1.toNat) y1.1 c1.sums c1.binds),c2)))
 none)
 none)
 none)
 none)
 none))))
 none)
 none)
 (cond (decide (0≤y1.2.1))
 (cond (decide (y1.2.1≤(y1.1.length:Int)))
 (cond (fits ((((y1.1.take y1.2.1.toNat)++[e0])++((y1.1.take y1.1.length).drop y1.2.1.toNat)).length))
 (ob (L126_2 c1.elems 0 (c1.elems.length:Int) 0 e0) fun y12 =>
 two y12 (fun a13 =>
 some (.inl (l1,i1,(w64 (i2+1)),(Coll.mk c1.v c1.regs a13.2.2 (((y1.1.take y1.2.1.toNat)++[e0])++((y1.1.take y1.1.length).drop y1.2.1.toNat)) c1.sums c1.binds),c2))) (fun b14 =>
 cond (b14.1 == (-1))
 (some (.inl (l1,i1,(w64 (i2+1)),(Coll.mk c1.v c1.regs b14.2.2 (((y1.1.take y1.2.1.toNat)++[e0])++((y1.1.take y1.1.length).drop y1.2.1.toNat)) c1.sums c1.binds),c2)))
 (ob (L97_5 b14.2.2 b14.1 (w64 (b14.1+1)) b14.2.1) fun y15 =>
 cond (decide (0≤y15.2.1))
 (cond (decide (y15.2.1≤(y15.1.length:Int)))
 (cond (decide ((y15.1.length:Int)≤(y15.1.length:Int)))
 (cond (decide (0≤y15.2.1))
 (cond (decide (y15.2.1≤((((y15.1.take y15.2.1.toNat)++(List.replicate (((y15.1.length:Int)).toNat - y15.2.1.toNat) (Elem.mk s_empty s_empty 0 (Dot.mk 0 0 0))))++((y15.1.take y15.1.length).drop (y15.2.1.toNat+(((y15.1.length:Int)).toNat - y15.2.1.toNat)))).length:Int)))
 (some (.inl (l1,i1,(w64 (i2+1)),(Coll.mk c1.v c1.regs ((((y15.1.take y15.2.1.toNat)++(List.replicate (((y15.1.length:Int)).toNat - y15.2.1.toNat) (Elem.mk s_empty s_empty 0 (Dot.mk 0 0 0))))++((y15.1.take y15.1.length).drop (y15.2.1.toNat+(((y15.1.length:Int)).toNat - y15.2.1.toNat)))).take y15.2.1.toNat) (((y1.1.take y1.2.1.toNat)++[e0])++((y1.1.take y1.1.length).drop y1.2.1.toNat)) c1.sums c1.binds),c2)))
 none)
 none)
 none)
 none)
 none)))
 none)
 none)
 none))
 none)
 (some (.inr (c1,c2)))
def stp_L53_2 (p:tY9):Option ((tY9)⊕(Coll×Coll)):=step_L53_2 p.1 p.2.1 p.2.2.1 p.2.2.2.1 p.2.2.2.2
def L53_2 (l1:List Dot)(i1:Int)(i2:Int)(c1:Coll)(c2:Coll):Option (Coll×Coll):=iterO stp_L53_2 ((i1 - i2).toNat+2) (l1,i1,i2,c1,c2)
def ch_L53_2:kT (tY9):=kO (kS 13 (kC (kP 0 0) (kC (kP 1 0) (kC (kF j_lDot) (kC kI (kC kI kN))))) (kC (Cod.var 0 36 (kC (kG j_lDot) (kC (kA 2) (kC (kA 3) (kC (kA 4) (kC (kA 5) (kC (kA 6) kN))))))) (kC (Cod.var 1 36 (kC (kA 7) (kC (kA 8) (kC (kA 9) (kC (kA 10) (kC (kA 11) (kC (kA 12) kN))))))) (kC (kR 2 103 j_lReg) (kC (kR 3 100 j_lElem) (kC (kR 4 48 j_lDot) (kC (kR 5 118 j_lSum) (kC (kR 6 121 j_lBind) (kC (kR 7 112 j_lDot) (kC (kR 8 103 j_lReg) (kC (kR 9 100 j_lElem) (kC (kR 10 48 j_lDot) (kC (kR 11 118 j_lSum) (kC (kR 12 121 j_lBind) kN)))))))))))))) (fun p=>(p.1.2.2.1,p.1.2.2.2.1,p.1.2.2.2.2.1,(Coll.mk p.2.1.1 p.2.2.2.1 p.2.2.2.2.1 p.2.2.2.2.2.1 p.2.2.2.2.2.2.1 p.2.2.2.2.2.2.2.1),(Coll.mk p.2.2.2.2.2.2.2.2.1 (t8 p.2).1 (t8 p.2).2.1 (t8 p.2).2.2.1 (t8 p.2).2.2.2.1 (t8 p.2).2.2.2.2.1))) (fun (x:tY9)=>(((),((),(x.1,(x.2.1,(x.2.2.1,()))))),((x.2.2.2.1.v,((),((),((),((),((),())))))),(((),((),((),((),((),((),())))))),(x.2.2.2.1.regs,(x.2.2.2.1.elems,(x.2.2.2.1.gone,(x.2.2.2.1.sums,(x.2.2.2.1.binds,(x.2.2.2.2.v,(x.2.2.2.2.regs,(x.2.2.2.2.elems,(x.2.2.2.2.gone,(x.2.2.2.2.sums,(x.2.2.2.2.binds,()))))))))))))))) (fun _=>rfl)
def co0_L53_2:kT (Coll×Coll):=kO (kS 26 (kC (kP 0 0) (kC (kP 1 0) kN)) (kC (Cod.var 0 36 (kC (kG j_lDot) (kC (kA 2) (kC (kA 24) (kC (kA 25) (kC (kA 5) (kC (kA 6) kN))))))) (kC (Cod.var 1 36 (kC (kA 7) (kC (kA 8) (kC (kA 9) (kC (kA 10) (kC (kA 11) (kC (kA 12) kN))))))) (kC (kR 2 103 j_lReg) (kC (kR 5 118 j_lSum) (kC (kR 6 121 j_lBind) (kC (kR 7 112 j_lDot) (kC (kR 8 103 j_lReg) (kC (kR 9 100 j_lElem) (kC (kR 10 48 j_lDot) (kC (kR 11 118 j_lSum) (kC (kR 12 121 j_lBind) (kC (kR 24 100 j_lElem) (kC (kR 25 48 j_lDot) kN)))))))))))))) (fun p=>((Coll.mk p.2.1.1 p.2.2.2.1 (t8 p.2).2.2.2.1 (t8 p.2).2.2.2.2.1 p.2.2.2.2.1 p.2.2.2.2.2.1),(Coll.mk p.2.2.2.2.2.2.1 p.2.2.2.2.2.2.2.1 p.2.2.2.2.2.2.2.2.1 (t8 p.2).1 (t8 p.2).2.1 (t8 p.2).2.2.1))) (fun (x:Coll×Coll)=>(((),((),())),((x.1.v,((),((),((),((),((),())))))),(((),((),((),((),((),((),())))))),(x.1.regs,(x.1.sums,(x.1.binds,(x.2.v,(x.2.regs,(x.2.elems,(x.2.gone,(x.2.sums,(x.2.binds,(x.1.elems,(x.1.gone,()))))))))))))))) (fun _=>rfl)
def sl_L53_2:SFn TL:=SFn.one ch_L53_2.dec (fun p=>L53_2 p.1 p.2.1 p.2.2.1 p.2.2.2.1 p.2.2.2.2) (.exit 0) co0_L53_2.enc
def cs_lL53_2:cL:=[(89,df_dotCompare)]
def ss_lL53_2:sL:=[(219002,sl_L119_2),(197005,sl_L97_5),(226002,sl_L126_2)]
def v_L53_2:Env:=envOf tab sl sh [(90,fd90),(119,fd119),(120,fd120),(97,fd97),(126,fd126)] [(89,.pure),(96,(.ins 48))]
theorem v_L53_2_ok:EnvOK PR (mkD cs_lL53_2 ss_lL53_2) v_L53_2:=envOK_of base (aC (st90.okl rfl aN) (aC (st119.okl rfl (aC (lC ok_L119_2 rfl) aN)) (aC (st120.okl rfl aN) (aC (st97.okl rfl (aC (lC ok_L97_5 rfl) aN)) (aC (st126.okl rfl (aC (lC ok_L126_2 rfl) aN)) aN))))) (aC (oD ok_dotCompare rfl) (aC (okIns okI_96) aN))
theorem run_L53_2 (x:tY9):Out.run (mkO cs_lL53_2 ss_lL53_2) (evRound v_L53_2 12 20 fd53.an q_L53_2 (loopIn (loopsOf fd53.body) 2) (ch_L53_2.enc x)) (back ch_L53_2 co0_L53_2 fun e=>exE e (.exit 0))=stp_L53_2 x:=by kernel_rfl
theorem ok_L53_2:LoopOK PR (oneS sl_L53_2) nt53 q_L53_2 (loopIn (loopsOf fd53.body) 2) :=
  loop_one v_L53_2_ok (loops:=12) (k:=20) (an:=fd53.an) (by kernel_rfl) (FnSt.subl rfl st53.keys (aC (.inl (by kernel_rfl)) aN)) ch_L53_2 co0_L53_2 (.exit 0) rfl stp_L53_2 _ run_L53_2 (fun x y h=>⟨_,h⟩) (fun _=>below_iff.1 rfl)
abbrev tY10:=(List Sum)×Int×Int×ByteArray
def step_L127_2 (l1:List Sum)(i1:Int)(i2:Int)(s1:ByteArray):Option ((tY10)⊕((List Sum)×Int×ByteArray)) :=
 cond (decide (i1 < i2))
 (cond (decide (0≤(w64 ((w64 (i1+i2)).tdiv 2))))
 (cond (decide ((w64 ((w64 (i1+i2)).tdiv 2)) < (l1.length:Int)))
 (ob (l1[((w64 ((w64 (i1+i2)).tdiv 2))).toNat]?) fun e0 =>
 ob (cmpStr e0.key s1) fun r1 =>
 some (.inl (l1,(cond (decide (r1 < 0)) (w64 ((w64 ((w64 (i1+i2)).tdiv 2))+1)) i1),(cond (decide (r1 < 0)) i2 (w64 ((w64 (i1+i2)).tdiv 2))),s1)))
 none)
 none)
 (some (.inr (l1,i1,s1)))
def stp_L127_2 (p:tY10):Option ((tY10)⊕((List Sum)×Int×ByteArray)):=step_L127_2 p.1 p.2.1 p.2.2.1 p.2.2.2
def L127_2 (l1:List Sum)(i1:Int)(i2:Int)(s1:ByteArray):Option ((List Sum)×Int×ByteArray):=iterO stp_L127_2 ((i2 - i1).toNat+2) (l1,i1,i2,s1)
def ch_L127_2:kT (tY10):=kO (kS 2 (kC (Cod.xs (Cod.sc (kA 0))) (kC (Cod.xs (Cod.sc (Cod.clo 128 [] [(1,0)]))) (kC kI (kC kI kN)))) (kC (kR 0 118 j_lSum) (kC (Cod.var 1 9 (kC kE kN)) kN))) (fun p=>(p.2.1,p.1.2.2.1,p.1.2.2.2.1,p.2.2.1.1)) (fun (x:tY10)=>(((),((),(x.2.1,(x.2.2.1,())))),(x.1,((x.2.2.2,()),())))) (fun _=>rfl)
def co0_L127_2:kT ((List Sum)×Int×ByteArray):=kO (kS 4 (kC (Cod.xs (Cod.sc (kA 0))) (kC (Cod.xs (Cod.sc (Cod.clo 128 [] [(1,0)]))) (kC kI kN))) (kC (kR 0 118 j_lSum) (kC (Cod.var 1 9 (kC kE kN)) kN))) (fun p=>(p.2.1,p.1.2.2.1,p.2.2.1.1)) (fun (x:(List Sum)×Int×ByteArray)=>(((),((),(x.2.1,()))),(x.1,((x.2.2,()),())))) (fun _=>rfl)
def sl_L127_2:SFn TL:=SFn.one ch_L127_2.dec (fun p=>L127_2 p.1 p.2.1 p.2.2.1 p.2.2.2) (.exit 0) co0_L127_2.enc
def cs_lL127_2:cL:=[(94,df_cmpStr)]
def v_L127_2:Env:=envOf tab sl sh [(128,fd128)] [(94,.pure)]
theorem v_L127_2_ok:EnvOK PR (mkD cs_lL127_2 sZ) v_L127_2:=envOK_of base (aC (st128.okl rfl aN) aN) (aC (oD ok_cmpStr rfl) aN)
theorem run_L127_2 (x:tY10):Out.run (mkO cs_lL127_2 sZ) (evRound v_L127_2 12 20 fd127.an q_L127_2 (loopIn (loopsOf fd127.body) 2) (ch_L127_2.enc x)) (back ch_L127_2 co0_L127_2 fun e=>exE e (.exit 0))=stp_L127_2 x:=by kernel_rfl
theorem ok_L127_2:LoopOK PR (oneS sl_L127_2) nt127 q_L127_2 (loopIn (loopsOf fd127.body) 2) :=
  loop_one v_L127_2_ok (loops:=12) (k:=20) (an:=fd127.an) (by kernel_rfl) (FnSt.subl rfl st127.keys (aC (.inl (by kernel_rfl)) aN)) ch_L127_2 co0_L127_2 (.exit 0) rfl stp_L127_2 _ run_L127_2 (fun x y h=>⟨_,h⟩) (fun _=>below_iff.1 rfl)
abbrev tY11:=(List Bind)×Int×Int×Int
def step_L131_2 (l1:List Bind)(i1:Int)(i2:Int)(i3:Int):Option ((tY11)⊕((List Bind)×Int×Int)) :=
 cond (decide (i1 < i2))
 (cond (decide (0≤(w64 ((w64 (i1+i2)).tdiv 2))))
 (cond (decide ((w64 ((w64 (i1+i2)).tdiv 2)) < (l1.length:Int)))
 (ob (l1[((w64 ((w64 (i1+i2)).tdiv 2))).toNat]?) fun e0 =>
 ob (cmpInt e0.id_ i3) fun r1 =>
 some (.inl (l1,(cond (decide (r1 < 0)) (w64 ((w64 ((w64 (i1+i2)).tdiv 2))+1)) i1),(cond (decide (r1 < 0)) i2 (w64 ((w64 (i1+i2)).tdiv 2))),i3)))
 none)
 none)
 (some (.inr (l1,i1,i3)))
def stp_L131_2 (p:tY11):Option ((tY11)⊕((List Bind)×Int×Int)):=step_L131_2 p.1 p.2.1 p.2.2.1 p.2.2.2
def L131_2 (l1:List Bind)(i1:Int)(i2:Int)(i3:Int):Option ((List Bind)×Int×Int):=iterO stp_L131_2 ((i2 - i1).toNat+2) (l1,i1,i2,i3)
def ch_L131_2:kT (tY11):=kO (kS 2 (kC (Cod.xs (Cod.sc (kA 0))) (kC (Cod.xs (Cod.sc (Cod.clo 132 [] [(1,0)]))) (kC kI (kC kI kN)))) (kC (kR 0 121 j_lBind) (kC (Cod.var 1 3 (kC kJ kN)) kN))) (fun p=>(p.2.1,p.1.2.2.1,p.1.2.2.2.1,p.2.2.1.1)) (fun (x:tY11)=>(((),((),(x.2.1,(x.2.2.1,())))),(x.1,((x.2.2.2,()),())))) (fun _=>rfl)
def co0_L131_2:kT ((List Bind)×Int×Int):=kO (kS 4 (kC (Cod.xs (Cod.sc (kA 0))) (kC (Cod.xs (Cod.sc (Cod.clo 132 [] [(1,0)]))) (kC kI kN))) (kC (kR 0 121 j_lBind) (kC (Cod.var 1 3 (kC kJ kN)) kN))) (fun p=>(p.2.1,p.1.2.2.1,p.2.2.1.1)) (fun (x:(List Bind)×Int×Int)=>(((),((),(x.2.1,()))),(x.1,((x.2.2,()),())))) (fun _=>rfl)
def sl_L131_2:SFn TL:=SFn.one ch_L131_2.dec (fun p=>L131_2 p.1 p.2.1 p.2.2.1 p.2.2.2) (.exit 0) co0_L131_2.enc
def cs_lL131_2:cL:=[(118,df_cmpInt)]
def v_L131_2:Env:=envOf tab sl sh [(132,fd132)] [(118,.pure)]
theorem v_L131_2_ok:EnvOK PR (mkD cs_lL131_2 sZ) v_L131_2:=envOK_of base (aC (st132.okl rfl aN) aN) (aC (oD ok_cmpInt rfl) aN)
theorem run_L131_2 (x:tY11):Out.run (mkO cs_lL131_2 sZ) (evRound v_L131_2 12 20 fd131.an q_L131_2 (loopIn (loopsOf fd131.body) 2) (ch_L131_2.enc x)) (back ch_L131_2 co0_L131_2 fun e=>exE e (.exit 0))=stp_L131_2 x:=by kernel_rfl
theorem ok_L131_2:LoopOK PR (oneS sl_L131_2) nt131 q_L131_2 (loopIn (loopsOf fd131.body) 2) :=
  loop_one v_L131_2_ok (loops:=12) (k:=20) (an:=fd131.an) (by kernel_rfl) (FnSt.subl rfl st131.keys (aC (.inl (by kernel_rfl)) aN)) ch_L131_2 co0_L131_2 (.exit 0) rfl stp_L131_2 _ run_L131_2 (fun x y h=>⟨_,h⟩) (fun _=>below_iff.1 rfl)
def apply_ (c1:Coll)(o1:Op):Option (Coll×Int) :=
 ob (collOwn c1) fun y0 =>
 ob (opsCheck o1) fun r1 =>
 cond (r1 != 0)
 (some (y0,r1))
 (ob (vectorStep y0.v o1.dot) fun r2 =>
 cond (r2.2 != 0)
 (some (y0,r2.2))
 (cond (o1.kind == 1)
 (ob (L114_2 y0.regs 0 (y0.regs.length:Int) o1.key) fun y3 =>
 cond (decide (y3.2.1 < (y3.1.length:Int)))
 (cond (decide (0≤y3.2.1))
 (cond (decide (y3.2.1 < (y3.1.length:Int)))
 (ob (y3.1[y3.2.1.toNat]?) fun e4 =>
 ob (cmpStr e4.key y3.2.2) fun r5 =>
 cond (!(r5 == 0))
 (cond (decide (0≤y3.2.1))
 (cond (decide (y3.2.1≤(y3.1.length:Int)))
 (cond (fits ((((y3.1.take y3.2.1.toNat)++[(Reg.mk o1.key o1.text o1.ver o1.time o1.dot)])++((y3.1.take y3.1.length).drop y3.2.1.toNat)).length))
 (ob (collOwn (Coll.mk r2.1 (((y3.1.take y3.2.1.toNat)++[(Reg.mk o1.key o1.text o1.ver o1.time o1.dot)])++((y3.1.take y3.1.length).drop y3.2.1.toNat)) y0.elems y0.gone y0.sums y0.binds)) fun y39 =>
 some (y39,0))
 none)
 none)
 none)
 (cond (decide (0≤y3.2.1))
 (cond (decide (y3.2.1 < (y3.1.length:Int)))
 (ob (y3.1[y3.2.1.toNat]?) fun e6 =>
 cond (decide (o1.time > e6.time))
 (cond (decide (0≤y3.2.1))
 (cond (decide (y3.2.1 < (y3.1.length:Int)))
 (ob (y3.1[y3.2.1.toNat]?) fun _ =>
 ob (collOwn (Coll.mk r2.1 (y3.1.set y3.2.1.toNat (Reg.mk o1.key o1.text o1.ver o1.time o1.dot)) y0.elems y0.gone y0.sums y0.binds)) fun y40 =>
 some (y40,0))
 none)
 none)
 (cond (decide (0≤y3.2.1))
 (cond (decide (y3.2.1 < (y3.1.length:Int)))
 (ob (y3.1[y3.2.1.toNat]?) fun e7 =>
 cond (o1.time == e7.time)
 (cond (decide (0≤y3.2.1))
 (cond (decide (y3.2.1 < (y3.1.length:Int)))
 (ob (y3.1[y3.2.1.toNat]?) fun e8 =>
 ob (dotCompare o1.dot e8.dot) fun r9 =>
 cond (decide (r9 > 0))
 (cond (decide (0≤y3.2.1))
 (cond (decide (y3.2.1 < (y3.1.length:Int)))
 (ob (y3.1[y3.2.1.toNat]?) fun _ =>
 ob (collOwn (Coll.mk r2.1 (y3.1.set y3.2.1.toNat (Reg.mk o1.key o1.text o1.ver o1.time o1.dot)) y0.elems y0.gone y0.sums y0.binds)) fun y41 =>
 some (y41,0))
 none)
 none)
 (ob (collOwn (Coll.mk r2.1 y3.1 y0.elems y0.gone y0.sums y0.binds)) fun y42 =>
 some (y42,0)))
 none)
 none)
 (ob (collOwn (Coll.mk r2.1 y3.1 y0.elems y0.gone y0.sums y0.binds)) fun y43 =>
 some (y43,0)))
 none)
 none))
 none)
 none))
 none)
 none)
 (cond (decide (0≤y3.2.1))
 (cond (decide (y3.2.1≤(y3.1.length:Int)))
 (cond (fits ((((y3.1.take y3.2.1.toNat)++[(Reg.mk o1.key o1.text o1.ver o1.time o1.dot)])++((y3.1.take y3.1.length).drop y3.2.1.toNat)).length))
 (ob (collOwn (Coll.mk r2.1 (((y3.1.take y3.2.1.toNat)++[(Reg.mk o1.key o1.text o1.ver o1.time o1.dot)])++((y3.1.take y3.1.length).drop y3.2.1.toNat)) y0.elems y0.gone y0.sums y0.binds)) fun y44 =>
 some (y44,0))
 none)
 none)
 none))
 (cond (o1.kind == 2)
 (ob (L119_2 y0.gone 0 (y0.gone.length:Int) o1.dot) fun y12 =>
 cond (decide (y12.2.1 < (y12.1.length:Int)))
 (cond (decide (0≤y12.2.1))
 (cond (decide (y12.2.1 < (y12.1.length:Int)))
 (ob (y12.1[y12.2.1.toNat]?) fun e13 =>
 ob (dotCompare e13 y12.2.2) fun r14 =>
 cond (r14 == 0)
 (ob (collOwn (Coll.mk r2.1 y0.regs y0.elems y12.1 y0.sums y0.binds)) fun y45 =>
 some (y45,0))
 (ob (L91_2 y0.elems 0 (y0.elems.length:Int) o1) fun y15 =>
 cond (decide (y15.2.1 < (y15.1.length:Int)))
 (cond (decide (0≤y15.2.1))
 (cond (decide (y15.2.1 < (y15.1.length:Int)))
 (ob (y15.1[y15.2.1.toNat]?) fun e16 =>
 ob (cmpStr e16.key y15.2.2.key) fun r17 =>
 ob (cmpStr e16.text y15.2.2.text) fun r18 =>
 ob (dotCompare e16.dot y15.2.2.dot) fun r19 =>
 ob (cmpOr [r17,r18,r19]) fun _ =>
 cond (decide (0≤y15.2.1))
 (cond (decide (y15.2.1≤(y15.1.length:Int)))
 (cond (fits ((((y15.1.take y15.2.1.toNat)++[(Elem.mk y15.2.2.key y15.2.2.text y15.2.2.ver y15.2.2.dot)])++((y15.1.take y15.1.length).drop y15.2.1.toNat)).length))
 (ob (collOwn (Coll.mk r2.1 y0.regs (((y15.1.take y15.2.1.toNat)++[(Elem.mk y15.2.2.key y15.2.2.text y15.2.2.ver y15.2.2.dot)])++((y15.1.take y15.1.length).drop y15.2.1.toNat)) y12.1 y0.sums y0.binds)) fun y46 =>
 some (y46,0))
 none)
 none)
 none)
 none)
 none)
 (cond (decide (0≤y15.2.1))
 (cond (decide (y15.2.1≤(y15.1.length:Int)))
 (cond (fits ((((y15.1.take y15.2.1.toNat)++[(Elem.mk y15.2.2.key y15.2.2.text y15.2.2.ver y15.2.2.dot)])++((y15.1.take y15.1.length).drop y15.2.1.toNat)).length))
 (ob (collOwn (Coll.mk r2.1 y0.regs (((y15.1.take y15.2.1.toNat)++[(Elem.mk y15.2.2.key y15.2.2.text y15.2.2.ver y15.2.2.dot)])++((y15.1.take y15.1.length).drop y15.2.1.toNat)) y12.1 y0.sums y0.binds)) fun y47 =>
 some (y47,0))
 none)
 none)
 none)))
 none)
 none)
 (ob (L91_2 y0.elems 0 (y0.elems.length:Int) o1) fun y21 =>
 cond (decide (y21.2.1 < (y21.1.length:Int)))
 (cond (decide (0≤y21.2.1))
 (cond (decide (y21.2.1 < (y21.1.length:Int)))
 (ob (y21.1[y21.2.1.toNat]?) fun e22 =>
 ob (cmpStr e22.key y21.2.2.key) fun r23 =>
 ob (cmpStr e22.text y21.2.2.text) fun r24 =>
 ob (dotCompare e22.dot y21.2.2.dot) fun r25 =>
 ob (cmpOr [r23,r24,r25]) fun _ =>
 cond (decide (0≤y21.2.1))
 (cond (decide (y21.2.1≤(y21.1.length:Int)))
 (cond (fits ((((y21.1.take y21.2.1.toNat)++[(Elem.mk y21.2.2.key y21.2.2.text y21.2.2.ver y21.2.2.dot)])++((y21.1.take y21.1.length).drop y21.2.1.toNat)).length))
 (ob (collOwn (Coll.mk r2.1 y0.regs (((y21.1.take y21.2.1.toNat)++[(Elem.mk y21.2.2.key y21.2.2.text y21.2.2.ver y21.2.2.dot)])++((y21.1.take y21.1.length).drop y21.2.1.toNat)) y12.1 y0.sums y0.binds)) fun y48 =>
 some (y48,0))
 none)
 none)
 none)
 none)
 none)
 (cond (decide (0≤y21.2.1))
 (cond (decide (y21.2.1≤(y21.1.length:Int)))
 (cond (fits ((((y21.1.take y21.2.1.toNat)++[(Elem.mk y21.2.2.key y21.2.2.text y21.2.2.ver y21.2.2.dot)])++((y21.1.take y21.1.length).drop y21.2.1.toNat)).length))
 (ob (collOwn (Coll.mk r2.1 y0.regs (((y21.1.take y21.2.1.toNat)++[(Elem.mk y21.2.2.key y21.2.2.text y21.2.2.ver y21.2.2.dot)])++((y21.1.take y21.1.length).drop y21.2.1.toNat)) y12.1 y0.sums y0.binds)) fun y49 =>
 some (y49,0))
 none)
 none)
 none)))
 (cond (o1.kind == 3)
 (ob (L53_2 o1.dots (o1.dots.length:Int) 0 (Coll.mk r2.1 y0.regs y0.elems y0.gone y0.sums y0.binds) (Coll.mk [] [] [] [] [] [])) fun y27 =>
 ob (collOwn y27.1) fun y50 =>
 some (y50,0))
 (cond (o1.kind == 4)
 (ob (L127_2 y0.sums 0 (y0.sums.length:Int) o1.key) fun y28 =>
 cond (decide (y28.2.1 < (y28.1.length:Int)))
 (cond (decide (0≤y28.2.1))
 (cond (decide (y28.2.1 < (y28.1.length:Int)))
 (ob (y28.1[y28.2.1.toNat]?) fun e29 =>
 ob (cmpStr e29.key y28.2.2) fun r30 =>
 cond (r30 == 0)
 (cond (decide (0≤y28.2.1))
 (cond (decide (y28.2.1 < (y28.1.length:Int)))
 (ob (y28.1[y28.2.1.toNat]?) fun e31 =>
 cond (decide (0≤y28.2.1))
 (cond (decide (y28.2.1 < (y28.1.length:Int)))
 (ob (y28.1[y28.2.1.toNat]?) fun e32 =>
 ob (collOwn (Coll.mk r2.1 y0.regs y0.elems y0.gone (y28.1.set y28.2.1.toNat (Sum.mk e32.key (w64 (e31.n+o1.n)))) y0.binds)) fun y51 =>
 some (y51,0))
 none)
 none)
 none)
 none)
 (cond (decide (0≤y28.2.1))
 (cond (decide (y28.2.1≤(y28.1.length:Int)))
 (cond (fits ((((y28.1.take y28.2.1.toNat)++[(Sum.mk o1.key o1.n)])++((y28.1.take y28.1.length).drop y28.2.1.toNat)).length))
 (ob (collOwn (Coll.mk r2.1 y0.regs y0.elems y0.gone (((y28.1.take y28.2.1.toNat)++[(Sum.mk o1.key o1.n)])++((y28.1.take y28.1.length).drop y28.2.1.toNat)) y0.binds)) fun y52 =>
 some (y52,0))
 none)
 none)
 none))
 none)
 none)
 (cond (decide (0≤y28.2.1))
 (cond (decide (y28.2.1≤(y28.1.length:Int)))
 (cond (fits ((((y28.1.take y28.2.1.toNat)++[(Sum.mk o1.key o1.n)])++((y28.1.take y28.1.length).drop y28.2.1.toNat)).length))
 (ob (collOwn (Coll.mk r2.1 y0.regs y0.elems y0.gone (((y28.1.take y28.2.1.toNat)++[(Sum.mk o1.key o1.n)])++((y28.1.take y28.1.length).drop y28.2.1.toNat)) y0.binds)) fun y53 =>
 some (y53,0))
 none)
 none)
 none))
 (cond (o1.kind == 5)
 (ob (L131_2 y0.binds 0 (y0.binds.length:Int) o1.n) fun y33 =>
 cond (decide (y33.2.1 < (y33.1.length:Int)))
 (cond (decide (0≤y33.2.1))
 (cond (decide (y33.2.1 < (y33.1.length:Int)))
 (ob (y33.1[y33.2.1.toNat]?) fun e34 =>
 ob (cmpInt e34.id_ y33.2.2) fun r35 =>
 cond (!(r35 == 0))
 (cond (decide (0≤y33.2.1))
 (cond (decide (y33.2.1≤(y33.1.length:Int)))
 (cond (fits ((((y33.1.take y33.2.1.toNat)++[(Bind.mk o1.n o1.text o1.ver o1.dot)])++((y33.1.take y33.1.length).drop y33.2.1.toNat)).length))
 (ob (collOwn (Coll.mk r2.1 y0.regs y0.elems y0.gone y0.sums (((y33.1.take y33.2.1.toNat)++[(Bind.mk o1.n o1.text o1.ver o1.dot)])++((y33.1.take y33.1.length).drop y33.2.1.toNat)))) fun y54 =>
 some (y54,0))
 none)
 none)
 none)
 (cond (decide (0≤y33.2.1))
 (cond (decide (y33.2.1 < (y33.1.length:Int)))
 (ob (y33.1[y33.2.1.toNat]?) fun e36 =>
 ob (dotCompare o1.dot e36.dot) fun r37 =>
 cond (decide (r37 < 0))
 (cond (decide (0≤y33.2.1))
 (cond (decide (y33.2.1 < (y33.1.length:Int)))
 (ob (y33.1[y33.2.1.toNat]?) fun _ =>
 ob (collOwn (Coll.mk r2.1 y0.regs y0.elems y0.gone y0.sums (y33.1.set y33.2.1.toNat (Bind.mk o1.n o1.text o1.ver o1.dot)))) fun y55 =>
 some (y55,0))
 none)
 none)
 (ob (collOwn (Coll.mk r2.1 y0.regs y0.elems y0.gone y0.sums y33.1)) fun y56 =>
 some (y56,0)))
 none)
 none))
 none)
 none)
 (cond (decide (0≤y33.2.1))
 (cond (decide (y33.2.1≤(y33.1.length:Int)))
 (cond (fits ((((y33.1.take y33.2.1.toNat)++[(Bind.mk o1.n o1.text o1.ver o1.dot)])++((y33.1.take y33.1.length).drop y33.2.1.toNat)).length))
 (ob (collOwn (Coll.mk r2.1 y0.regs y0.elems y0.gone y0.sums (((y33.1.take y33.2.1.toNat)++[(Bind.mk o1.n o1.text o1.ver o1.dot)])++((y33.1.take y33.1.length).drop y33.2.1.toNat)))) fun y57 =>
 some (y57,0))
 none)
 none)
 none))
 (ob (collOwn (Coll.mk r2.1 y0.regs y0.elems y0.gone y0.sums y0.binds)) fun y58 =>
 some (y58,0))))))))
def un_apply_ (p:Coll×Op):Option (Coll×Int):=apply_ p.1 p.2
def df_apply_:DFn TL:=DFn.of (DA.cons (DT.agg dc_Coll) (DA.one (DT.agg dc_Op))) un_apply_ (DA.cons (DT.agg dc_Coll) (DA.one dI))
theorem run_apply_:DRun [(42,df_opsCheck),(50,df_vectorStep),(94,df_cmpStr),(89,df_dotCompare),(93,df_cmpOr),(118,df_cmpInt)] [(49,sf_collOwn),(214002,sl_L114_2),(219002,sl_L119_2),(191002,sl_L91_2),(153002,sl_L53_2),(227002,sl_L127_2),(231002,sl_L131_2)] (envOf tab sl sh [(26,fd26),(51,fd51),(87,fd87),(114,fd114),(115,fd115),(52,fd52),(90,fd90),(119,fd119),(120,fd120),(91,fd91),(92,fd92),(53,fd53),(54,fd54),(99,fd99),(127,fd127),(128,fd128),(55,fd55),(101,fd101),(131,fd131),(132,fd132)] [(49,.sum),(42,.pure),(50,.keep),(94,.pure),(88,(.ins 103)),(89,.pure),(93,.pure),(95,(.ins 100)),(100,(.ins 118)),(118,.pure),(102,(.ins 121))]) 26 (DA.cons (DT.agg dc_Coll) (DA.one (DT.agg dc_Op))) un_apply_ (DA.cons (DT.agg dc_Coll) (DA.one dI)):=fun _=>by kernel_rfl
theorem ok_apply_:DOK PR 26 .keep df_apply_:=dok run_apply_ (envOK_of base (aC (st26.okl rfl aN) (aC (st51.okl rfl aN) (aC (st87.okl rfl aN) (aC (st114.okl rfl (aC (lC ok_L114_2 rfl) aN)) (aC (st115.okl rfl aN) (aC (st52.okl rfl aN) (aC (st90.okl rfl aN) (aC (st119.okl rfl (aC (lC ok_L119_2 rfl) aN)) (aC (st120.okl rfl aN) (aC (st91.okl rfl (aC (lC ok_L91_2 rfl) aN)) (aC (st92.okl rfl aN) (aC (st53.okl rfl (aC (lC ok_L53_2 rfl) aN)) (aC (st54.okl rfl aN) (aC (st99.okl rfl aN) (aC (st127.okl rfl (aC (lC ok_L127_2 rfl) aN)) (aC (st128.okl rfl aN) (aC (st55.okl rfl aN) (aC (st101.okl rfl aN) (aC (st131.okl rfl (aC (lC ok_L131_2 rfl) aN)) (aC (st132.okl rfl aN) aN)))))))))))))))))))) (aC (okS rfl ok_collOwn) (aC (oD ok_opsCheck rfl) (aC (oD ok_vectorStep rfl) (aC (oD ok_cmpStr rfl) (aC (okIns okI_88) (aC (oD ok_dotCompare rfl) (aC (oD ok_cmpOr rfl) (aC (okIns okI_95) (aC (okIns okI_100) (aC (oD ok_cmpInt rfl) (aC (okIns okI_102) aN)))))))))))) (.inl rfl) st26.enters
abbrev tY12:=ByteArray×ByteArray×(List Dot)×(List Elem)×Int×Int
def step_L40_3 (s1:ByteArray)(s2:ByteArray)(l1:List Dot)(l2:List Elem)(i1:Int)(i2:Int):Option ((tY12)⊕((List Dot))) :=
 cond (decide (i2 < i1))
 (cond (decide (0≤i2))
 (ob (l2[i2.toNat]?) fun e0 =>
 cond (cond (sEq e0.key s1) (sEq e0.text s2) false)
 (cond (fits ((l1++[e0.dot]).length))
 (some (.inl (s1,s2,(l1++[e0.dot]),l2,i1,(w64 (i2+1)))))
 none)
 (some (.inl (s1,s2,l1,l2,i1,(w64 (i2+1))))))
 none)
 (some (.inr l1))
def stp_L40_3 (p:tY12):Option ((tY12)⊕((List Dot))):=step_L40_3 p.1 p.2.1 p.2.2.1 p.2.2.2.1 p.2.2.2.2.1 p.2.2.2.2.2
def L40_3 (s1:ByteArray)(s2:ByteArray)(l1:List Dot)(l2:List Elem)(i1:Int)(i2:Int):Option ((List Dot)):=iterO stp_L40_3 ((i1 - i2).toNat+2) (s1,s2,l1,l2,i1,i2)
def ch_L40_3:kT (tY12):=kO (kS 1 (kC (Cod.xs (Cod.sc kE)) (kC (Cod.xs (Cod.sc kE)) (kC (Cod.xs (Cod.sc (kA 0))) (kC (kF j_lElem) (kC kI (kC kI kN)))))) (kC (kR 0 48 j_lDot) kN)) (fun ((z0,z1,_,z2,z3,z4,_),z5,_)=>(z0,z1,z5,z2,z3,z4)) (fun (x:tY12)=>((x.1,(x.2.1,((),(x.2.2.2.1,(x.2.2.2.2.1,(x.2.2.2.2.2,())))))),(x.2.2.1,()))) (fun _=>rfl)
def co0_L40_3:kT ((List Dot)):=kO (kS 2 (kC (Cod.xs (Cod.sc (kA 1))) kN) (kC (kR 1 48 j_lDot) kN)) (fun p=>p.2.1) (fun (x:(List Dot))=>(((),()),(x,()))) (fun _=>rfl)
def sl_L40_3:SFn TL:=SFn.one ch_L40_3.dec (fun p=>L40_3 p.1 p.2.1 p.2.2.1 p.2.2.2.1 p.2.2.2.2.1 p.2.2.2.2.2) (.exit 0) co0_L40_3.enc
def v_L40_3:Env:=envOf tab sl sh [] []
theorem v_L40_3_ok:EnvOK PR (mkD cZ sZ) v_L40_3:=envOK_of base aN aN
theorem run_L40_3 (x:tY12):Out.run (mkO cZ sZ) (evRound v_L40_3 12 20 fd40.an q_L40_3 (loopIn (loopsOf fd40.body) 3) (ch_L40_3.enc x)) (back ch_L40_3 co0_L40_3 fun e=>exE e (.exit 0))=stp_L40_3 x:=by kernel_rfl
theorem ok_L40_3:LoopOK PR (oneS sl_L40_3) nt40 q_L40_3 (loopIn (loopsOf fd40.body) 3) :=
  loop_one v_L40_3_ok (loops:=12) (k:=20) (an:=fd40.an) (by kernel_rfl) (FnSt.subl rfl st40.keys (aC (.inl (by kernel_rfl)) aN)) ch_L40_3 co0_L40_3 (.exit 0) rfl stp_L40_3 _ run_L40_3 (fun x y h=>⟨_,h⟩) (fun _=>below_iff.1 rfl)
def collDots (c1:Coll)(s1:ByteArray)(s2:ByteArray):Option ((List Dot)) :=
 ob (L40_3 s1 s2 [] c1.elems (c1.elems.length:Int) 0) fun y0 =>
 some y0
def un_collDots (p:Coll×ByteArray×ByteArray):Option ((List Dot)):=collDots p.1 p.2.1 p.2.2
def df_collDots:DFn TL:=DFn.of (DA.cons (DT.agg dc_Coll) (DA.cons (DT.one DI.str) (DA.one (DT.one DI.str)))) un_collDots (DA.one (DT.one di_lDot))
theorem run_collDots:DRun [] [(140003,sl_L40_3)] (envOf tab sl sh [(40,fd40)] []) 40 (DA.cons (DT.agg dc_Coll) (DA.cons (DT.one DI.str) (DA.one (DT.one DI.str)))) un_collDots (DA.one (DT.one di_lDot)):=fun _=>by kernel_rfl
theorem ok_collDots:DOK PR 40 .keep df_collDots:=dok run_collDots (envOK_of base (aC (st40.okl rfl (aC (lC ok_L40_3 rfl) aN)) aN) aN) (.inl rfl) st40.enters
def step_L20_3 (s1:ByteArray)(s2:ByteArray)(l1:List Dot)(i1:Int)(c1:Coll):Option ((ByteArray×ByteArray×(List Dot)×Int×Coll)⊕((List Dot)×Coll)) :=
 cond (decide (i1 < (c1.elems.length:Int)))
 (cond (decide (0≤i1))
 (ob (c1.elems[i1.toNat]?) fun e0 =>
 cond (sEq e0.key s1)
 (cond (decide (0≤i1))
 (ob (c1.elems[i1.toNat]?) fun e1 =>
 cond (sEq e1.text s2)
 (cond (decide (0≤i1))
 (ob (c1.elems[i1.toNat]?) fun e2 =>
 cond (fits ((l1++[e2.dot]).length))
 (some (.inl (s1,s2,(l1++[e2.dot]),(w64 (i1+1)),c1)))
 none)
 none)
 (some (.inl (s1,s2,l1,(w64 (i1+1)),c1))))
 none)
 (some (.inl (s1,s2,l1,(w64 (i1+1)),c1))))
 none)
 (some (.inr (l1,c1)))
def stp_L20_3 (p:ByteArray×ByteArray×(List Dot)×Int×Coll):Option ((ByteArray×ByteArray×(List Dot)×Int×Coll)⊕((List Dot)×Coll)):=step_L20_3 p.1 p.2.1 p.2.2.1 p.2.2.2.1 p.2.2.2.2
def L20_3 (s1:ByteArray)(s2:ByteArray)(l1:List Dot)(i1:Int)(c1:Coll):Option ((List Dot)×Coll):=iterO stp_L20_3 (1099511627776) (s1,s2,l1,i1,c1)
def refDots (c1:Coll)(s1:ByteArray)(s2:ByteArray):Option ((List Dot)) :=
 ob (L20_3 s1 s2 [] 0 c1) fun y0 =>
 some y0.1
def leaseOwn2 (lx1:Lease):Option Lease :=
 cond (fits lx1.slices.length)
 (cond (fits lx1.ids.length)
 (cond (fits lx1.used.length)
 (some lx1)
 none)
 none)
 none
def cc_Lease:Cod (List (C TL)) Lease:=kO (kC kJ (kC kJ (kC kJ (kC kJ (kC (kG j_lSlice) (kC (kG j_lRange) (kC (kG j_lInt) kN))))))) (fun (z0,z1,z2,z3,z4,z5,z6,_)=>(Lease.mk z0 z1 z2 z3 z4 z5 z6)) (fun (x:Lease)=>(x.device,(x.epoch,(x.until_,(x.last,(x.slices,(x.ids,(x.used,())))))))) (fun _=>rfl)
def ch_leaseOwn2:kT (Lease):=kO (kS 0 (kC (Cod.xs (Cod.sa cc_Lease)) kN) kN) (fun p=>p.1.1) (fun (x:Lease)=>((x,()),())) (fun _=>rfl)
def co_leaseOwn2:kT (Lease):=kO (kS 3 (kC (Cod.xs (Cod.sa (kC kJ (kC kJ (kC kJ (kC kJ (kC (kA 0) (kC (kA 1) (kC (kA 2) kN))))))))) kN) (kC (kR 0 62 j_lSlice) (kC (kR 1 98 j_lRange) (kC (kR 2 3 j_lInt) kN)))) (fun (((z0,z1,z2,z3,_),_),z4,z5,z6,_)=>(Lease.mk z0 z1 z2 z3 z4 z5 z6)) (fun (x:Lease)=>(((x.device,(x.epoch,(x.until_,(x.last,((),((),((),()))))))),()),(x.slices,(x.ids,(x.used,()))))) (fun _=>rfl)
def un_leaseOwn2 (p:Lease):Option Lease:=leaseOwn2 p
def sf_leaseOwn2:SFn TL:=SFn.one ch_leaseOwn2.dec un_leaseOwn2 .normal co_leaseOwn2.enc
def env_leaseOwn2:Env:=envOf tab sl sh [(105,fd105)] [(82,(.cln 62)),(83,(.cln 98)),(84,(.cln 3))]
theorem env_leaseOwn2_ok:EnvOK PR (mkD cZ sZ) env_leaseOwn2:=envOK_of base (aC (st105.okl rfl aN) aN) (aC (okCln okI_82) (aC (okCln okI_83) (aC (okCln okI_84) aN)))
theorem run_leaseOwn2 (x:Lease):Out.run (mkO cZ sZ) (evSum env_leaseOwn2 12 20 105 (ch_leaseOwn2.enc x)) (back1 co_leaseOwn2)=un_leaseOwn2 x:=by kernel_rfl
theorem ok_leaseOwn2:SOK PR 105 sf_leaseOwn2:=sum_one env_leaseOwn2_ok (loops:=12) (n:=20) st105.enters ch_leaseOwn2 co_leaseOwn2 un_leaseOwn2 run_leaseOwn2
abbrev tY13:=Int×Bool×(List Range)×Int×Int
def step_L108_2 (i1:Int)(b1:Bool)(l1:List Range)(i2:Int)(i3:Int):Option ((tY13)⊕(((Bool)⊕(Bool)))) :=
 cond (decide (i3 < i2))
 (cond (decide (0≤i3))
 (ob (l1[i3.toNat]?) fun e0 =>
 cond (cond (decide (i1≥e0.from_)) (decide (i1 < e0.to_)) false)
 (some (.inr (.inr true)))
 (some (.inl (i1,b1,l1,i2,(w64 (i3+1))))))
 none)
 (some (.inr (.inl b1)))
def stp_L108_2 (p:tY13):Option ((tY13)⊕(((Bool)⊕(Bool)))):=step_L108_2 p.1 p.2.1 p.2.2.1 p.2.2.2.1 p.2.2.2.2
def L108_2 (i1:Int)(b1:Bool)(l1:List Range)(i2:Int)(i3:Int):Option (((Bool)⊕(Bool))):=iterO stp_L108_2 ((i2 - i3).toNat+2) (i1,b1,l1,i2,i3)
def ch_L108_2:kT (tY13):=kO (kS 0 (kC kI (kC kB (kC (kF j_lRange) (kC kI (kC kI kN))))) kN) (fun ((z0,z1,z2,z3,z4,_),_)=>(z0,z1,z2,z3,z4)) (fun (x:tY13)=>((x.1,(x.2.1,(x.2.2.1,(x.2.2.2.1,(x.2.2.2.2,()))))),())) (fun _=>rfl)
def co0_L108_2:kT (Bool):=kO (kS 0 (kC kB kN) kN) (fun p=>p.1.1) (fun (x:Bool)=>((x,()),())) (fun _=>rfl)
def sl_L108_2:SFn TL:=SFn.two ch_L108_2.dec (fun p=>L108_2 p.1 p.2.1 p.2.2.1 p.2.2.2.1 p.2.2.2.2) (.exit 0) .ret co0_L108_2.enc co0_L108_2.enc
def v_L108_2:Env:=envOf tab sl sh [] []
theorem v_L108_2_ok:EnvOK PR (mkD cZ sZ) v_L108_2:=envOK_of base aN aN
theorem run_L108_2 (x:tY13):Out.run (mkO cZ sZ) (evRound v_L108_2 12 20 fd108.an q_L108_2 (loopIn (loopsOf fd108.body) 2) (ch_L108_2.enc x)) (back2 ch_L108_2 co0_L108_2 co0_L108_2 (.exit 0) .ret)=stp_L108_2 x:=by kernel_rfl
theorem ok_L108_2:LoopOK PR (oneS sl_L108_2) nt108 q_L108_2 (loopIn (loopsOf fd108.body) 2) :=
  loop_two v_L108_2_ok (loops:=12) (k:=20) (an:=fd108.an) (by kernel_rfl) (FnSt.subl rfl st108.keys (aC (.inl (by kernel_rfl)) aN)) ch_L108_2 co0_L108_2 co0_L108_2 (.exit 0) .ret rfl rfl stp_L108_2 _ run_L108_2 (fun x y h=>⟨_,h⟩) (fun _=>below_iff.1 rfl)
def rangesHas (l1:List Range)(i1:Int):Option Bool :=
 ob (L108_2 i1 false l1 (l1.length:Int) 0) fun y0 =>
 two y0 (fun _ =>
 some false) (fun b2 =>
 some b2)
def un_rangesHas (p:(List Range)×Int):Option Bool:=rangesHas p.1 p.2
def df_rangesHas:DFn TL:=DFn.of (DA.cons (DT.one di_lRange) (DA.one dI)) un_rangesHas (DA.one dB)
theorem run_rangesHas:DRun [] [(208002,sl_L108_2)] (envOf tab sl sh [(108,fd108)] []) 108 (DA.cons (DT.one di_lRange) (DA.one dI)) un_rangesHas (DA.one dB):=fun _=>by kernel_rfl
theorem ok_rangesHas:DOK PR 108 .pure df_rangesHas:=dok run_rangesHas (envOK_of base (aC (st108.okl rfl (aC (lC ok_L108_2 rfl) aN)) aN) aN) (.inr rfl) st108.enters
abbrev tY14:=(List Int)×Int×Int×Int×Int
def step_L109_3 (l1:List Int)(i1:Int)(i2:Int)(i3:Int)(i4:Int):Option ((tY14)⊕((List Int)×Int×Int×Int)) :=
 cond (decide (i3 < i4))
 (cond (decide (0≤(w64 (((IntKind.u64.wrap ((w64 (i3+i4)))) / 2)))))
 (ob (l1[((w64 (((IntKind.u64.wrap ((w64 (i3+i4)))) / 2)))).toNat]?) fun e0 =>
 ob (lessInt e0 i1) fun r1 =>
 some (.inl (l1,i1,i2,(cond r1 (w64 ((w64 (((IntKind.u64.wrap ((w64 (i3+i4)))) / 2)))+1)) i3),(cond r1 i4 (w64 (((IntKind.u64.wrap ((w64 (i3+i4)))) / 2)))))))
 none)
 (some (.inr (l1,i1,i2,i3)))
def stp_L109_3 (p:tY14):Option ((tY14)⊕((List Int)×Int×Int×Int)):=step_L109_3 p.1 p.2.1 p.2.2.1 p.2.2.2.1 p.2.2.2.2
def L109_3 (l1:List Int)(i1:Int)(i2:Int)(i3:Int)(i4:Int):Option ((List Int)×Int×Int×Int):=iterO stp_L109_3 ((i4 - i3).toNat+2) (l1,i1,i2,i3,i4)
def ch_L109_3:kT (tY14):=kO (kS 0 (kC (kF j_lInt) (kC kI (kC kI (kC kI (kC kI kN))))) kN) (fun ((z0,z1,z2,z3,z4,_),_)=>(z0,z1,z2,z3,z4)) (fun (x:tY14)=>((x.1,(x.2.1,(x.2.2.1,(x.2.2.2.1,(x.2.2.2.2,()))))),())) (fun _=>rfl)
def co0_L109_3:kT ((List Int)×Int×Int×Int):=kO (kS 0 (kC (kF j_lInt) (kC kI (kC kI (kC kI kN)))) kN) (fun ((z0,z1,z2,z3,_),_)=>(z0,z1,z2,z3)) (fun (x:(List Int)×Int×Int×Int)=>((x.1,(x.2.1,(x.2.2.1,(x.2.2.2,())))),())) (fun _=>rfl)
def sl_L109_3:SFn TL:=SFn.one ch_L109_3.dec (fun p=>L109_3 p.1 p.2.1 p.2.2.1 p.2.2.2.1 p.2.2.2.2) (.exit 0) co0_L109_3.enc
def cs_lL109_3:cL:=[(136,df_lessInt)]
def v_L109_3:Env:=envOf tab sl sh [] [(136,.pure)]
theorem v_L109_3_ok:EnvOK PR (mkD cs_lL109_3 sZ) v_L109_3:=envOK_of base aN (aC (oD ok_lessInt rfl) aN)
theorem run_L109_3 (x:tY14):Out.run (mkO cs_lL109_3 sZ) (evRound v_L109_3 12 20 fd109.an q_L109_3 (loopIn (loopsOf fd109.body) 3) (ch_L109_3.enc x)) (back ch_L109_3 co0_L109_3 fun e=>exE e (.exit 0))=stp_L109_3 x:=by kernel_rfl
theorem ok_L109_3:LoopOK PR (oneS sl_L109_3) nt109 q_L109_3 (loopIn (loopsOf fd109.body) 3) :=
  loop_one v_L109_3_ok (loops:=12) (k:=20) (an:=fd109.an) (by kernel_rfl) (FnSt.subl rfl st109.keys (aC (.inl (by kernel_rfl)) aN)) ch_L109_3 co0_L109_3 (.exit 0) rfl stp_L109_3 _ run_L109_3 (fun x y h=>⟨_,h⟩) (fun _=>below_iff.1 rfl)
def bsearchInt (l1:List Int)(i1:Int):Option (Int×Bool) :=
 ob (L109_3 l1 i1 (l1.length:Int) 0 (l1.length:Int)) fun y0 =>
 cond (decide (y0.2.2.2 < y0.2.2.1))
 (cond (decide (0≤y0.2.2.2))
 (ob (y0.1[y0.2.2.2.toNat]?) fun e1 =>
 cond (e1 == y0.2.1)
 (some (y0.2.2.2,true))
 (cond (decide (0≤y0.2.2.2))
 (ob (y0.1[y0.2.2.2.toNat]?) fun e2 =>
 ob (isNaNInt e2) fun r3 =>
 cond (r3)
 (ob (isNaNInt y0.2.1) fun r4 =>
 some (y0.2.2.2,r4))
 (some (y0.2.2.2,false)))
 none))
 none)
 (some (y0.2.2.2,false))
def un_bsearchInt (p:(List Int)×Int):Option (Int×Bool):=bsearchInt p.1 p.2
def df_bsearchInt:DFn TL:=DFn.of (DA.cons (DT.one di_lInt) (DA.one dI)) un_bsearchInt (DA.cons dI (DA.one dB))
theorem run_bsearchInt:DRun [(137,df_isNaNInt)] [(209003,sl_L109_3)] (envOf tab sl sh [(109,fd109)] [(137,.pure)]) 109 (DA.cons (DT.one di_lInt) (DA.one dI)) un_bsearchInt (DA.cons dI (DA.one dB)):=fun _=>by kernel_rfl
theorem ok_bsearchInt:DOK PR 109 .pure df_bsearchInt:=dok run_bsearchInt (envOK_of base (aC (st109.okl rfl (aC (lC ok_L109_3 rfl) aN)) aN) (aC (oD ok_isNaNInt rfl) aN)) (.inr rfl) st109.enters
abbrev tY15:=(List Slice)×Int×Int×Int×Op
def step_L106_2 (l1:List Slice)(i1:Int)(i2:Int)(i3:Int)(o1:Op):Option ((tY15)⊕(((Int×Op×(List Slice))⊕(Int×Op×(List Slice))))) :=
 cond (decide (i3 < i2))
 (cond (decide (0≤i3))
 (cond (decide (i3 < (l1.length:Int)))
 (ob (l1[i3.toNat]?) fun e0 =>
 cond (sEq e0.key o1.key)
 (some (.inr (.inr (i3,o1,l1))))
 (some (.inl (l1,i1,i2,(w64 (i3+1)),o1))))
 none)
 none)
 (some (.inr (.inl (i1,o1,l1))))
def stp_L106_2 (p:tY15):Option ((tY15)⊕(((Int×Op×(List Slice))⊕(Int×Op×(List Slice))))):=step_L106_2 p.1 p.2.1 p.2.2.1 p.2.2.2.1 p.2.2.2.2
def L106_2 (l1:List Slice)(i1:Int)(i2:Int)(i3:Int)(o1:Op):Option (((Int×Op×(List Slice))⊕(Int×Op×(List Slice)))):=iterO stp_L106_2 ((i2 - i3).toNat+2) (l1,i1,i2,i3,o1)
def ch_L106_2:kT (tY15):=kO (kS 2 (kC (Cod.xs (Cod.sc (kA 0))) (kC (Cod.xs (Cod.sc (Cod.clo 107 [] [(1,0)]))) (kC kI (kC kI (kC kI kN))))) (kC (kR 0 62 j_lSlice) (kC (Cod.var 1 50 cc_Op) kN))) (fun ((_,_,z0,z1,z2,_),z3,z4,_)=>(z3,z0,z1,z2,z4)) (fun (x:tY15)=>(((),((),(x.2.1,(x.2.2.1,(x.2.2.2.1,()))))),(x.1,(x.2.2.2.2,())))) (fun _=>rfl)
def co0_L106_2:kT (Int×Op×(List Slice)):=kO (kS 4 (kC kI kN) (kC (kR 0 62 j_lSlice) (kC (Cod.var 1 50 cc_Op) kN))) (fun p=>(p.1.1,p.2.2.1,p.2.1)) (fun (x:Int×Op×(List Slice))=>((x.1,()),(x.2.2,(x.2.1,())))) (fun _=>rfl)
def sl_L106_2:SFn TL:=SFn.two ch_L106_2.dec (fun p=>L106_2 p.1 p.2.1 p.2.2.1 p.2.2.2.1 p.2.2.2.2) (.exit 0) .ret co0_L106_2.enc co0_L106_2.enc
def v_L106_2:Env:=envOf tab sl sh [(107,fd107)] []
theorem v_L106_2_ok:EnvOK PR (mkD cZ sZ) v_L106_2:=envOK_of base (aC (st107.okl rfl aN) aN) aN
theorem run_L106_2 (x:tY15):Out.run (mkO cZ sZ) (evRound v_L106_2 12 20 fd106.an q_L106_2 (loopIn (loopsOf fd106.body) 2) (ch_L106_2.enc x)) (back2 ch_L106_2 co0_L106_2 co0_L106_2 (.exit 0) .ret)=stp_L106_2 x:=by kernel_rfl
theorem ok_L106_2:LoopOK PR (oneS sl_L106_2) nt106 q_L106_2 (loopIn (loopsOf fd106.body) 2) :=
  loop_two v_L106_2_ok (loops:=12) (k:=20) (an:=fd106.an) (by kernel_rfl) (FnSt.subl rfl st106.keys (aC (.inl (by kernel_rfl)) aN)) ch_L106_2 co0_L106_2 co0_L106_2 (.exit 0) .ret rfl rfl stp_L106_2 _ run_L106_2 (fun x y h=>⟨_,h⟩) (fun _=>below_iff.1 rfl)
def spend (lx1:Lease)(o1:Op):Option (Lease×Int) :=
 ob (leaseOwn2 lx1) fun y0 =>
 cond (o1.kind == 4)
 (ob (L106_2 y0.slices 0 (y0.slices.length:Int) 0 o1) fun y1 =>
 two y1 (fun _ =>
 ob (leaseOwn2 lx1) fun y4 =>
 some (y4,14)) (fun b3 =>
 cond (decide (b3.1 < 0))
 (ob (leaseOwn2 lx1) fun y5 =>
 some (y5,14))
 (cond (decide (0≤b3.1))
 (cond (decide (b3.1 < (b3.2.2.length:Int)))
 (ob (b3.2.2[b3.1.toNat]?) fun e6 =>
 ob (b3.2.2[b3.1.toNat]?) fun e7 =>
 cond (decide (b3.2.1.n > (w64 (e6.up_ - e7.usedUp))))
 (ob (leaseOwn2 lx1) fun y10 =>
 some (y10,14))
 (ob (b3.2.2[b3.1.toNat]?) fun e8 =>
 ob (b3.2.2[b3.1.toNat]?) fun e9 =>
 cond (decide ((w64 (0 - b3.2.1.n)) > (w64 (e8.down_ - e9.usedDown))))
 (ob (leaseOwn2 lx1) fun y11 =>
 some (y11,14))
 (ob (b3.2.2[b3.1.toNat]?) fun e12 =>
 ob (b3.2.2[b3.1.toNat]?) fun e13 =>
 ob ((b3.2.2.set b3.1.toNat (Slice.mk e13.key e13.up_ e13.down_ (w64 (e12.usedUp+(max2 b3.2.1.n 0))) e13.usedDown))[b3.1.toNat]?) fun e14 =>
 ob ((b3.2.2.set b3.1.toNat (Slice.mk e13.key e13.up_ e13.down_ (w64 (e12.usedUp+(max2 b3.2.1.n 0))) e13.usedDown))[b3.1.toNat]?) fun e15 =>
 ob (leaseOwn2 (Lease.mk y0.device y0.epoch y0.until_ y0.last ((b3.2.2.set b3.1.toNat (Slice.mk e13.key e13.up_ e13.down_ (w64 (e12.usedUp+(max2 b3.2.1.n 0))) e13.usedDown)).set b3.1.toNat (Slice.mk e15.key e15.up_ e15.down_ e15.usedUp (w64 (e14.usedDown+(max2 (w64 (0 - b3.2.1.n)) 0))))) y0.ids y0.used)) fun y20 =>
 some (y20,0))))
 none)
 none)))
 (cond (o1.kind == 5)
 (ob (rangesHas y0.ids o1.n) fun r16 =>
 cond (!r16)
 (ob (leaseOwn2 lx1) fun y17 =>
 some (y17,14))
 (ob (bsearchInt y0.used o1.n) fun r18 =>
 cond (r18.2)
 (ob (leaseOwn2 lx1) fun y19 =>
 some (y19,7))
 (cond (decide (0≤r18.1))
 (cond (decide (r18.1≤(y0.used.length:Int)))
 (cond (fits ((((y0.used.take r18.1.toNat)++[o1.n])++((y0.used.take y0.used.length).drop r18.1.toNat)).length))
 (ob (leaseOwn2 (Lease.mk y0.device y0.epoch y0.until_ y0.last y0.slices y0.ids (((y0.used.take r18.1.toNat)++[o1.n])++((y0.used.take y0.used.length).drop r18.1.toNat)))) fun y21 =>
 some (y21,0))
 none)
 none)
 none)))
 (ob (leaseOwn2 y0) fun y22 =>
 some (y22,0)))
def un_spend (p:Lease×Op):Option (Lease×Int):=spend p.1 p.2
def df_spend:DFn TL:=DFn.of (DA.cons (DT.agg dc_Lease) (DA.one (DT.agg dc_Op))) un_spend (DA.cons (DT.agg dc_Lease) (DA.one dI))
theorem run_spend:DRun [(108,df_rangesHas),(109,df_bsearchInt)] [(105,sf_leaseOwn2),(206002,sl_L106_2)] (envOf tab sl sh [(75,fd75),(106,fd106)] [(105,.sum),(108,.pure),(109,.pure),(110,(.ins 3))]) 75 (DA.cons (DT.agg dc_Lease) (DA.one (DT.agg dc_Op))) un_spend (DA.cons (DT.agg dc_Lease) (DA.one dI)):=fun _=>by kernel_rfl
theorem ok_spend:DOK PR 75 .keep df_spend:=dok run_spend (envOK_of base (aC (st75.okl rfl aN) (aC (st106.okl rfl (aC (lC ok_L106_2 rfl) aN)) aN)) (aC (okS rfl ok_leaseOwn2) (aC (oD ok_rangesHas rfl) (aC (oD ok_bsearchInt rfl) (aC (okIns okI_110) aN))))) (.inl rfl) st75.enters
def localNew (i1:Int)(i2:Int)(l1:List Bool):Option (State×Int) :=
 cond (cond (decide (i1 < 0)) true (cond (decide (i1≥6)) true (cond (decide (i2 < 1)) true (cond (decide (i2 > 3)) true ((l1.length:Int) != 3)))))
 (some ((State.mk 0 0 (Lease.mk 0 0 0 0 [] [] []) 0 0 0 [] (A3Coll.mk (Coll.mk [] [] [] [] [] []) (Coll.mk [] [] [] [] [] []) (Coll.mk [] [] [] [] [] [])) 0 0 [] 0 0 (Cmd.mk 0 0 0 0 0 [] []) false 0),1))
 (cond (fits l1.length)
 (some ((State.mk i1 0 (Lease.mk 0 0 0 0 [] [] []) 0 0 0 [] (A3Coll.mk (Coll.mk [] [] [] [] [] []) (Coll.mk [] [] [] [] [] []) (Coll.mk [] [] [] [] [] [])) 0 i2 l1 0 0 (Cmd.mk 0 0 0 0 0 [] []) false 0),0))
 none)
def un_localNew (p:Int×Int×(List Bool)):Option (State×Int):=localNew p.1 p.2.1 p.2.2
def df_localNew:DFn TL:=DFn.of (DA.cons dI (DA.cons dI (DA.one (DT.one di_lBool)))) un_localNew (DA.cons (DT.agg dc_State) (DA.one dI))
theorem run_localNew:DRun [] [] (envOf tab sl sh [(11,fd11)] [(23,(.cln 4))]) 11 (DA.cons dI (DA.cons dI (DA.one (DT.one di_lBool)))) un_localNew (DA.cons (DT.agg dc_State) (DA.one dI)):=fun _=>by kernel_rfl
theorem ok_localNew:DOK PR 11 .keep df_localNew:=dok run_localNew (envOK_of base (aC (st11.okl rfl aN) aN) (aC (okCln okI_23) aN)) (.inl rfl) st11.enters
def leaseOwn (lx1:Lease):Option Lease :=
 cond (fits lx1.slices.length)
 (cond (fits lx1.ids.length)
 (cond (fits lx1.used.length)
 (some lx1)
 none)
 none)
 none
def un_leaseOwn (p:Lease):Option Lease:=leaseOwn p
def sf_leaseOwn:SFn TL:=SFn.one ch_leaseOwn2.dec un_leaseOwn .normal co_leaseOwn2.enc
def env_leaseOwn:Env:=envOf tab sl sh [(46,fd46)] [(82,(.cln 62)),(83,(.cln 98)),(84,(.cln 3))]
theorem env_leaseOwn_ok:EnvOK PR (mkD cZ sZ) env_leaseOwn:=envOK_of base (aC (st46.okl rfl aN) aN) (aC (okCln okI_82) (aC (okCln okI_83) (aC (okCln okI_84) aN)))
theorem run_leaseOwn (x:Lease):Out.run (mkO cZ sZ) (evSum env_leaseOwn 12 20 46 (ch_leaseOwn2.enc x)) (back1 co_leaseOwn2)=un_leaseOwn x:=by kernel_rfl
theorem ok_leaseOwn:SOK PR 46 sf_leaseOwn:=sum_one env_leaseOwn_ok (loops:=12) (n:=20) st46.enters ch_leaseOwn2 co_leaseOwn2 un_leaseOwn run_leaseOwn
def collection (c1:Coll):Option Coll :=
 cond (fits c1.v.length)
 (cond (fits c1.regs.length)
 (cond (fits c1.elems.length)
 (cond (fits c1.gone.length)
 (cond (fits c1.sums.length)
 (cond (fits c1.binds.length)
 (some c1)
 none)
 none)
 none)
 none)
 none)
 none
def un_collection (p:Coll):Option Coll:=collection p
def sf_collection:SFn TL:=SFn.one ch_collOwn.dec un_collection .normal co_collOwn.enc
def env_collection:Env:=envOf tab sl sh [(44,fd44)] [(76,(.cln 112)),(77,(.cln 103)),(78,(.cln 100)),(41,(.cln 48)),(79,(.cln 118)),(80,(.cln 121))]
theorem env_collection_ok:EnvOK PR (mkD cZ sZ) env_collection:=envOK_of base (aC (st44.okl rfl aN) aN) (aC (okCln okI_76) (aC (okCln okI_77) (aC (okCln okI_78) (aC (okCln okI_41) (aC (okCln okI_79) (aC (okCln okI_80) aN))))))
theorem run_collection (x:Coll):Out.run (mkO cZ sZ) (evSum env_collection 12 20 44 (ch_collOwn.enc x)) (back1 co_collOwn)=un_collection x:=by kernel_rfl
theorem ok_collection:SOK PR 44 sf_collection:=sum_one env_collection_ok (loops:=12) (n:=20) st44.enters ch_collOwn co_collOwn un_collection run_collection
abbrev tY16:=Int×Int×State×State
def step_L24_4 (i1:Int)(i2:Int)(sx1:State)(sx2:State):Option ((tY16)⊕(State×State)) :=
 cond (decide (i2 < i1))
 (cond (decide (0≤i2))
 (cond (decide (i2 < (sx1.pending.length:Int)))
 (ob (sx1.pending[i2.toNat]?) fun e0 =>
 cond (fits e0.dots.length)
 (cond (decide (0≤i2))
 (cond (decide (i2 < (sx1.pending.length:Int)))
 (ob (sx1.pending[i2.toNat]?) fun _ =>
 some (.inl (i1,(w64 (i2+1)),(State.mk sx1.device sx1.epoch sx1.lease sx1.ends sx1.seq sx1.sent (sx1.pending.set i2.toNat e0) sx1.colls sx1.at_ sx1.ver sx1.subs sx1.req sx1.asked sx1.cmd sx1.fenced sx1.now),sx2)))
 none)
 none)
 none)
 none)
 none)
 (some (.inr (sx1,sx2)))
def stp_L24_4 (p:tY16):Option ((tY16)⊕(State×State)):=step_L24_4 p.1 p.2.1 p.2.2.1 p.2.2.2
def L24_4 (i1:Int)(i2:Int)(sx1:State)(sx2:State):Option (State×State):=iterO stp_L24_4 ((i1 - i2).toNat+2) (i1,i2,sx1,sx2)
def ch_L24_4:kT (tY16):=kO (kS 32 (kC (kP 0 0) (kC (kP 1 0) (kC (Cod.xs (Cod.sc (kA 2))) (kC kI (kC kI kN))))) (kC (Cod.var 0 43 (kC kJ (kC kJ (kC kJ (kC kJ (kC kJ (kC kJ (kC (kA 3) (kC (kA 4) (kC (kA 5) (kC kJ (kC kJ (kC kJ (kC (kA 2) (kC (kG j_lDot) (kC (kG j_lReg) (kC (kG j_lElem) (kC (kG j_lDot) (kC (kG j_lSum) (kC (kG j_lBind) (kC (kG j_lDot) (kC (kG j_lReg) (kC (kG j_lElem) (kC (kG j_lDot) (kC (kG j_lSum) (kC (kG j_lBind) (kC (kG j_lDot) (kC (kG j_lReg) (kC (kG j_lElem) (kC (kG j_lDot) (kC (kG j_lSum) (kC (kG j_lBind) (kC kJ (kC kJ (kC (kA 6) (kC kJ (kC kJ (kC kJ (kC kJ (kC kJ (kC kJ (kC kJ (kC (kG j_lWant) (kC (kG j_lOp) (kC kD (kC kJ kN)))))))))))))))))))))))))))))))))))))))))))))) (kC (Cod.var 1 43 (kC kJ (kC kJ (kC kJ (kC kJ (kC kJ (kC kJ (kC (kA 7) (kC (kA 8) (kC (kA 9) (kC kJ (kC kJ (kC kJ (kC (kA 10) (kC (kA 11) (kC (kA 12) (kC (kA 13) (kC (kA 14) (kC (kA 15) (kC (kA 16) (kC (kA 17) (kC (kA 18) (kC (kA 19) (kC (kA 20) (kC (kA 21) (kC (kA 22) (kC (kA 23) (kC (kA 24) (kC (kA 25) (kC (kA 26) (kC (kA 27) (kC (kA 28) (kC kJ (kC kJ (kC (kA 29) (kC kJ (kC kJ (kC kJ (kC kJ (kC kJ (kC kJ (kC kJ (kC (kA 30) (kC (kA 31) (kC kD (kC kJ kN)))))))))))))))))))))))))))))))))))))))))))))) (kC (kR 2 50 j_lOp) (kC (kR 3 62 j_lSlice) (kC (kR 4 98 j_lRange) (kC (kR 5 3 j_lInt) (kC (kR 6 4 j_lBool) (kC (kR 7 62 j_lSlice) (kC (kR 8 98 j_lRange) (kC (kR 9 3 j_lInt) (kC (kR 10 50 j_lOp) (kC (kR 11 112 j_lDot) (kC (kR 12 103 j_lReg) (kC (kR 13 100 j_lElem) (kC (kR 14 48 j_lDot) (kC (kR 15 118 j_lSum) (kC (kR 16 121 j_lBind) (kC (kR 17 112 j_lDot) (kC (kR 18 103 j_lReg) (kC (kR 19 100 j_lElem) (kC (kR 20 48 j_lDot) (kC (kR 21 118 j_lSum) (kC (kR 22 121 j_lBind) (kC (kR 23 112 j_lDot) (kC (kR 24 103 j_lReg) (kC (kR 25 100 j_lElem) (kC (kR 26 48 j_lDot) (kC (kR 27 118 j_lSum) (kC (kR 28 121 j_lBind) (kC (kR 29 4 j_lBool) (kC (kR 30 89 j_lWant) (kC (kR 31 50 j_lOp) kN))))))))))))))))))))))))))))))))) (fun p=>(p.1.2.2.2.1,p.1.2.2.2.2.1,(State.mk p.2.1.1 p.2.1.2.1 (Lease.mk p.2.1.2.2.1 p.2.1.2.2.2.1 p.2.1.2.2.2.2.1 p.2.1.2.2.2.2.2.1 p.2.2.2.2.1 p.2.2.2.2.2.1 p.2.2.2.2.2.2.1) (t8 p.2.1).2.1 (t8 p.2.1).2.2.1 (t8 p.2.1).2.2.2.1 p.2.2.2.1 (A3Coll.mk (Coll.mk (t8 p.2.1).2.2.2.2.2.1 (t8 p.2.1).2.2.2.2.2.2.1 (t8 p.2.1).2.2.2.2.2.2.2.1 (t8 (t8 p.2.1)).1 (t8 (t8 p.2.1)).2.1 (t8 (t8 p.2.1)).2.2.1) (Coll.mk (t8 (t8 p.2.1)).2.2.2.1 (t8 (t8 p.2.1)).2.2.2.2.1 (t8 (t8 p.2.1)).2.2.2.2.2.1 (t8 (t8 p.2.1)).2.2.2.2.2.2.1 (t8 (t8 p.2.1)).2.2.2.2.2.2.2.1 (t8 (t8 (t8 p.2.1))).1) (Coll.mk (t8 (t8 (t8 p.2.1))).2.1 (t8 (t8 (t8 p.2.1))).2.2.1 (t8 (t8 (t8 p.2.1))).2.2.2.1 (t8 (t8 (t8 p.2.1))).2.2.2.2.1 (t8 (t8 (t8 p.2.1))).2.2.2.2.2.1 (t8 (t8 (t8 p.2.1))).2.2.2.2.2.2.1)) (t8 (t8 (t8 p.2.1))).2.2.2.2.2.2.2.1 (t32 p.2.1).1 p.2.2.2.2.2.2.2.1 (t32 p.2.1).2.2.1 (t32 p.2.1).2.2.2.1 (Cmd.mk (t32 p.2.1).2.2.2.2.1 (t32 p.2.1).2.2.2.2.2.1 (t32 p.2.1).2.2.2.2.2.2.1 (t32 p.2.1).2.2.2.2.2.2.2.1 (t8 (t32 p.2.1)).1 (t8 (t32 p.2.1)).2.1 (t8 (t32 p.2.1)).2.2.1) (t8 (t32 p.2.1)).2.2.2.1 (t8 (t32 p.2.1)).2.2.2.2.1),(State.mk p.2.2.1.1 p.2.2.1.2.1 (Lease.mk p.2.2.1.2.2.1 p.2.2.1.2.2.2.1 p.2.2.1.2.2.2.2.1 p.2.2.1.2.2.2.2.2.1 p.2.2.2.2.2.2.2.2.1 (t8 p.2).1 (t8 p.2).2.1) (t8 p.2.2.1).2.1 (t8 p.2.2.1).2.2.1 (t8 p.2.2.1).2.2.2.1 (t8 p.2).2.2.1 (A3Coll.mk (Coll.mk (t8 p.2).2.2.2.1 (t8 p.2).2.2.2.2.1 (t8 p.2).2.2.2.2.2.1 (t8 p.2).2.2.2.2.2.2.1 (t8 p.2).2.2.2.2.2.2.2.1 (t8 (t8 p.2)).1) (Coll.mk (t8 (t8 p.2)).2.1 (t8 (t8 p.2)).2.2.1 (t8 (t8 p.2)).2.2.2.1 (t8 (t8 p.2)).2.2.2.2.1 (t8 (t8 p.2)).2.2.2.2.2.1 (t8 (t8 p.2)).2.2.2.2.2.2.1) (Coll.mk (t8 (t8 p.2)).2.2.2.2.2.2.2.1 (t8 (t8 (t8 p.2))).1 (t8 (t8 (t8 p.2))).2.1 (t8 (t8 (t8 p.2))).2.2.1 (t8 (t8 (t8 p.2))).2.2.2.1 (t8 (t8 (t8 p.2))).2.2.2.2.1)) (t8 (t8 (t8 p.2.2.1))).2.2.2.2.2.2.2.1 (t32 p.2.2.1).1 (t8 (t8 (t8 p.2))).2.2.2.2.2.1 (t32 p.2.2.1).2.2.1 (t32 p.2.2.1).2.2.2.1 (Cmd.mk (t32 p.2.2.1).2.2.2.2.1 (t32 p.2.2.1).2.2.2.2.2.1 (t32 p.2.2.1).2.2.2.2.2.2.1 (t32 p.2.2.1).2.2.2.2.2.2.2.1 (t8 (t32 p.2.2.1)).1 (t8 (t8 (t8 p.2))).2.2.2.2.2.2.1 (t8 (t8 (t8 p.2))).2.2.2.2.2.2.2.1) (t8 (t32 p.2.2.1)).2.2.2.1 (t8 (t32 p.2.2.1)).2.2.2.2.1))) (fun (x:tY16)=>(((),((),((),(x.1,(x.2.1,()))))),((x.2.2.1.device,(x.2.2.1.epoch,(x.2.2.1.lease.device,(x.2.2.1.lease.epoch,(x.2.2.1.lease.until_,(x.2.2.1.lease.last,((),((),((),(x.2.2.1.ends,(x.2.2.1.seq,(x.2.2.1.sent,((),(x.2.2.1.colls.a0.v,(x.2.2.1.colls.a0.regs,(x.2.2.1.colls.a0.elems,(x.2.2.1.colls.a0.gone,(x.2.2.1.colls.a0.sums,(x.2.2.1.colls.a0.binds,(x.2.2.1.colls.a1.v,(x.2.2.1.colls.a1.regs,(x.2.2.1.colls.a1.elems,(x.2.2.1.colls.a1.gone,(x.2.2.1.colls.a1.sums,(x.2.2.1.colls.a1.binds,(x.2.2.1.colls.a2.v,(x.2.2.1.colls.a2.regs,(x.2.2.1.colls.a2.elems,(x.2.2.1.colls.a2.gone,(x.2.2.1.colls.a2.sums,(x.2.2.1.colls.a2.binds,(x.2.2.1.at_,(x.2.2.1.ver,((),(x.2.2.1.req,(x.2.2.1.asked,(x.2.2.1.cmd.kind,(x.2.2.1.cmd.device,(x.2.2.1.cmd.epoch,(x.2.2.1.cmd.req,(x.2.2.1.cmd.n,(x.2.2.1.cmd.wants,(x.2.2.1.cmd.ops,(x.2.2.1.fenced,(x.2.2.1.now,()))))))))))))))))))))))))))))))))))))))))))))),((x.2.2.2.device,(x.2.2.2.epoch,(x.2.2.2.lease.device,(x.2.2.2.lease.epoch,(x.2.2.2.lease.until_,(x.2.2.2.lease.last,((),((),((),(x.2.2.2.ends,(x.2.2.2.seq,(x.2.2.2.sent,((),((),((),((),((),((),((),((),((),((),((),((),((),((),((),((),((),((),((),(x.2.2.2.at_,(x.2.2.2.ver,((),(x.2.2.2.req,(x.2.2.2.asked,(x.2.2.2.cmd.kind,(x.2.2.2.cmd.device,(x.2.2.2.cmd.epoch,(x.2.2.2.cmd.req,(x.2.2.2.cmd.n,((),((),(x.2.2.2.fenced,(x.2.2.2.now,()))))))))))))))))))))))))))))))))))))))))))))),(x.2.2.1.pending,(x.2.2.1.lease.slices,(x.2.2.1.lease.ids,(x.2.2.1.lease.used,(x.2.2.1.subs,(x.2.2.2.lease.slices,(x.2.2.2.lease.ids,(x.2.2.2.lease.used,(x.2.2.2.pending,(x.2.2.2.colls.a0.v,(x.2.2.2.colls.a0.regs,(x.2.2.2.colls.a0.elems,(x.2.2.2.colls.a0.gone,(x.2.2.2.colls.a0.sums,(x.2.2.2.colls.a0.binds,(x.2.2.2.colls.a1.v,(x.2.2.2.colls.a1.regs,(x.2.2.2.colls.a1.elems,(x.2.2.2.colls.a1.gone,(x.2.2.2.colls.a1.sums,(x.2.2.2.colls.a1.binds,(x.2.2.2.colls.a2.v,(x.2.2.2.colls.a2.regs,(x.2.2.2.colls.a2.elems,(x.2.2.2.colls.a2.gone,(x.2.2.2.colls.a2.sums,(x.2.2.2.colls.a2.binds,(x.2.2.2.subs,(x.2.2.2.cmd.wants,(x.2.2.2.cmd.ops,())))))))))))))))))))))))))))))))))) (fun _=>rfl)
def co0_L24_4:kT (State×State):=kO (kS 64 (kC (kP 0 0) (kC (kP 1 0) kN)) (kC (Cod.var 0 43 (kC kJ (kC kJ (kC kJ (kC kJ (kC kJ (kC kJ (kC (kA 3) (kC (kA 4) (kC (kA 5) (kC kJ (kC kJ (kC kJ (kC (kA 2) (kC (kG j_lDot) (kC (kG j_lReg) (kC (kG j_lElem) (kC (kG j_lDot) (kC (kG j_lSum) (kC (kG j_lBind) (kC (kG j_lDot) (kC (kG j_lReg) (kC (kG j_lElem) (kC (kG j_lDot) (kC (kG j_lSum) (kC (kG j_lBind) (kC (kG j_lDot) (kC (kG j_lReg) (kC (kG j_lElem) (kC (kG j_lDot) (kC (kG j_lSum) (kC (kG j_lBind) (kC kJ (kC kJ (kC (kA 6) (kC kJ (kC kJ (kC kJ (kC kJ (kC kJ (kC kJ (kC kJ (kC (kG j_lWant) (kC (kG j_lOp) (kC kD (kC kJ kN)))))))))))))))))))))))))))))))))))))))))))))) (kC (Cod.var 1 43 (kC kJ (kC kJ (kC kJ (kC kJ (kC kJ (kC kJ (kC (kA 7) (kC (kA 8) (kC (kA 9) (kC kJ (kC kJ (kC kJ (kC (kA 10) (kC (kA 11) (kC (kA 12) (kC (kA 13) (kC (kA 14) (kC (kA 15) (kC (kA 16) (kC (kA 17) (kC (kA 18) (kC (kA 19) (kC (kA 20) (kC (kA 21) (kC (kA 22) (kC (kA 23) (kC (kA 24) (kC (kA 25) (kC (kA 26) (kC (kA 27) (kC (kA 28) (kC kJ (kC kJ (kC (kA 29) (kC kJ (kC kJ (kC kJ (kC kJ (kC kJ (kC kJ (kC kJ (kC (kA 30) (kC (kA 31) (kC kD (kC kJ kN)))))))))))))))))))))))))))))))))))))))))))))) (kC (kR 2 50 j_lOp) (kC (kR 3 62 j_lSlice) (kC (kR 4 98 j_lRange) (kC (kR 5 3 j_lInt) (kC (kR 6 4 j_lBool) (kC (kR 7 62 j_lSlice) (kC (kR 8 98 j_lRange) (kC (kR 9 3 j_lInt) (kC (kR 10 50 j_lOp) (kC (kR 11 112 j_lDot) (kC (kR 12 103 j_lReg) (kC (kR 13 100 j_lElem) (kC (kR 14 48 j_lDot) (kC (kR 15 118 j_lSum) (kC (kR 16 121 j_lBind) (kC (kR 17 112 j_lDot) (kC (kR 18 103 j_lReg) (kC (kR 19 100 j_lElem) (kC (kR 20 48 j_lDot) (kC (kR 21 118 j_lSum) (kC (kR 22 121 j_lBind) (kC (kR 23 112 j_lDot) (kC (kR 24 103 j_lReg) (kC (kR 25 100 j_lElem) (kC (kR 26 48 j_lDot) (kC (kR 27 118 j_lSum) (kC (kR 28 121 j_lBind) (kC (kR 29 4 j_lBool) (kC (kR 30 89 j_lWant) (kC (kR 31 50 j_lOp) kN))))))))))))))))))))))))))))))))) (fun p=>((State.mk p.2.1.1 p.2.1.2.1 (Lease.mk p.2.1.2.2.1 p.2.1.2.2.2.1 p.2.1.2.2.2.2.1 p.2.1.2.2.2.2.2.1 p.2.2.2.2.1 p.2.2.2.2.2.1 p.2.2.2.2.2.2.1) (t8 p.2.1).2.1 (t8 p.2.1).2.2.1 (t8 p.2.1).2.2.2.1 p.2.2.2.1 (A3Coll.mk (Coll.mk (t8 p.2.1).2.2.2.2.2.1 (t8 p.2.1).2.2.2.2.2.2.1 (t8 p.2.1).2.2.2.2.2.2.2.1 (t8 (t8 p.2.1)).1 (t8 (t8 p.2.1)).2.1 (t8 (t8 p.2.1)).2.2.1) (Coll.mk (t8 (t8 p.2.1)).2.2.2.1 (t8 (t8 p.2.1)).2.2.2.2.1 (t8 (t8 p.2.1)).2.2.2.2.2.1 (t8 (t8 p.2.1)).2.2.2.2.2.2.1 (t8 (t8 p.2.1)).2.2.2.2.2.2.2.1 (t8 (t8 (t8 p.2.1))).1) (Coll.mk (t8 (t8 (t8 p.2.1))).2.1 (t8 (t8 (t8 p.2.1))).2.2.1 (t8 (t8 (t8 p.2.1))).2.2.2.1 (t8 (t8 (t8 p.2.1))).2.2.2.2.1 (t8 (t8 (t8 p.2.1))).2.2.2.2.2.1 (t8 (t8 (t8 p.2.1))).2.2.2.2.2.2.1)) (t8 (t8 (t8 p.2.1))).2.2.2.2.2.2.2.1 (t32 p.2.1).1 p.2.2.2.2.2.2.2.1 (t32 p.2.1).2.2.1 (t32 p.2.1).2.2.2.1 (Cmd.mk (t32 p.2.1).2.2.2.2.1 (t32 p.2.1).2.2.2.2.2.1 (t32 p.2.1).2.2.2.2.2.2.1 (t32 p.2.1).2.2.2.2.2.2.2.1 (t8 (t32 p.2.1)).1 (t8 (t32 p.2.1)).2.1 (t8 (t32 p.2.1)).2.2.1) (t8 (t32 p.2.1)).2.2.2.1 (t8 (t32 p.2.1)).2.2.2.2.1),(State.mk p.2.2.1.1 p.2.2.1.2.1 (Lease.mk p.2.2.1.2.2.1 p.2.2.1.2.2.2.1 p.2.2.1.2.2.2.2.1 p.2.2.1.2.2.2.2.2.1 p.2.2.2.2.2.2.2.2.1 (t8 p.2).1 (t8 p.2).2.1) (t8 p.2.2.1).2.1 (t8 p.2.2.1).2.2.1 (t8 p.2.2.1).2.2.2.1 (t8 p.2).2.2.1 (A3Coll.mk (Coll.mk (t8 p.2).2.2.2.1 (t8 p.2).2.2.2.2.1 (t8 p.2).2.2.2.2.2.1 (t8 p.2).2.2.2.2.2.2.1 (t8 p.2).2.2.2.2.2.2.2.1 (t8 (t8 p.2)).1) (Coll.mk (t8 (t8 p.2)).2.1 (t8 (t8 p.2)).2.2.1 (t8 (t8 p.2)).2.2.2.1 (t8 (t8 p.2)).2.2.2.2.1 (t8 (t8 p.2)).2.2.2.2.2.1 (t8 (t8 p.2)).2.2.2.2.2.2.1) (Coll.mk (t8 (t8 p.2)).2.2.2.2.2.2.2.1 (t8 (t8 (t8 p.2))).1 (t8 (t8 (t8 p.2))).2.1 (t8 (t8 (t8 p.2))).2.2.1 (t8 (t8 (t8 p.2))).2.2.2.1 (t8 (t8 (t8 p.2))).2.2.2.2.1)) (t8 (t8 (t8 p.2.2.1))).2.2.2.2.2.2.2.1 (t32 p.2.2.1).1 (t8 (t8 (t8 p.2))).2.2.2.2.2.1 (t32 p.2.2.1).2.2.1 (t32 p.2.2.1).2.2.2.1 (Cmd.mk (t32 p.2.2.1).2.2.2.2.1 (t32 p.2.2.1).2.2.2.2.2.1 (t32 p.2.2.1).2.2.2.2.2.2.1 (t32 p.2.2.1).2.2.2.2.2.2.2.1 (t8 (t32 p.2.2.1)).1 (t8 (t8 (t8 p.2))).2.2.2.2.2.2.1 (t8 (t8 (t8 p.2))).2.2.2.2.2.2.2.1) (t8 (t32 p.2.2.1)).2.2.2.1 (t8 (t32 p.2.2.1)).2.2.2.2.1))) (fun (x:State×State)=>(((),((),())),((x.1.device,(x.1.epoch,(x.1.lease.device,(x.1.lease.epoch,(x.1.lease.until_,(x.1.lease.last,((),((),((),(x.1.ends,(x.1.seq,(x.1.sent,((),(x.1.colls.a0.v,(x.1.colls.a0.regs,(x.1.colls.a0.elems,(x.1.colls.a0.gone,(x.1.colls.a0.sums,(x.1.colls.a0.binds,(x.1.colls.a1.v,(x.1.colls.a1.regs,(x.1.colls.a1.elems,(x.1.colls.a1.gone,(x.1.colls.a1.sums,(x.1.colls.a1.binds,(x.1.colls.a2.v,(x.1.colls.a2.regs,(x.1.colls.a2.elems,(x.1.colls.a2.gone,(x.1.colls.a2.sums,(x.1.colls.a2.binds,(x.1.at_,(x.1.ver,((),(x.1.req,(x.1.asked,(x.1.cmd.kind,(x.1.cmd.device,(x.1.cmd.epoch,(x.1.cmd.req,(x.1.cmd.n,(x.1.cmd.wants,(x.1.cmd.ops,(x.1.fenced,(x.1.now,()))))))))))))))))))))))))))))))))))))))))))))),((x.2.device,(x.2.epoch,(x.2.lease.device,(x.2.lease.epoch,(x.2.lease.until_,(x.2.lease.last,((),((),((),(x.2.ends,(x.2.seq,(x.2.sent,((),((),((),((),((),((),((),((),((),((),((),((),((),((),((),((),((),((),((),(x.2.at_,(x.2.ver,((),(x.2.req,(x.2.asked,(x.2.cmd.kind,(x.2.cmd.device,(x.2.cmd.epoch,(x.2.cmd.req,(x.2.cmd.n,((),((),(x.2.fenced,(x.2.now,()))))))))))))))))))))))))))))))))))))))))))))),(x.1.pending,(x.1.lease.slices,(x.1.lease.ids,(x.1.lease.used,(x.1.subs,(x.2.lease.slices,(x.2.lease.ids,(x.2.lease.used,(x.2.pending,(x.2.colls.a0.v,(x.2.colls.a0.regs,(x.2.colls.a0.elems,(x.2.colls.a0.gone,(x.2.colls.a0.sums,(x.2.colls.a0.binds,(x.2.colls.a1.v,(x.2.colls.a1.regs,(x.2.colls.a1.elems,(x.2.colls.a1.gone,(x.2.colls.a1.sums,(x.2.colls.a1.binds,(x.2.colls.a2.v,(x.2.colls.a2.regs,(x.2.colls.a2.elems,(x.2.colls.a2.gone,(x.2.colls.a2.sums,(x.2.colls.a2.binds,(x.2.subs,(x.2.cmd.wants,(x.2.cmd.ops,())))))))))))))))))))))))))))))))))) (fun _=>rfl)
def sl_L24_4:SFn TL:=SFn.one ch_L24_4.dec (fun p=>L24_4 p.1 p.2.1 p.2.2.1 p.2.2.2) (.exit 0) co0_L24_4.enc
def v_L24_4:Env:=envOf tab sl sh [(48,fd48)] [(41,(.cln 48))]
theorem v_L24_4_ok:EnvOK PR (mkD cZ sZ) v_L24_4:=envOK_of base (aC (st48.okl rfl aN) aN) (aC (okCln okI_41) aN)
theorem run_L24_4 (x:tY16):Out.run (mkO cZ sZ) (evRound v_L24_4 12 20 fd24.an q_L24_4 (loopIn (loopsOf fd24.body) 4) (ch_L24_4.enc x)) (back ch_L24_4 co0_L24_4 fun e=>exE e (.exit 0))=stp_L24_4 x:=by kernel_rfl
theorem ok_L24_4:LoopOK PR (oneS sl_L24_4) nt24 q_L24_4 (loopIn (loopsOf fd24.body) 4) :=
  loop_one v_L24_4_ok (loops:=12) (k:=20) (an:=fd24.an) (by kernel_rfl) (FnSt.subl rfl st24.keys (aC (.inl (by kernel_rfl)) aN)) ch_L24_4 co0_L24_4 (.exit 0) rfl stp_L24_4 _ run_L24_4 (fun x y h=>⟨_,h⟩) (fun _=>below_iff.1 rfl)
def localOwn (sx1:State):Option State :=
 ob (leaseOwn sx1.lease) fun y0 =>
 cond (fits sx1.subs.length)
 (cond (fits sx1.pending.length)
 (ob (L24_4 (sx1.pending.length:Int) 0 (State.mk sx1.device sx1.epoch y0 sx1.ends sx1.seq sx1.sent sx1.pending sx1.colls sx1.at_ sx1.ver sx1.subs sx1.req sx1.asked sx1.cmd sx1.fenced sx1.now) (State.mk 0 0 (Lease.mk 0 0 0 0 [] [] []) 0 0 0 [] (A3Coll.mk (Coll.mk [] [] [] [] [] []) (Coll.mk [] [] [] [] [] []) (Coll.mk [] [] [] [] [] [])) 0 0 [] 0 0 (Cmd.mk 0 0 0 0 0 [] []) false 0)) fun y1 =>
 ob (collection y1.1.colls.a0) fun y2 =>
 ob (collection y1.1.colls.a1) fun y3 =>
 ob (collection y1.1.colls.a2) fun y4 =>
 cond (fits y1.1.cmd.wants.length)
 (some (State.mk y1.1.device y1.1.epoch y1.1.lease y1.1.ends y1.1.seq y1.1.sent y1.1.pending (A3Coll.mk y2 y3 y4) y1.1.at_ y1.1.ver y1.1.subs y1.1.req y1.1.asked (Cmd.mk y1.1.cmd.kind y1.1.cmd.device y1.1.cmd.epoch y1.1.cmd.req y1.1.cmd.n y1.1.cmd.wants []) y1.1.fenced y1.1.now))
 none)
 none)
 none
def cc_State:Cod (List (C TL)) State:=kO (kC kJ (kC kJ (kC kJ (kC kJ (kC kJ (kC kJ (kC (kG j_lSlice) (kC (kG j_lRange) (kC (kG j_lInt) (kC kJ (kC kJ (kC kJ (kC (kG j_lOp) (kC (kG j_lDot) (kC (kG j_lReg) (kC (kG j_lElem) (kC (kG j_lDot) (kC (kG j_lSum) (kC (kG j_lBind) (kC (kG j_lDot) (kC (kG j_lReg) (kC (kG j_lElem) (kC (kG j_lDot) (kC (kG j_lSum) (kC (kG j_lBind) (kC (kG j_lDot) (kC (kG j_lReg) (kC (kG j_lElem) (kC (kG j_lDot) (kC (kG j_lSum) (kC (kG j_lBind) (kC kJ (kC kJ (kC (kG j_lBool) (kC kJ (kC kJ (kC kJ (kC kJ (kC kJ (kC kJ (kC kJ (kC (kG j_lWant) (kC (kG j_lOp) (kC kD (kC kJ kN))))))))))))))))))))))))))))))))))))))))))))) (fun p=>(State.mk p.1 p.2.1 (Lease.mk p.2.2.1 p.2.2.2.1 p.2.2.2.2.1 p.2.2.2.2.2.1 p.2.2.2.2.2.2.1 p.2.2.2.2.2.2.2.1 (t8 p).1) (t8 p).2.1 (t8 p).2.2.1 (t8 p).2.2.2.1 (t8 p).2.2.2.2.1 (A3Coll.mk (Coll.mk (t8 p).2.2.2.2.2.1 (t8 p).2.2.2.2.2.2.1 (t8 p).2.2.2.2.2.2.2.1 (t8 (t8 p)).1 (t8 (t8 p)).2.1 (t8 (t8 p)).2.2.1) (Coll.mk (t8 (t8 p)).2.2.2.1 (t8 (t8 p)).2.2.2.2.1 (t8 (t8 p)).2.2.2.2.2.1 (t8 (t8 p)).2.2.2.2.2.2.1 (t8 (t8 p)).2.2.2.2.2.2.2.1 (t8 (t8 (t8 p))).1) (Coll.mk (t8 (t8 (t8 p))).2.1 (t8 (t8 (t8 p))).2.2.1 (t8 (t8 (t8 p))).2.2.2.1 (t8 (t8 (t8 p))).2.2.2.2.1 (t8 (t8 (t8 p))).2.2.2.2.2.1 (t8 (t8 (t8 p))).2.2.2.2.2.2.1)) (t8 (t8 (t8 p))).2.2.2.2.2.2.2.1 (t32 p).1 (t32 p).2.1 (t32 p).2.2.1 (t32 p).2.2.2.1 (Cmd.mk (t32 p).2.2.2.2.1 (t32 p).2.2.2.2.2.1 (t32 p).2.2.2.2.2.2.1 (t32 p).2.2.2.2.2.2.2.1 (t8 (t32 p)).1 (t8 (t32 p)).2.1 (t8 (t32 p)).2.2.1) (t8 (t32 p)).2.2.2.1 (t8 (t32 p)).2.2.2.2.1)) (fun (x:State)=>(x.device,(x.epoch,(x.lease.device,(x.lease.epoch,(x.lease.until_,(x.lease.last,(x.lease.slices,(x.lease.ids,(x.lease.used,(x.ends,(x.seq,(x.sent,(x.pending,(x.colls.a0.v,(x.colls.a0.regs,(x.colls.a0.elems,(x.colls.a0.gone,(x.colls.a0.sums,(x.colls.a0.binds,(x.colls.a1.v,(x.colls.a1.regs,(x.colls.a1.elems,(x.colls.a1.gone,(x.colls.a1.sums,(x.colls.a1.binds,(x.colls.a2.v,(x.colls.a2.regs,(x.colls.a2.elems,(x.colls.a2.gone,(x.colls.a2.sums,(x.colls.a2.binds,(x.at_,(x.ver,(x.subs,(x.req,(x.asked,(x.cmd.kind,(x.cmd.device,(x.cmd.epoch,(x.cmd.req,(x.cmd.n,(x.cmd.wants,(x.cmd.ops,(x.fenced,(x.now,())))))))))))))))))))))))))))))))))))))))))))))) (fun _=>rfl)
def ch_localOwn:kT (State):=kO (kS 0 (kC (Cod.xs (Cod.sa cc_State)) kN) kN) (fun p=>p.1.1) (fun (x:State)=>((x,()),())) (fun _=>rfl)
def co_localOwn:kT (State):=kO (kS 24 (kC (Cod.xs (Cod.sa (kC kJ (kC kJ (kC kJ (kC kJ (kC kJ (kC kJ (kC (kA 0) (kC (kA 1) (kC (kA 2) (kC kJ (kC kJ (kC kJ (kC (kA 3) (kC (kA 4) (kC (kA 5) (kC (kA 6) (kC (kA 7) (kC (kA 8) (kC (kA 9) (kC (kA 10) (kC (kA 11) (kC (kA 12) (kC (kA 13) (kC (kA 14) (kC (kA 15) (kC (kA 16) (kC (kA 17) (kC (kA 18) (kC (kA 19) (kC (kA 20) (kC (kA 21) (kC kJ (kC kJ (kC (kA 22) (kC kJ (kC kJ (kC kJ (kC kJ (kC kJ (kC kJ (kC kJ (kC (kA 23) (kC (kG j_lOp) (kC kD (kC kJ kN))))))))))))))))))))))))))))))))))))))))))))))) kN) (kC (kR 0 62 j_lSlice) (kC (kR 1 98 j_lRange) (kC (kR 2 3 j_lInt) (kC (kR 3 50 j_lOp) (kC (kR 4 112 j_lDot) (kC (kR 5 103 j_lReg) (kC (kR 6 100 j_lElem) (kC (kR 7 48 j_lDot) (kC (kR 8 118 j_lSum) (kC (kR 9 121 j_lBind) (kC (kR 10 112 j_lDot) (kC (kR 11 103 j_lReg) (kC (kR 12 100 j_lElem) (kC (kR 13 48 j_lDot) (kC (kR 14 118 j_lSum) (kC (kR 15 121 j_lBind) (kC (kR 16 112 j_lDot) (kC (kR 17 103 j_lReg) (kC (kR 18 100 j_lElem) (kC (kR 19 48 j_lDot) (kC (kR 20 118 j_lSum) (kC (kR 21 121 j_lBind) (kC (kR 22 4 j_lBool) (kC (kR 23 89 j_lWant) kN))))))))))))))))))))))))) (fun p=>(State.mk p.1.1.1 p.1.1.2.1 (Lease.mk p.1.1.2.2.1 p.1.1.2.2.2.1 p.1.1.2.2.2.2.1 p.1.1.2.2.2.2.2.1 p.2.1 p.2.2.1 p.2.2.2.1) (t8 p.1.1).2.1 (t8 p.1.1).2.2.1 (t8 p.1.1).2.2.2.1 p.2.2.2.2.1 (A3Coll.mk (Coll.mk p.2.2.2.2.2.1 p.2.2.2.2.2.2.1 p.2.2.2.2.2.2.2.1 p.2.2.2.2.2.2.2.2.1 (t8 p.2).1 (t8 p.2).2.1) (Coll.mk (t8 p.2).2.2.1 (t8 p.2).2.2.2.1 (t8 p.2).2.2.2.2.1 (t8 p.2).2.2.2.2.2.1 (t8 p.2).2.2.2.2.2.2.1 (t8 p.2).2.2.2.2.2.2.2.1) (Coll.mk (t8 (t8 p.2)).1 (t8 (t8 p.2)).2.1 (t8 (t8 p.2)).2.2.1 (t8 (t8 p.2)).2.2.2.1 (t8 (t8 p.2)).2.2.2.2.1 (t8 (t8 p.2)).2.2.2.2.2.1)) (t8 (t8 (t8 p.1.1))).2.2.2.2.2.2.2.1 (t32 p.1.1).1 (t8 (t8 p.2)).2.2.2.2.2.2.1 (t32 p.1.1).2.2.1 (t32 p.1.1).2.2.2.1 (Cmd.mk (t32 p.1.1).2.2.2.2.1 (t32 p.1.1).2.2.2.2.2.1 (t32 p.1.1).2.2.2.2.2.2.1 (t32 p.1.1).2.2.2.2.2.2.2.1 (t8 (t32 p.1.1)).1 (t8 (t8 p.2)).2.2.2.2.2.2.2.1 (t8 (t32 p.1.1)).2.2.1) (t8 (t32 p.1.1)).2.2.2.1 (t8 (t32 p.1.1)).2.2.2.2.1)) (fun (x:State)=>(((x.device,(x.epoch,(x.lease.device,(x.lease.epoch,(x.lease.until_,(x.lease.last,((),((),((),(x.ends,(x.seq,(x.sent,((),((),((),((),((),((),((),((),((),((),((),((),((),((),((),((),((),((),((),(x.at_,(x.ver,((),(x.req,(x.asked,(x.cmd.kind,(x.cmd.device,(x.cmd.epoch,(x.cmd.req,(x.cmd.n,((),(x.cmd.ops,(x.fenced,(x.now,()))))))))))))))))))))))))))))))))))))))))))))),()),(x.lease.slices,(x.lease.ids,(x.lease.used,(x.pending,(x.colls.a0.v,(x.colls.a0.regs,(x.colls.a0.elems,(x.colls.a0.gone,(x.colls.a0.sums,(x.colls.a0.binds,(x.colls.a1.v,(x.colls.a1.regs,(x.colls.a1.elems,(x.colls.a1.gone,(x.colls.a1.sums,(x.colls.a1.binds,(x.colls.a2.v,(x.colls.a2.regs,(x.colls.a2.elems,(x.colls.a2.gone,(x.colls.a2.sums,(x.colls.a2.binds,(x.subs,(x.cmd.wants,())))))))))))))))))))))))))) (fun _=>rfl)
def un_localOwn (p:State):Option State:=localOwn p
def sf_localOwn:SFn TL:=SFn.one ch_localOwn.dec un_localOwn .normal co_localOwn.enc
def ss_localOwn:sL:=[(46,sf_leaseOwn),(44,sf_collection),(124004,sl_L24_4)]
def env_localOwn:Env:=envOf tab sl sh [(24,fd24)] [(46,.sum),(23,(.cln 4)),(47,(.cln 50)),(44,.sum),(37,(.cln 89))]
theorem env_localOwn_ok:EnvOK PR (mkD cZ ss_localOwn) env_localOwn:=envOK_of base (aC (st24.okl rfl (aC (lC ok_L24_4 rfl) aN)) aN) (aC (okS rfl ok_leaseOwn) (aC (okCln okI_23) (aC (okCln okI_47) (aC (okS rfl ok_collection) (aC (okCln okI_37) aN)))))
theorem run_localOwn (x:State):Out.run (mkO cZ ss_localOwn) (evSum env_localOwn 12 20 24 (ch_localOwn.enc x)) (back1 co_localOwn)=un_localOwn x:=by kernel_rfl
theorem ok_localOwn:SOK PR 24 sf_localOwn:=sum_one env_localOwn_ok (loops:=12) (n:=20) st24.enters ch_localOwn co_localOwn un_localOwn run_localOwn
abbrev tY17:=(List Want)×Int×Int×Int
def step_L103_2 (l1:List Want)(i1:Int)(i2:Int)(i3:Int):Option ((tY17)⊕(((Int)⊕(Int)))) :=
 cond (decide (i3 < i2))
 (cond (decide (0≤i3))
 (ob (l1[i3.toNat]?) fun e0 =>
 ob (localText e0.key) fun r1 =>
 cond (!r1)
 (some (.inr (.inr i3)))
 (some (.inl (l1,i1,i2,(w64 (i3+1))))))
 none)
 (some (.inr (.inl i1)))
def stp_L103_2 (p:tY17):Option ((tY17)⊕(((Int)⊕(Int)))):=step_L103_2 p.1 p.2.1 p.2.2.1 p.2.2.2
def L103_2 (l1:List Want)(i1:Int)(i2:Int)(i3:Int):Option (((Int)⊕(Int))):=iterO stp_L103_2 ((i2 - i3).toNat+2) (l1,i1,i2,i3)
def ch_L103_2:kT (tY17):=kO (kS 0 (kC (kF j_lWant) (kC (Cod.xs (Cod.sc (Cod.clo 68 [] []))) (kC kI (kC kI (kC kI kN))))) kN) (fun ((z0,_,z1,z2,z3,_),_)=>(z0,z1,z2,z3)) (fun (x:tY17)=>((x.1,((),(x.2.1,(x.2.2.1,(x.2.2.2,()))))),())) (fun _=>rfl)
def sl_L103_2:SFn TL:=SFn.two ch_L103_2.dec (fun p=>L103_2 p.1 p.2.1 p.2.2.1 p.2.2.2) (.exit 0) .ret co0_L104_4.enc co0_L104_4.enc
def cs_lL103_2:cL:=[(69,df_localText)]
def v_L103_2:Env:=envOf tab sl sh [(68,fd68)] [(69,.pure)]
theorem v_L103_2_ok:EnvOK PR (mkD cs_lL103_2 sZ) v_L103_2:=envOK_of base (aC (st68.okl rfl aN) aN) (aC (oD ok_localText rfl) aN)
theorem run_L103_2 (x:tY17):Out.run (mkO cs_lL103_2 sZ) (evRound v_L103_2 12 20 fd103.an q_L103_2 (loopIn (loopsOf fd103.body) 2) (ch_L103_2.enc x)) (back2 ch_L103_2 co0_L104_4 co0_L104_4 (.exit 0) .ret)=stp_L103_2 x:=by kernel_rfl
theorem ok_L103_2:LoopOK PR (oneS sl_L103_2) nt103 q_L103_2 (loopIn (loopsOf fd103.body) 2) :=
  loop_two v_L103_2_ok (loops:=12) (k:=20) (an:=fd103.an) (by kernel_rfl) (FnSt.subl rfl st103.keys (aC (.inl (by kernel_rfl)) aN)) ch_L103_2 co0_L104_4 co0_L104_4 (.exit 0) .ret rfl rfl stp_L103_2 _ run_L103_2 (fun x y h=>⟨_,h⟩) (fun _=>below_iff.1 rfl)
def begin_ (sx1:State)(c1:Cmd):Option (State×Int) :=
 cond (cond (c1.kind != 1) (cond (c1.kind != 2) (c1.kind != 4) false) false)
 (ob (localOwn sx1) fun y6 =>
 some (y6,3))
 (cond (sx1.cmd.kind != 0)
 (ob (localOwn sx1) fun y7 =>
 some (y7,7))
 (cond (decide (sx1.req≥1073741824))
 (ob (localOwn sx1) fun y8 =>
 some (y8,11))
 (cond (cond (c1.kind == 1) (cond (sx1.epoch != 0) (!sx1.fenced) false) false)
 (ob (localOwn sx1) fun y9 =>
 some (y9,7))
 (cond (c1.kind == 1)
 (ob (localOwn sx1) fun y23 =>
 cond (c1.kind == 2)
 (cond (fits c1.wants.length)
 (ob (localOwn (State.mk y23.device y23.epoch y23.lease y23.ends y23.seq y23.sent y23.pending y23.colls y23.at_ y23.ver y23.subs (w64 (y23.req+1)) y23.now (Cmd.mk c1.kind y23.device y23.epoch (w64 (y23.req+1)) c1.n c1.wants []) y23.fenced y23.now)) fun y24 =>
 some (y24,0))
 none)
 (cond (c1.kind == 4)
 (ob (localOwn (State.mk y23.device y23.epoch (Lease.mk y23.lease.device y23.lease.epoch y23.lease.until_ y23.seq y23.lease.slices y23.lease.ids y23.lease.used) y23.ends y23.seq y23.sent y23.pending y23.colls y23.at_ y23.ver y23.subs (w64 (y23.req+1)) y23.now (Cmd.mk c1.kind y23.device y23.epoch (w64 (y23.req+1)) y23.seq [] []) y23.fenced y23.now)) fun y25 =>
 some (y25,0))
 (ob (localOwn (State.mk y23.device y23.epoch y23.lease y23.ends y23.seq y23.sent y23.pending y23.colls y23.at_ y23.ver y23.subs (w64 (y23.req+1)) y23.now (Cmd.mk c1.kind y23.device 0 (w64 (y23.req+1)) 0 [] []) y23.fenced y23.now)) fun y26 =>
 some (y26,0))))
 (cond (sx1.epoch == 0)
 (ob (localOwn sx1) fun y10 =>
 some (y10,2))
 (cond (sx1.fenced)
 (ob (localOwn sx1) fun y11 =>
 some (y11,16))
 (cond (c1.kind == 4)
 (cond (!(sx1.lease.epoch != 0))
 (ob (localOwn sx1) fun y12 =>
 some (y12,2))
 (cond (c1.kind == 4)
 (ob (localOwn sx1) fun y27 =>
 cond (c1.kind == 2)
 (cond (fits c1.wants.length)
 (ob (localOwn (State.mk y27.device y27.epoch y27.lease y27.ends y27.seq y27.sent y27.pending y27.colls y27.at_ y27.ver y27.subs (w64 (y27.req+1)) y27.now (Cmd.mk c1.kind y27.device y27.epoch (w64 (y27.req+1)) c1.n c1.wants []) y27.fenced y27.now)) fun y28 =>
 some (y28,0))
 none)
 (cond (c1.kind == 4)
 (ob (localOwn (State.mk y27.device y27.epoch (Lease.mk y27.lease.device y27.lease.epoch y27.lease.until_ y27.seq y27.lease.slices y27.lease.ids y27.lease.used) y27.ends y27.seq y27.sent y27.pending y27.colls y27.at_ y27.ver y27.subs (w64 (y27.req+1)) y27.now (Cmd.mk c1.kind y27.device y27.epoch (w64 (y27.req+1)) y27.seq [] []) y27.fenced y27.now)) fun y29 =>
 some (y29,0))
 (ob (localOwn (State.mk y27.device y27.epoch y27.lease y27.ends y27.seq y27.sent y27.pending y27.colls y27.at_ y27.ver y27.subs (w64 (y27.req+1)) y27.now (Cmd.mk c1.kind y27.device 0 (w64 (y27.req+1)) 0 [] []) y27.fenced y27.now)) fun y30 =>
 some (y30,0))))
 (cond (sx1.lease.epoch != 0)
 (ob (localOwn sx1) fun y13 =>
 some (y13,19))
 (cond (decide (c1.n < 1))
 (ob (localOwn sx1) fun y14 =>
 some (y14,1))
 (cond (decide (c1.n > 1000))
 (ob (localOwn sx1) fun y15 =>
 some (y15,1))
 (cond (decide ((c1.wants.length:Int) > 5))
 (ob (localOwn sx1) fun y16 =>
 some (y16,1))
 (ob (L103_2 c1.wants 0 (c1.wants.length:Int) 0) fun y0 =>
 two y0 (fun _ =>
 ob (localOwn sx1) fun y31 =>
 cond (c1.kind == 2)
 (cond (fits c1.wants.length)
 (ob (localOwn (State.mk y31.device y31.epoch y31.lease y31.ends y31.seq y31.sent y31.pending y31.colls y31.at_ y31.ver y31.subs (w64 (y31.req+1)) y31.now (Cmd.mk c1.kind y31.device y31.epoch (w64 (y31.req+1)) c1.n c1.wants []) y31.fenced y31.now)) fun y32 =>
 some (y32,0))
 none)
 (cond (c1.kind == 4)
 (ob (localOwn (State.mk y31.device y31.epoch (Lease.mk y31.lease.device y31.lease.epoch y31.lease.until_ y31.seq y31.lease.slices y31.lease.ids y31.lease.used) y31.ends y31.seq y31.sent y31.pending y31.colls y31.at_ y31.ver y31.subs (w64 (y31.req+1)) y31.now (Cmd.mk c1.kind y31.device y31.epoch (w64 (y31.req+1)) y31.seq [] []) y31.fenced y31.now)) fun y33 =>
 some (y33,0))
 (ob (localOwn (State.mk y31.device y31.epoch y31.lease y31.ends y31.seq y31.sent y31.pending y31.colls y31.at_ y31.ver y31.subs (w64 (y31.req+1)) y31.now (Cmd.mk c1.kind y31.device 0 (w64 (y31.req+1)) 0 [] []) y31.fenced y31.now)) fun y34 =>
 some (y34,0)))) (fun b2 =>
 cond (decide (b2≥0))
 (ob (localOwn sx1) fun y17 =>
 some (y17,1))
 (ob (localOwn sx1) fun y35 =>
 cond (c1.kind == 2)
 (cond (fits c1.wants.length)
 (ob (localOwn (State.mk y35.device y35.epoch y35.lease y35.ends y35.seq y35.sent y35.pending y35.colls y35.at_ y35.ver y35.subs (w64 (y35.req+1)) y35.now (Cmd.mk c1.kind y35.device y35.epoch (w64 (y35.req+1)) c1.n c1.wants []) y35.fenced y35.now)) fun y36 =>
 some (y36,0))
 none)
 (cond (c1.kind == 4)
 (ob (localOwn (State.mk y35.device y35.epoch (Lease.mk y35.lease.device y35.lease.epoch y35.lease.until_ y35.seq y35.lease.slices y35.lease.ids y35.lease.used) y35.ends y35.seq y35.sent y35.pending y35.colls y35.at_ y35.ver y35.subs (w64 (y35.req+1)) y35.now (Cmd.mk c1.kind y35.device y35.epoch (w64 (y35.req+1)) y35.seq [] []) y35.fenced y35.now)) fun y37 =>
 some (y37,0))
 (ob (localOwn (State.mk y35.device y35.epoch y35.lease y35.ends y35.seq y35.sent y35.pending y35.colls y35.at_ y35.ver y35.subs (w64 (y35.req+1)) y35.now (Cmd.mk c1.kind y35.device 0 (w64 (y35.req+1)) 0 [] []) y35.fenced y35.now)) fun y38 =>
 some (y38,0))))))))))))
 (cond (c1.kind == 4)
 (ob (localOwn sx1) fun y39 =>
 cond (c1.kind == 2)
 (cond (fits c1.wants.length)
 (ob (localOwn (State.mk y39.device y39.epoch y39.lease y39.ends y39.seq y39.sent y39.pending y39.colls y39.at_ y39.ver y39.subs (w64 (y39.req+1)) y39.now (Cmd.mk c1.kind y39.device y39.epoch (w64 (y39.req+1)) c1.n c1.wants []) y39.fenced y39.now)) fun y40 =>
 some (y40,0))
 none)
 (cond (c1.kind == 4)
 (ob (localOwn (State.mk y39.device y39.epoch (Lease.mk y39.lease.device y39.lease.epoch y39.lease.until_ y39.seq y39.lease.slices y39.lease.ids y39.lease.used) y39.ends y39.seq y39.sent y39.pending y39.colls y39.at_ y39.ver y39.subs (w64 (y39.req+1)) y39.now (Cmd.mk c1.kind y39.device y39.epoch (w64 (y39.req+1)) y39.seq [] []) y39.fenced y39.now)) fun y41 =>
 some (y41,0))
 (ob (localOwn (State.mk y39.device y39.epoch y39.lease y39.ends y39.seq y39.sent y39.pending y39.colls y39.at_ y39.ver y39.subs (w64 (y39.req+1)) y39.now (Cmd.mk c1.kind y39.device 0 (w64 (y39.req+1)) 0 [] []) y39.fenced y39.now)) fun y42 =>
 some (y42,0))))
 (cond (sx1.lease.epoch != 0)
 (ob (localOwn sx1) fun y18 =>
 some (y18,19))
 (cond (decide (c1.n < 1))
 (ob (localOwn sx1) fun y19 =>
 some (y19,1))
 (cond (decide (c1.n > 1000))
 (ob (localOwn sx1) fun y20 =>
 some (y20,1))
 (cond (decide ((c1.wants.length:Int) > 5))
 (ob (localOwn sx1) fun y21 =>
 some (y21,1))
 (ob (L103_2 c1.wants 0 (c1.wants.length:Int) 0) fun y3 =>
 two y3 (fun _ =>
 ob (localOwn sx1) fun y43 =>
 cond (c1.kind == 2)
 (cond (fits c1.wants.length)
 (ob (localOwn (State.mk y43.device y43.epoch y43.lease y43.ends y43.seq y43.sent y43.pending y43.colls y43.at_ y43.ver y43.subs (w64 (y43.req+1)) y43.now (Cmd.mk c1.kind y43.device y43.epoch (w64 (y43.req+1)) c1.n c1.wants []) y43.fenced y43.now)) fun y44 =>
 some (y44,0))
 none)
 (cond (c1.kind == 4)
 (ob (localOwn (State.mk y43.device y43.epoch (Lease.mk y43.lease.device y43.lease.epoch y43.lease.until_ y43.seq y43.lease.slices y43.lease.ids y43.lease.used) y43.ends y43.seq y43.sent y43.pending y43.colls y43.at_ y43.ver y43.subs (w64 (y43.req+1)) y43.now (Cmd.mk c1.kind y43.device y43.epoch (w64 (y43.req+1)) y43.seq [] []) y43.fenced y43.now)) fun y45 =>
 some (y45,0))
 (ob (localOwn (State.mk y43.device y43.epoch y43.lease y43.ends y43.seq y43.sent y43.pending y43.colls y43.at_ y43.ver y43.subs (w64 (y43.req+1)) y43.now (Cmd.mk c1.kind y43.device 0 (w64 (y43.req+1)) 0 [] []) y43.fenced y43.now)) fun y46 =>
 some (y46,0)))) (fun b5 =>
 cond (decide (b5≥0))
 (ob (localOwn sx1) fun y22 =>
 some (y22,1))
 (ob (localOwn sx1) fun y47 =>
 cond (c1.kind == 2)
 (cond (fits c1.wants.length)
 (ob (localOwn (State.mk y47.device y47.epoch y47.lease y47.ends y47.seq y47.sent y47.pending y47.colls y47.at_ y47.ver y47.subs (w64 (y47.req+1)) y47.now (Cmd.mk c1.kind y47.device y47.epoch (w64 (y47.req+1)) c1.n c1.wants []) y47.fenced y47.now)) fun y48 =>
 some (y48,0))
 none)
 (cond (c1.kind == 4)
 (ob (localOwn (State.mk y47.device y47.epoch (Lease.mk y47.lease.device y47.lease.epoch y47.lease.until_ y47.seq y47.lease.slices y47.lease.ids y47.lease.used) y47.ends y47.seq y47.sent y47.pending y47.colls y47.at_ y47.ver y47.subs (w64 (y47.req+1)) y47.now (Cmd.mk c1.kind y47.device y47.epoch (w64 (y47.req+1)) y47.seq [] []) y47.fenced y47.now)) fun y49 =>
 some (y49,0))
 (ob (localOwn (State.mk y47.device y47.epoch y47.lease y47.ends y47.seq y47.sent y47.pending y47.colls y47.at_ y47.ver y47.subs (w64 (y47.req+1)) y47.now (Cmd.mk c1.kind y47.device 0 (w64 (y47.req+1)) 0 [] []) y47.fenced y47.now)) fun y50 =>
 some (y50,0))))))))))))))))))
def un_begin_ (p:State×Cmd):Option (State×Int):=begin_ p.1 p.2
def df_begin_:DFn TL:=DFn.of (DA.cons (DT.agg dc_State) (DA.one (DT.agg dc_Cmd))) un_begin_ (DA.cons (DT.agg dc_State) (DA.one dI))
theorem run_begin_:DRun [] [(24,sf_localOwn),(203002,sl_L103_2)] (envOf tab sl sh [(15,fd15),(36,fd36),(66,fd66),(67,fd67),(103,fd103)] [(24,.sum),(37,(.cln 89))]) 15 (DA.cons (DT.agg dc_State) (DA.one (DT.agg dc_Cmd))) un_begin_ (DA.cons (DT.agg dc_State) (DA.one dI)):=fun _=>by kernel_rfl
theorem ok_begin_:DOK PR 15 .keep df_begin_:=dok run_begin_ (envOK_of base (aC (st15.okl rfl aN) (aC (st36.okl rfl aN) (aC (st66.okl rfl aN) (aC (st67.okl rfl aN) (aC (st103.okl rfl (aC (lC ok_L103_2 rfl) aN)) aN))))) (aC (okS rfl ok_localOwn) (aC (okCln okI_37) aN))) (.inl rfl) st15.enters
def answered (sx1:State)(rx1:Reply):Option State :=
 cond (rx1.err == 16)
 (some (State.mk sx1.device sx1.epoch sx1.lease sx1.ends sx1.seq sx1.sent sx1.pending sx1.colls sx1.at_ sx1.ver sx1.subs sx1.req sx1.asked (Cmd.mk 0 0 0 0 0 [] []) true sx1.now))
 (cond (cond (rx1.err != 0) (sx1.cmd.kind == 4) false)
 (some (State.mk sx1.device sx1.epoch (Lease.mk sx1.lease.device sx1.lease.epoch sx1.lease.until_ (-1) sx1.lease.slices sx1.lease.ids sx1.lease.used) sx1.ends sx1.seq sx1.sent sx1.pending sx1.colls sx1.at_ sx1.ver sx1.subs sx1.req sx1.asked (Cmd.mk 0 0 0 0 0 [] []) sx1.fenced sx1.now))
 (cond (rx1.err != 0)
 (some (State.mk sx1.device sx1.epoch sx1.lease sx1.ends sx1.seq sx1.sent sx1.pending sx1.colls sx1.at_ sx1.ver sx1.subs sx1.req sx1.asked (Cmd.mk 0 0 0 0 0 [] []) sx1.fenced sx1.now))
 (cond (sx1.cmd.kind == 1)
 (some (State.mk sx1.device rx1.n (Lease.mk 0 0 0 0 [] [] []) 0 0 0 [] sx1.colls sx1.at_ sx1.ver sx1.subs sx1.req sx1.asked (Cmd.mk 0 0 0 0 0 [] []) false sx1.now))
 (cond (sx1.cmd.kind == 2)
 (ob (leaseOwn rx1.lease) fun y0 =>
 some (State.mk sx1.device sx1.epoch y0 (w64 (sx1.asked+sx1.cmd.n)) sx1.seq sx1.sent sx1.pending sx1.colls sx1.at_ sx1.ver sx1.subs sx1.req sx1.asked (Cmd.mk 0 0 0 0 0 [] []) sx1.fenced sx1.now))
 (some (State.mk sx1.device sx1.epoch (Lease.mk 0 0 0 0 [] [] []) 0 sx1.seq sx1.sent sx1.pending sx1.colls sx1.at_ sx1.ver sx1.subs sx1.req sx1.asked (Cmd.mk 0 0 0 0 0 [] []) sx1.fenced sx1.now))))))
def un_answered (p:State×Reply):Option State:=answered p.1 p.2
def df_answered:DFn TL:=DFn.of (DA.cons (DT.agg dc_State) (DA.one (DT.agg dc_Reply))) un_answered (DA.one (DT.agg dc_State))
theorem run_answered:DRun [] [(46,sf_leaseOwn)] (envOf tab sl sh [(39,fd39)] [(46,.sum)]) 39 (DA.cons (DT.agg dc_State) (DA.one (DT.agg dc_Reply))) un_answered (DA.one (DT.agg dc_State)):=fun _=>by kernel_rfl
theorem ok_answered:DOK PR 39 .keep df_answered:=dok run_answered (envOK_of base (aC (st39.okl rfl aN) aN) (aC (okS rfl ok_leaseOwn) aN)) (.inl rfl) st39.enters
def step_L70_5 (i1:Int)(i2:Int)(sx1:State):Option ((Int×Int×State)⊕(Int×State)) :=
 cond (decide (i2 < (sx1.pending.length:Int)))
 (cond (decide (0≤i2))
 (cond (decide (i2 < (sx1.pending.length:Int)))
 (ob (sx1.pending[i2.toNat]?) fun e0 =>
 cond (decide (e0.dot.seq≤sx1.sent))
 (cond (decide (e0.coll≥0))
 (cond (decide (e0.coll < (sx1.subs.length:Int)))
 (cond (decide (0≤e0.coll))
 (cond (decide (e0.coll < (sx1.subs.length:Int)))
 (ob (sx1.subs[e0.coll.toNat]?) fun e1 =>
 cond (!(!e1))
 (cond (decide (0≤i1))
 (cond (decide (i1 < (sx1.pending.length:Int)))
 (ob (sx1.pending[i1.toNat]?) fun _ =>
 some (.inl ((w64 (i1+1)),(w64 (i2+1)),(State.mk sx1.device sx1.epoch sx1.lease sx1.ends sx1.seq sx1.sent (sx1.pending.set i1.toNat e0) sx1.colls sx1.at_ sx1.ver sx1.subs sx1.req sx1.asked sx1.cmd sx1.fenced sx1.now))))
 none)
 none)
 (some (.inl (i1,(w64 (i2+1)),sx1))))
 none)
 none)
 (some (.inl (i1,(w64 (i2+1)),sx1))))
 (some (.inl (i1,(w64 (i2+1)),sx1))))
 (cond (decide (0≤i1))
 (cond (decide (i1 < (sx1.pending.length:Int)))
 (ob (sx1.pending[i1.toNat]?) fun _ =>
 some (.inl ((w64 (i1+1)),(w64 (i2+1)),(State.mk sx1.device sx1.epoch sx1.lease sx1.ends sx1.seq sx1.sent (sx1.pending.set i1.toNat e0) sx1.colls sx1.at_ sx1.ver sx1.subs sx1.req sx1.asked sx1.cmd sx1.fenced sx1.now))))
 none)
 none))
 none)
 none)
 (some (.inr (i1,sx1)))
def stp_L70_5 (p:Int×Int×State):Option ((Int×Int×State)⊕(Int×State)):=step_L70_5 p.1 p.2.1 p.2.2
def L70_5 (i1:Int)(i2:Int)(sx1:State):Option (Int×State):=iterO stp_L70_5 (1099511627776) (i1,i2,sx1)
def hc0_State:Cod (List (Nat×En TL)) State:=kO (kC (kR 0 50 j_lOp) (kC (Cod.var 1 43 (kC kJ (kC kJ (kC kJ (kC kJ (kC kJ (kC kJ (kC (kA 2) (kC (kA 3) (kC (kA 4) (kC kJ (kC kJ (kC kJ (kC (kA 0) (kC (kA 5) (kC (kA 6) (kC (kA 7) (kC (kA 8) (kC (kA 9) (kC (kA 10) (kC (kA 11) (kC (kA 12) (kC (kA 13) (kC (kA 14) (kC (kA 15) (kC (kA 16) (kC (kA 17) (kC (kA 18) (kC (kA 19) (kC (kA 20) (kC (kA 21) (kC (kA 22) (kC kJ (kC kJ (kC (kA 23) (kC kJ (kC kJ (kC kJ (kC kJ (kC kJ (kC kJ (kC kJ (kC (kA 24) (kC (kG j_lOp) (kC kD (kC kJ kN)))))))))))))))))))))))))))))))))))))))))))))) (kC (kR 2 62 j_lSlice) (kC (kR 3 98 j_lRange) (kC (kR 4 3 j_lInt) (kC (kR 5 112 j_lDot) (kC (kR 6 103 j_lReg) (kC (kR 7 100 j_lElem) (kC (kR 8 48 j_lDot) (kC (kR 9 118 j_lSum) (kC (kR 10 121 j_lBind) (kC (kR 11 112 j_lDot) (kC (kR 12 103 j_lReg) (kC (kR 13 100 j_lElem) (kC (kR 14 48 j_lDot) (kC (kR 15 118 j_lSum) (kC (kR 16 121 j_lBind) (kC (kR 17 112 j_lDot) (kC (kR 18 103 j_lReg) (kC (kR 19 100 j_lElem) (kC (kR 20 48 j_lDot) (kC (kR 21 118 j_lSum) (kC (kR 22 121 j_lBind) (kC (kR 23 4 j_lBool) (kC (kR 24 89 j_lWant) kN))))))))))))))))))))))))) (fun p=>(State.mk p.2.1.1 p.2.1.2.1 (Lease.mk p.2.1.2.2.1 p.2.1.2.2.2.1 p.2.1.2.2.2.2.1 p.2.1.2.2.2.2.2.1 p.2.2.1 p.2.2.2.1 p.2.2.2.2.1) (t8 p.2.1).2.1 (t8 p.2.1).2.2.1 (t8 p.2.1).2.2.2.1 p.1 (A3Coll.mk (Coll.mk p.2.2.2.2.2.1 p.2.2.2.2.2.2.1 p.2.2.2.2.2.2.2.1 (t8 p).1 (t8 p).2.1 (t8 p).2.2.1) (Coll.mk (t8 p).2.2.2.1 (t8 p).2.2.2.2.1 (t8 p).2.2.2.2.2.1 (t8 p).2.2.2.2.2.2.1 (t8 p).2.2.2.2.2.2.2.1 (t8 (t8 p)).1) (Coll.mk (t8 (t8 p)).2.1 (t8 (t8 p)).2.2.1 (t8 (t8 p)).2.2.2.1 (t8 (t8 p)).2.2.2.2.1 (t8 (t8 p)).2.2.2.2.2.1 (t8 (t8 p)).2.2.2.2.2.2.1)) (t8 (t8 (t8 p.2.1))).2.2.2.2.2.2.2.1 (t32 p.2.1).1 (t8 (t8 p)).2.2.2.2.2.2.2.1 (t32 p.2.1).2.2.1 (t32 p.2.1).2.2.2.1 (Cmd.mk (t32 p.2.1).2.2.2.2.1 (t32 p.2.1).2.2.2.2.2.1 (t32 p.2.1).2.2.2.2.2.2.1 (t32 p.2.1).2.2.2.2.2.2.2.1 (t8 (t32 p.2.1)).1 (t8 (t8 (t8 p))).1 (t8 (t32 p.2.1)).2.2.1) (t8 (t32 p.2.1)).2.2.2.1 (t8 (t32 p.2.1)).2.2.2.2.1)) (fun (x:State)=>(x.pending,((x.device,(x.epoch,(x.lease.device,(x.lease.epoch,(x.lease.until_,(x.lease.last,((),((),((),(x.ends,(x.seq,(x.sent,((),((),((),((),((),((),((),((),((),((),((),((),((),((),((),((),((),((),((),(x.at_,(x.ver,((),(x.req,(x.asked,(x.cmd.kind,(x.cmd.device,(x.cmd.epoch,(x.cmd.req,(x.cmd.n,((),(x.cmd.ops,(x.fenced,(x.now,()))))))))))))))))))))))))))))))))))))))))))))),(x.lease.slices,(x.lease.ids,(x.lease.used,(x.colls.a0.v,(x.colls.a0.regs,(x.colls.a0.elems,(x.colls.a0.gone,(x.colls.a0.sums,(x.colls.a0.binds,(x.colls.a1.v,(x.colls.a1.regs,(x.colls.a1.elems,(x.colls.a1.gone,(x.colls.a1.sums,(x.colls.a1.binds,(x.colls.a2.v,(x.colls.a2.regs,(x.colls.a2.elems,(x.colls.a2.gone,(x.colls.a2.sums,(x.colls.a2.binds,(x.subs,(x.cmd.wants,())))))))))))))))))))))))))) (fun _=>rfl)
def ch_L70_5:kT (Int×Int×State):=kO (kS 25 (kC (Cod.xs (Cod.sc (kA 0))) (kC (Cod.xs (Cod.sc (Cod.clo 71 [] [(1,0)]))) (kC kI (kC kI kN)))) hc0_State) (fun p=>(p.1.2.2.1,p.1.2.2.2.1,p.2)) (fun (x:Int×Int×State)=>(((),((),(x.1,(x.2.1,())))),x.2.2)) (fun _=>rfl)
def co0_L70_5:kT (Int×State):=kO (kS 50 (kC (Cod.xs (Cod.sc (kA 0))) (kC kI kN)) hc0_State) (fun p=>(p.1.2.1,p.2)) (fun (x:Int×State)=>(((),(x.1,())),x.2)) (fun _=>rfl)
def sl_L70_5:SFn TL:=SFn.one ch_L70_5.dec (fun p=>L70_5 p.1 p.2.1 p.2.2) (.exit 0) co0_L70_5.enc
def v_L70_5:Env:=envOf tab sl sh [(71,fd71),(25,fd25)] []
theorem v_L70_5_ok:EnvOK PR (mkD cZ sZ) v_L70_5:=envOK_of base (aC (st71.okl rfl aN) (aC (st25.okl rfl aN) aN)) aN
theorem run_L70_5 (x:Int×Int×State):Out.run (mkO cZ sZ) (evRound v_L70_5 12 20 fd70.an q_L70_5 (loopIn (loopsOf fd70.body) 5) (ch_L70_5.enc x)) (back ch_L70_5 co0_L70_5 fun e=>exE e (.exit 0))=stp_L70_5 x:=by kernel_rfl
theorem ok_L70_5:LoopOK PR (oneS sl_L70_5) nt70 q_L70_5 (loopIn (loopsOf fd70.body) 5) :=
  loop_one v_L70_5_ok (loops:=12) (k:=20) (an:=fd70.an) (by kernel_rfl) (FnSt.subl rfl st70.keys (aC (.inl (by kernel_rfl)) aN)) ch_L70_5 co0_L70_5 (.exit 0) rfl stp_L70_5 _ run_L70_5 (fun x y h=>⟨_,h⟩) (fun _=>below_iff.1 rfl)
def step_L27_2 (i1:Int)(i2:Int)(i3:Int)(sx1:State):Option ((Int×Int×Int×State)⊕(((Int×State)⊕(Int×State)))) :=
 cond (decide (i3 < i2))
 (cond (decide (0≤i3))
 (cond (decide (i3 < (sx1.pending.length:Int)))
 (ob (sx1.pending[i3.toNat]?) fun e0 =>
 cond (decide (e0.dot.seq≤sx1.sent))
 (cond (decide (e0.coll≥0))
 (cond (decide (e0.coll < (sx1.subs.length:Int)))
 (cond (decide (0≤e0.coll))
 (cond (decide (e0.coll < (sx1.subs.length:Int)))
 (ob (sx1.subs[e0.coll.toNat]?) fun e1 =>
 cond (!e1)
 (some (.inr (.inr (i3,sx1))))
 (some (.inl (i1,i2,(w64 (i3+1)),sx1))))
 none)
 none)
 (some (.inr (.inr (i3,sx1)))))
 (some (.inr (.inr (i3,sx1)))))
 (some (.inl (i1,i2,(w64 (i3+1)),sx1))))
 none)
 none)
 (some (.inr (.inl (i1,sx1))))
def stp_L27_2 (p:Int×Int×Int×State):Option ((Int×Int×Int×State)⊕(((Int×State)⊕(Int×State)))):=step_L27_2 p.1 p.2.1 p.2.2.1 p.2.2.2
def L27_2 (i1:Int)(i2:Int)(i3:Int)(sx1:State):Option (((Int×State)⊕(Int×State))):=iterO stp_L27_2 ((i2 - i3).toNat+2) (i1,i2,i3,sx1)
def ch_L27_2:kT (Int×Int×Int×State):=kO (kS 25 (kC (Cod.xs (Cod.sc (kA 0))) (kC (Cod.xs (Cod.sc (Cod.clo 71 [] [(1,0)]))) (kC kI (kC kI (kC kI kN))))) hc0_State) (fun ((_,_,z0,z1,z2,_),z3)=>(z0,z1,z2,z3)) (fun (x:Int×Int×Int×State)=>(((),((),(x.1,(x.2.1,(x.2.2.1,()))))),x.2.2.2)) (fun _=>rfl)
def co0_L27_2:kT (Int×State):=kO (kS 50 (kC kI kN) hc0_State) (fun p=>(p.1.1,p.2)) (fun (x:Int×State)=>((x.1,()),x.2)) (fun _=>rfl)
def sl_L27_2:SFn TL:=SFn.two ch_L27_2.dec (fun p=>L27_2 p.1 p.2.1 p.2.2.1 p.2.2.2) (.exit 0) .ret co0_L27_2.enc co0_L27_2.enc
def v_L27_2:Env:=envOf tab sl sh [(71,fd71),(25,fd25)] []
theorem v_L27_2_ok:EnvOK PR (mkD cZ sZ) v_L27_2:=envOK_of base (aC (st71.okl rfl aN) (aC (st25.okl rfl aN) aN)) aN
theorem run_L27_2 (x:Int×Int×Int×State):Out.run (mkO cZ sZ) (evRound v_L27_2 12 20 fd27.an q_L27_2 (loopIn (loopsOf fd27.body) 2) (ch_L27_2.enc x)) (back2 ch_L27_2 co0_L27_2 co0_L27_2 (.exit 0) .ret)=stp_L27_2 x:=by kernel_rfl
theorem ok_L27_2:LoopOK PR (oneS sl_L27_2) nt27 q_L27_2 (loopIn (loopsOf fd27.body) 2) :=
  loop_two v_L27_2_ok (loops:=12) (k:=20) (an:=fd27.an) (by kernel_rfl) (FnSt.subl rfl st27.keys (aC (.inl (by kernel_rfl)) aN)) ch_L27_2 co0_L27_2 co0_L27_2 (.exit 0) .ret rfl rfl stp_L27_2 _ run_L27_2 (fun x y h=>⟨_,h⟩) (fun _=>below_iff.1 rfl)
def reply (sx1:State)(i1:Int)(rx1:Reply):Option (State×Int) :=
 cond (i1 == 0)
 (ob (localOwn sx1) fun y0 =>
 cond (y0.epoch == 0)
 (ob (localOwn y0) fun y9 =>
 some (y9,2))
 (cond (rx1.err == 16)
 (ob (localOwn (State.mk y0.device y0.epoch y0.lease y0.ends y0.seq y0.sent y0.pending y0.colls y0.at_ y0.ver y0.subs y0.req y0.asked y0.cmd true y0.now)) fun y10 =>
 some (y10,0))
 (cond (rx1.err != 0)
 (ob (localOwn y0) fun y11 =>
 some (y11,0))
 (cond (decide (rx1.n≤y0.seq))
 (ob (L27_2 0 (y0.pending.length:Int) 0 (State.mk y0.device y0.epoch y0.lease y0.ends y0.seq (max2 y0.sent rx1.n) y0.pending y0.colls y0.at_ y0.ver y0.subs y0.req y0.asked y0.cmd y0.fenced y0.now)) fun y1 =>
 two y1 (fun a2 =>
 ob (localOwn a2.2) fun y12 =>
 some (y12,0)) (fun b3 =>
 cond (b3.1 == (-1))
 (ob (localOwn b3.2) fun y13 =>
 some (y13,0))
 (ob (L70_5 b3.1 (w64 (b3.1+1)) b3.2) fun y4 =>
 cond (decide (0≤y4.1))
 (cond (decide (y4.1≤(y4.2.pending.length:Int)))
 (cond (decide ((y4.2.pending.length:Int)≤(y4.2.pending.length:Int)))
 (cond (decide (0≤y4.1))
 (cond (decide (y4.1≤((((y4.2.pending.take y4.1.toNat)++(List.replicate (((y4.2.pending.length:Int)).toNat - y4.1.toNat) (Op.mk (Dot.mk 0 0 0) 0 0 0 s_empty s_empty 0 0 [])))++((y4.2.pending.take y4.2.pending.length).drop (y4.1.toNat+(((y4.2.pending.length:Int)).toNat - y4.1.toNat)))).length:Int)))
 (ob (localOwn (State.mk y4.2.device y4.2.epoch y4.2.lease y4.2.ends y4.2.seq y4.2.sent ((((y4.2.pending.take y4.1.toNat)++(List.replicate (((y4.2.pending.length:Int)).toNat - y4.1.toNat) (Op.mk (Dot.mk 0 0 0) 0 0 0 s_empty s_empty 0 0 [])))++((y4.2.pending.take y4.2.pending.length).drop (y4.1.toNat+(((y4.2.pending.length:Int)).toNat - y4.1.toNat)))).take y4.1.toNat) y4.2.colls y4.2.at_ y4.2.ver y4.2.subs y4.2.req y4.2.asked y4.2.cmd y4.2.fenced y4.2.now)) fun y14 =>
 some (y14,0))
 none)
 none)
 none)
 none)
 none)))
 (ob (L27_2 0 (y0.pending.length:Int) 0 y0) fun y5 =>
 two y5 (fun a6 =>
 ob (localOwn a6.2) fun y15 =>
 some (y15,0)) (fun b7 =>
 cond (b7.1 == (-1))
 (ob (localOwn b7.2) fun y16 =>
 some (y16,0))
 (ob (L70_5 b7.1 (w64 (b7.1+1)) b7.2) fun y8 =>
 cond (decide (0≤y8.1))
 (cond (decide (y8.1≤(y8.2.pending.length:Int)))
 (cond (decide ((y8.2.pending.length:Int)≤(y8.2.pending.length:Int)))
 (cond (decide (0≤y8.1))
 (cond (decide (y8.1≤((((y8.2.pending.take y8.1.toNat)++(List.replicate (((y8.2.pending.length:Int)).toNat - y8.1.toNat) (Op.mk (Dot.mk 0 0 0) 0 0 0 s_empty s_empty 0 0 [])))++((y8.2.pending.take y8.2.pending.length).drop (y8.1.toNat+(((y8.2.pending.length:Int)).toNat - y8.1.toNat)))).length:Int)))
 (ob (localOwn (State.mk y8.2.device y8.2.epoch y8.2.lease y8.2.ends y8.2.seq y8.2.sent ((((y8.2.pending.take y8.1.toNat)++(List.replicate (((y8.2.pending.length:Int)).toNat - y8.1.toNat) (Op.mk (Dot.mk 0 0 0) 0 0 0 s_empty s_empty 0 0 [])))++((y8.2.pending.take y8.2.pending.length).drop (y8.1.toNat+(((y8.2.pending.length:Int)).toNat - y8.1.toNat)))).take y8.1.toNat) y8.2.colls y8.2.at_ y8.2.ver y8.2.subs y8.2.req y8.2.asked y8.2.cmd y8.2.fenced y8.2.now)) fun y17 =>
 some (y17,0))
 none)
 none)
 none)
 none)
 none)))))))
 (cond (cond (sx1.cmd.kind == 0) true (i1 != sx1.req))
 (ob (localOwn sx1) fun y18 =>
 some (y18,2))
 (ob (localOwn sx1) fun y19 =>
 ob (answered y19 rx1) fun r20 =>
 ob (localOwn r20) fun y21 =>
 some (y21,0)))
def un_reply (p:State×Int×Reply):Option (State×Int):=reply p.1 p.2.1 p.2.2
def df_reply:DFn TL:=DFn.of (DA.cons (DT.agg dc_State) (DA.cons dI (DA.one (DT.agg dc_Reply)))) un_reply (DA.cons (DT.agg dc_State) (DA.one dI))
theorem run_reply:DRun [(39,df_answered)] [(24,sf_localOwn),(170005,sl_L70_5),(127002,sl_L27_2)] (envOf tab sl sh [(16,fd16),(38,fd38),(70,fd70),(27,fd27)] [(24,.sum),(39,.keep)]) 16 (DA.cons (DT.agg dc_State) (DA.cons dI (DA.one (DT.agg dc_Reply)))) un_reply (DA.cons (DT.agg dc_State) (DA.one dI)):=fun _=>by kernel_rfl
theorem ok_reply:DOK PR 16 .keep df_reply:=dok run_reply (envOK_of base (aC (st16.okl rfl aN) (aC (st38.okl rfl aN) (aC (st70.okl rfl (aC (lC ok_L70_5 rfl) aN)) (aC (st27.okl rfl (aC (lC ok_L27_2 rfl) aN)) aN)))) (aC (okS rfl ok_localOwn) (aC (oD ok_answered rfl) aN))) (.inl rfl) st16.enters
def time (sx1:State)(i1:Int):Option (State×Int) :=
 cond (cond (decide (i1 < 0)) true (decide (i1 > 100)))
 (ob (localOwn sx1) fun y0 =>
 some (y0,1))
 (cond (decide ((w64 (sx1.now+i1)) > 1099511627776))
 (ob (localOwn sx1) fun y1 =>
 some (y1,11))
 (ob (localOwn sx1) fun y2 =>
 some ((State.mk y2.device y2.epoch y2.lease y2.ends y2.seq y2.sent y2.pending y2.colls y2.at_ y2.ver y2.subs y2.req y2.asked y2.cmd y2.fenced (w64 (y2.now+i1))),0)))
end
end Go.Proofs.YthhfjodcgibhfaaGreat
