/- By program (gen.py): the functions in their typed form. -/
import Derived.Test.YtcjpeijiaojeiaaGreatF0
import Derived.Test.YtcjpeijiaojeiaaGreatLb
namespace Go.Proofs.YtcjpeijiaojeiaaGreat
open Go Go.Ev
set_option maxRecDepth 1000000
noncomputable section
def step_L137_2 (i1:Int)(i2:Int)(i3:Int)(bx1:Book):Option ((Int×Int×Int×Book)⊕(((Int×Book)⊕(Int×Book)))) :=
 cond (decide (i3 < (bx1.leases.length:Int)))
 (cond (decide (0≤i3))
 (ob (bx1.leases[i3.toNat]?) fun e0 =>
 cond (e0.device == i1)
 (some (.inr (.inr (i3,bx1))))
 (some (.inl (i1,i2,(w64 (i3+1)),bx1))))
 none)
 (some (.inr (.inl (i2,bx1))))
def stp_L137_2 (p:Int×Int×Int×Book):Option ((Int×Int×Int×Book)⊕(((Int×Book)⊕(Int×Book)))):=step_L137_2 p.1 p.2.1 p.2.2.1 p.2.2.2
def L137_2 (i1:Int)(i2:Int)(i3:Int)(bx1:Book):Option (((Int×Book)⊕(Int×Book))):=iterO stp_L137_2 (1099511627776) (i1,i2,i3,bx1)
def ch_L137_2:kT (Int×Int×Int×Book):=kO (kS 1 (kC kI (kC (kP 0 0) (kC kI (kC kI kN)))) (kC (Cod.var 0 29 cc_Book) kN)) (fun p=>(p.1.1,p.1.2.2.1,p.1.2.2.2.1,p.2.1)) (fun (x:Int×Int×Int×Book)=>((x.1,((),(x.2.1,(x.2.2.1,())))),(x.2.2.2,()))) (fun _=>rfl)
def sl_L137_2:SFn TL:=SFn.two ch_L137_2.dec (fun p=>L137_2 p.1 p.2.1 p.2.2.1 p.2.2.2) (.exit 0) .ret co0_L44_2.enc co0_L44_2.enc
def v_L137_2:Env:=envOf tab sl sh [] []
theorem v_L137_2_ok:EnvOK PR (mkD cZ sZ) v_L137_2:=envOK_of base aN aN
theorem run_L137_2 (x:Int×Int×Int×Book):Out.run (mkO cZ sZ) (evRound v_L137_2 12 20 fd137.an q_L137_2 (loopIn (loopsOf fd137.body) 2) (ch_L137_2.enc x)) (back2 ch_L137_2 co0_L44_2 co0_L44_2 (.exit 0) .ret)=stp_L137_2 x:=by kernel_rfl
theorem ok_L137_2:LoopOK PR (oneS sl_L137_2) nt137 q_L137_2 (loopIn (loopsOf fd137.body) 2) :=
  loop_two v_L137_2_ok (loops:=12) (k:=20) (an:=fd137.an) (by kernel_rfl) (FnSt.subl rfl st137.keys (aC (.inl (by kernel_rfl)) aN)) ch_L137_2 co0_L44_2 co0_L44_2 (.exit 0) .ret rfl rfl stp_L137_2 _ run_L137_2 (fun x y h=>⟨_,h⟩) (fun _=>below_iff.1 rfl)
def ref12_at (bx1:Book)(i1:Int):Option Int :=
 ob (L137_2 i1 0 0 bx1) fun y0 =>
 two y0 (fun _ =>
 some (-1)) (fun b2 =>
 some b2.1)
def un_ref12_at (p:Book×Int):Option Int:=ref12_at p.1 p.2
def df_ref12_at:DFn TL:=DFn.of (DA.cons (DT.agg dc_Book) (DA.one dI)) un_ref12_at (DA.one dI)
theorem run_ref12_at:DRun [] [(237002,sl_L137_2)] (envOf tab sl sh [(137,fd137)] []) 137 (DA.cons (DT.agg dc_Book) (DA.one dI)) un_ref12_at (DA.one dI):=fun _=>by kernel_rfl
theorem ok_ref12_at:DOK PR 137 .pure df_ref12_at:=dok run_ref12_at (envOK_of base (aC (st137.okl rfl (aC (lC ok_L137_2 rfl) aN)) aN) aN) (.inr rfl) st137.enters
def ref12CopyOf (lx1:Lease):Option Lease :=
 cond (fits (([]++lx1.slices).length))
 (cond (fits (([]++lx1.ids).length))
 (cond (fits (([]++lx1.used).length))
 (some (Lease.mk lx1.device lx1.epoch lx1.until_ lx1.last ([]++lx1.slices) ([]++lx1.ids) ([]++lx1.used)))
 none)
 none)
 none
def un_ref12CopyOf (p:Lease):Option Lease:=ref12CopyOf p
def sf_ref12CopyOf:SFn TL:=SFn.one ch_deskLease.dec un_ref12CopyOf .normal co_deskLease.enc
def env_ref12CopyOf:Env:=envOf tab sl sh [(138,fd138)] []
theorem env_ref12CopyOf_ok:EnvOK PR (mkD cZ sZ) env_ref12CopyOf:=envOK_of base (aC (st138.okl rfl aN) aN) aN
theorem run_ref12CopyOf (x:Lease):Out.run (mkO cZ sZ) (evSum env_ref12CopyOf 12 20 138 (ch_deskLease.enc x)) (back1 co_deskLease)=un_ref12CopyOf x:=by kernel_rfl
theorem ok_ref12CopyOf:SOK PR 138 sf_ref12CopyOf:=sum_one env_ref12CopyOf_ok (loops:=12) (n:=20) st138.enters ch_deskLease co_deskLease un_ref12CopyOf run_ref12CopyOf
def ref12Find (bx1:Book)(i1:Int)(i2:Int):Option (Lease×Bool) :=
 ob (ref12_at bx1 i1) fun r0 =>
 cond (decide (r0 < 0))
 (some ((Lease.mk 0 0 0 0 [] [] []),false))
 (cond (decide (0≤r0))
 (ob (bx1.leases[r0.toNat]?) fun e1 =>
 cond (e1.epoch != i2)
 (some ((Lease.mk 0 0 0 0 [] [] []),false))
 (cond (decide (0≤r0))
 (ob (bx1.leases[r0.toNat]?) fun e2 =>
 ob (ref12CopyOf e2) fun y3 =>
 some (y3,true))
 none))
 none)
def un_ref12Find (p:Book×Int×Int):Option (Lease×Bool):=ref12Find p.1 p.2.1 p.2.2
def df_ref12Find:DFn TL:=DFn.of (DA.cons (DT.agg dc_Book) (DA.cons dI (DA.one dI))) un_ref12Find (DA.cons (DT.agg dc_Lease) (DA.one dB))
theorem run_ref12Find:DRun [(137,df_ref12_at)] [(138,sf_ref12CopyOf)] (envOf tab sl sh [(98,fd98)] [(137,.pure),(138,.sum)]) 98 (DA.cons (DT.agg dc_Book) (DA.cons dI (DA.one dI))) un_ref12Find (DA.cons (DT.agg dc_Lease) (DA.one dB)):=fun _=>by kernel_rfl
theorem ok_ref12Find:DOK PR 98 .keep df_ref12Find:=dok run_ref12Find (envOK_of base (aC (st98.okl rfl aN) aN) (aC (oD ok_ref12_at rfl) (aC (okS rfl ok_ref12CopyOf) aN))) (.inl rfl) st98.enters
def step_L99_3 (l1:List Range)(i1:Int)(i2:Int):Option (((List Range)×Int×Int)⊕(Int)) :=
 cond (decide (i2 < (l1.length:Int)))
 (cond (decide (0≤i2))
 (ob (l1[i2.toNat]?) fun e0 =>
 cond (decide (0≤i2))
 (ob (l1[i2.toNat]?) fun e1 =>
 some (.inl (l1,(w64 ((w64 (i1+e0.to_)) - e1.from_)),(w64 (i2+1)))))
 none)
 none)
 (some (.inr i1))
def stp_L99_3 (p:(List Range)×Int×Int):Option (((List Range)×Int×Int)⊕(Int)):=step_L99_3 p.1 p.2.1 p.2.2
def L99_3 (l1:List Range)(i1:Int)(i2:Int):Option Int:=iterO stp_L99_3 (((l1.length:Int) - i2).toNat+2) (l1,i1,i2)
def ch_L99_3:kT ((List Range)×Int×Int):=kO (kS 0 (kC (kF j_lRange) (kC kI (kC kI kN))) kN) (fun p=>(p.1.1,p.1.2.1,p.1.2.2.1)) (fun (x:(List Range)×Int×Int)=>((x.1,(x.2.1,(x.2.2,()))),())) (fun _=>rfl)
def co0_L99_3:kT (Int):=kO (kS 0 (kC kI kN) kN) (fun p=>p.1.1) (fun (x:Int)=>((x,()),())) (fun _=>rfl)
def sl_L99_3:SFn TL:=SFn.one ch_L99_3.dec (fun p=>L99_3 p.1 p.2.1 p.2.2) (.exit 0) co0_L99_3.enc
def v_L99_3:Env:=envOf tab sl sh [] []
theorem v_L99_3_ok:EnvOK PR (mkD cZ sZ) v_L99_3:=envOK_of base aN aN
theorem run_L99_3 (x:(List Range)×Int×Int):Out.run (mkO cZ sZ) (evRound v_L99_3 12 20 fd99.an q_L99_3 (loopIn (loopsOf fd99.body) 3) (ch_L99_3.enc x)) (back ch_L99_3 co0_L99_3 fun e=>exE e (.exit 0))=stp_L99_3 x:=by kernel_rfl
theorem ok_L99_3:LoopOK PR (oneS sl_L99_3) nt99 q_L99_3 (loopIn (loopsOf fd99.body) 3) :=
  loop_one v_L99_3_ok (loops:=12) (k:=20) (an:=fd99.an) (by kernel_rfl) (FnSt.subl rfl st99.keys (aC (.inl (by kernel_rfl)) aN)) ch_L99_3 co0_L99_3 (.exit 0) rfl stp_L99_3 _ run_L99_3 (fun x y h=>⟨_,h⟩) (fun _=>below_iff.1 rfl)
def ref11Len (l1:List Range):Option Int :=
 ob (L99_3 l1 0 0) fun y0 =>
 some y0
def un_ref11Len (p:(List Range)):Option Int:=ref11Len p
def df_ref11Len:DFn TL:=DFn.of (DA.one (DT.one di_lRange)) un_ref11Len (DA.one dI)
theorem run_ref11Len:DRun [] [(199003,sl_L99_3)] (envOf tab sl sh [(99,fd99)] []) 99 (DA.one (DT.one di_lRange)) un_ref11Len (DA.one dI):=fun _=>by kernel_rfl
theorem ok_ref11Len:DOK PR 99 .pure df_ref11Len:=dok run_ref11Len (envOK_of base (aC (st99.okl rfl (aC (lC ok_L99_3 rfl) aN)) aN) aN) (.inr rfl) st99.enters
def l13_fit (d1:Desk)(o1:Op)(i1:Int):Option Op :=
 ob (ref12Find d1.book o1.dot.device o1.dot.epoch) fun r0 =>
 cond (cond ((i1.tmod 4) == 0) true (!r0.2))
 (cond (cond (decide (o1.kind > 3)) (decide ((i1.tmod 5) > 0)) false)
 (some (Op.mk o1.dot o1.coll o1.ver 1 s_a o1.text o1.n o1.time o1.dots))
 (some o1))
 (cond (cond (o1.kind == 5) (decide ((r0.1.ids.length:Int) > 0)) false)
 (ob (r0.1.ids[0]?) fun e1 =>
 cond (decide (1≤(r0.1.ids.length:Int)))
 (ob (ref11Len (r0.1.ids.take 1)) fun r2 =>
 ob (within (w64 (o1.n+o1.dot.seq)) r2) fun r3 =>
 cond (cond (o1.kind == 4) (decide ((r0.1.slices.length:Int) > 0)) false)
 (ob (r0.1.slices[0]?) fun e4 =>
 some (Op.mk o1.dot o1.coll o1.ver o1.kind e4.key o1.text (w64 (e1.from_+r3)) o1.time o1.dots))
 (some (Op.mk o1.dot o1.coll o1.ver o1.kind o1.key o1.text (w64 (e1.from_+r3)) o1.time o1.dots)))
 none)
 (cond (cond (o1.kind == 4) (decide ((r0.1.slices.length:Int) > 0)) false)
 (ob (r0.1.slices[0]?) fun e5 =>
 some (Op.mk o1.dot o1.coll o1.ver o1.kind e5.key o1.text o1.n o1.time o1.dots))
 (some o1)))
def un_l13_fit (p:Desk×Op×Int):Option Op:=l13_fit p.1 p.2.1 p.2.2
def df_l13_fit:DFn TL:=DFn.of (DA.cons (DT.agg dc_Desk) (DA.cons (DT.agg dc_Op) (DA.one dI))) un_l13_fit (DA.one (DT.agg dc_Op))
theorem run_l13_fit:DRun [(98,df_ref12Find),(99,df_ref11Len),(16,df_within)] [] (envOf tab sl sh [(56,fd56)] [(98,.keep),(99,.pure),(16,.pure)]) 56 (DA.cons (DT.agg dc_Desk) (DA.cons (DT.agg dc_Op) (DA.one dI))) un_l13_fit (DA.one (DT.agg dc_Op)):=fun _=>by kernel_rfl
theorem ok_l13_fit:DOK PR 56 .keep df_l13_fit:=dok run_l13_fit (envOK_of base (aC (st56.okl rfl aN) aN) (aC (oD ok_ref12Find rfl) (aC (oD ok_ref11Len rfl) (aC (oD ok_within rfl) aN)))) (.inl rfl) st56.enters
abbrev tY13:=Int×Int×Int×Act×Desk×Cmd×Cmd
def step_L28_12 (i1:Int)(i2:Int)(i3:Int)(ax1:Act)(d1:Desk)(c1:Cmd)(c2:Cmd):Option ((tY13)⊕(Int×Act×Desk×Cmd×Cmd)) :=
 cond (cond (decide (i3 < (ax1.ops.length:Int))) (cond (decide (i3 < 6)) (c2.kind == 3) false) false)
 (cond (decide (0≤i3))
 (ob (ax1.ops[i3.toNat]?) fun e0 =>
 ob (l9Good e0) fun r1 =>
 ob (within ax1.n 9) fun r2 =>
 ob (l13_fit d1 (Op.mk (Entry.mk i1 (max2 c2.epoch 1) (max2 (w64 ((w64 ((w64 (i2+1))+i3)) - (w64 (r2.tdiv 8)))) 1)) r1.coll r1.ver r1.kind r1.key r1.text r1.n r1.time r1.dots) ax1.n) fun r3 =>
 cond (fits ((c2.ops++[r3]).length))
 (some (.inl (i1,i2,(w64 (i3+1)),ax1,d1,c1,(Cmd.mk c2.kind c2.device c2.epoch c2.req c2.n c2.wants (c2.ops++[r3])))))
 none)
 none)
 (some (.inr (i2,ax1,d1,c1,c2)))
def stp_L28_12 (p:tY13):Option ((tY13)⊕(Int×Act×Desk×Cmd×Cmd)):=step_L28_12 p.1 p.2.1 p.2.2.1 p.2.2.2.1 p.2.2.2.2.1 p.2.2.2.2.2.1 p.2.2.2.2.2.2
def L28_12 (i1:Int)(i2:Int)(i3:Int)(ax1:Act)(d1:Desk)(c1:Cmd)(c2:Cmd):Option (Int×Act×Desk×Cmd×Cmd):=iterO stp_L28_12 ((6 - i3).toNat+2) (i1,i2,i3,ax1,d1,c1,c2)
def cc_Act:Cod (List (C TL)) Act:=kO (kC kJ (kC kJ (kC kJ (kC (kG j_lWant) (kC (kG j_lOp) kN))))) (fun (z0,z1,z2,z3,z4,_)=>(Act.mk z0 z1 z2 z3 z4)) (fun (x:Act)=>(x.kind,(x.device,(x.n,(x.wants,(x.ops,())))))) (fun _=>rfl)
def ch_L28_12:kT (tY13):=kO (kS 7 (kC (kP 0 0) (kC (kP 1 0) (kC (kP 2 0) (kC kI (kC (kP 3 0) (kC kI (kC kI kN))))))) (kC (Cod.var 0 80 cc_Act) (kC (Cod.var 1 50 cc_Desk) (kC (Cod.var 2 56 (kC kJ (kC kJ (kC kJ (kC kJ (kC kJ (kC (kA 4) (kC (kA 5) kN)))))))) (kC (Cod.var 3 56 (kC kJ (kC kJ (kC kJ (kC kJ (kC kJ (kC (kG j_lWant) (kC (kA 6) kN)))))))) (kC (kR 4 105 j_lWant) (kC (kR 5 61 j_lOp) (kC (kR 6 61 j_lOp) kN)))))))) (fun ((_,_,_,z0,_,z1,z2,_),z3,z4,(z5,z6,z7,z8,z9,_),(z10,z11,z12,z13,z14,z15,_),z16,z17,z18,_)=>(z0,z1,z2,z3,z4,(Cmd.mk z5 z6 z7 z8 z9 z16 z17),(Cmd.mk z10 z11 z12 z13 z14 z15 z18))) (fun (x:tY13)=>(((),((),((),(x.1,((),(x.2.1,(x.2.2.1,()))))))),(x.2.2.2.1,(x.2.2.2.2.1,((x.2.2.2.2.2.1.kind,(x.2.2.2.2.2.1.device,(x.2.2.2.2.2.1.epoch,(x.2.2.2.2.2.1.req,(x.2.2.2.2.2.1.n,((),((),()))))))),((x.2.2.2.2.2.2.kind,(x.2.2.2.2.2.2.device,(x.2.2.2.2.2.2.epoch,(x.2.2.2.2.2.2.req,(x.2.2.2.2.2.2.n,(x.2.2.2.2.2.2.wants,((),()))))))),(x.2.2.2.2.2.1.wants,(x.2.2.2.2.2.1.ops,(x.2.2.2.2.2.2.ops,()))))))))) (fun _=>rfl)
def co0_L28_12:kT (Int×Act×Desk×Cmd×Cmd):=kO (kS 14 (kC (kP 0 0) (kC (kP 1 0) (kC (kP 2 0) (kC (kP 3 0) (kC kI kN))))) (kC (Cod.var 0 80 cc_Act) (kC (Cod.var 1 50 cc_Desk) (kC (Cod.var 2 56 (kC kJ (kC kJ (kC kJ (kC kJ (kC kJ (kC (kA 4) (kC (kA 5) kN)))))))) (kC (Cod.var 3 56 (kC kJ (kC kJ (kC kJ (kC kJ (kC kJ (kC (kG j_lWant) (kC (kA 13) kN)))))))) (kC (kR 4 105 j_lWant) (kC (kR 5 61 j_lOp) (kC (kR 13 61 j_lOp) kN)))))))) (fun ((_,_,_,_,z0,_),z1,z2,(z3,z4,z5,z6,z7,_),(z8,z9,z10,z11,z12,z13,_),z14,z15,z16,_)=>(z0,z1,z2,(Cmd.mk z3 z4 z5 z6 z7 z14 z15),(Cmd.mk z8 z9 z10 z11 z12 z13 z16))) (fun (x:Int×Act×Desk×Cmd×Cmd)=>(((),((),((),((),(x.1,()))))),(x.2.1,(x.2.2.1,((x.2.2.2.1.kind,(x.2.2.2.1.device,(x.2.2.2.1.epoch,(x.2.2.2.1.req,(x.2.2.2.1.n,((),((),()))))))),((x.2.2.2.2.kind,(x.2.2.2.2.device,(x.2.2.2.2.epoch,(x.2.2.2.2.req,(x.2.2.2.2.n,(x.2.2.2.2.wants,((),()))))))),(x.2.2.2.1.wants,(x.2.2.2.1.ops,(x.2.2.2.2.ops,()))))))))) (fun _=>rfl)
def sl_L28_12:SFn TL:=SFn.one ch_L28_12.dec (fun p=>L28_12 p.1 p.2.1 p.2.2.1 p.2.2.2.1 p.2.2.2.2.1 p.2.2.2.2.2.1 p.2.2.2.2.2.2) (.exit 0) co0_L28_12.enc
def cs_lL28_12:cL:=[(55,df_l9Good),(16,df_within),(56,df_l13_fit)]
def v_L28_12:Env:=envOf tab sl sh [] [(55,.keep),(16,.pure),(56,.keep)]
theorem v_L28_12_ok:EnvOK PR (mkD cs_lL28_12 sZ) v_L28_12:=envOK_of base aN (aC (oD ok_l9Good rfl) (aC (oD ok_within rfl) (aC (oD ok_l13_fit rfl) aN)))
theorem run_L28_12 (x:tY13):Out.run (mkO cs_lL28_12 sZ) (evRound v_L28_12 12 20 fd28.an q_L28_12 (loopIn (loopsOf fd28.body) 12) (ch_L28_12.enc x)) (back ch_L28_12 co0_L28_12 fun e=>exE e (.exit 0))=stp_L28_12 x:=by kernel_rfl
theorem ok_L28_12:LoopOK PR (oneS sl_L28_12) nt28 q_L28_12 (loopIn (loopsOf fd28.body) 12) :=
  loop_one v_L28_12_ok (loops:=12) (k:=20) (an:=fd28.an) (by kernel_rfl) (FnSt.subl rfl st28.keys (aC (.inl (by kernel_rfl)) aN)) ch_L28_12 co0_L28_12 (.exit 0) rfl stp_L28_12 _ run_L28_12 (fun x y h=>⟨_,h⟩) (fun _=>below_iff.1 rfl)
def l13ActCmd (ax1:Act)(d1:Desk):Option Cmd :=
 ob (within ax1.device 3) fun r0 =>
 ob (within ax1.kind 7) fun r1 =>
 cond (decide (0≤r0) && decide (r0 < 6))
 (cond (decide (0≤r0) && decide (r0 < 6))
 (ob (within ax1.n 12) fun r2 =>
 ob (within ax1.n 30) fun r3 =>
 cond ((ax1.kind.tmod 3) == 0)
 (cond ((ax1.n.tmod 13) == 0)
 (ob (within ax1.kind 3) fun r4 =>
 ob (l12Wants ax1.wants) fun r5 =>
 ob (ref13Included d1 r0 (w64 ((w64 ((cond (decide (r0=0)) d1.dev.a0.epoch (cond (decide (r0=1)) d1.dev.a1.epoch (cond (decide (r0=2)) d1.dev.a2.epoch (cond (decide (r0=3)) d1.dev.a3.epoch (cond (decide (r0=4)) d1.dev.a4.epoch d1.dev.a5.epoch)))))+r4)) - 1))) fun r6 =>
 ob (L28_12 r0 r6 0 ax1 d1 (Cmd.mk 0 0 0 0 0 [] []) (Cmd.mk 3 r0 (w64 ((w64 ((cond (decide (r0=0)) d1.dev.a0.epoch (cond (decide (r0=1)) d1.dev.a1.epoch (cond (decide (r0=2)) d1.dev.a2.epoch (cond (decide (r0=3)) d1.dev.a3.epoch (cond (decide (r0=4)) d1.dev.a4.epoch d1.dev.a5.epoch)))))+r4)) - 1)) (w64 ((w64 ((cond (decide (r0=0)) d1.dev.a0.req (cond (decide (r0=1)) d1.dev.a1.req (cond (decide (r0=2)) d1.dev.a2.req (cond (decide (r0=3)) d1.dev.a3.req (cond (decide (r0=4)) d1.dev.a4.req d1.dev.a5.req)))))+1)) - (w64 (r2.tdiv 11)))) (w64 (1+r3)) r5 [])) fun y7 =>
 cond (y7.2.2.2.2.kind == 4)
 (ob (within y7.2.1.n 8) fun r8 =>
 cond (y7.2.2.2.2.kind == 7)
 (ob (within y7.2.1.n 20) fun r9 =>
 some (Cmd.mk y7.2.2.2.2.kind y7.2.2.2.2.device y7.2.2.2.2.epoch y7.2.2.2.2.req (w64 (y7.2.2.1.now+r9)) y7.2.2.2.2.wants y7.2.2.2.2.ops))
 (some (Cmd.mk y7.2.2.2.2.kind y7.2.2.2.2.device y7.2.2.2.2.epoch y7.2.2.2.2.req (w64 (y7.1+(w64 (r8.tdiv 7)))) y7.2.2.2.2.wants y7.2.2.2.2.ops)))
 (cond (y7.2.2.2.2.kind == 7)
 (ob (within y7.2.1.n 20) fun r10 =>
 some (Cmd.mk y7.2.2.2.2.kind y7.2.2.2.2.device y7.2.2.2.2.epoch y7.2.2.2.2.req (w64 (y7.2.2.1.now+r10)) y7.2.2.2.2.wants y7.2.2.2.2.ops))
 (some y7.2.2.2.2)))
 (ob (l12Wants ax1.wants) fun r11 =>
 ob (ref13Included d1 r0 (cond (decide (r0=0)) d1.dev.a0.epoch (cond (decide (r0=1)) d1.dev.a1.epoch (cond (decide (r0=2)) d1.dev.a2.epoch (cond (decide (r0=3)) d1.dev.a3.epoch (cond (decide (r0=4)) d1.dev.a4.epoch d1.dev.a5.epoch)))))) fun r12 =>
 ob (L28_12 r0 r12 0 ax1 d1 (Cmd.mk 0 0 0 0 0 [] []) (Cmd.mk 3 r0 (cond (decide (r0=0)) d1.dev.a0.epoch (cond (decide (r0=1)) d1.dev.a1.epoch (cond (decide (r0=2)) d1.dev.a2.epoch (cond (decide (r0=3)) d1.dev.a3.epoch (cond (decide (r0=4)) d1.dev.a4.epoch d1.dev.a5.epoch))))) (w64 ((w64 ((cond (decide (r0=0)) d1.dev.a0.req (cond (decide (r0=1)) d1.dev.a1.req (cond (decide (r0=2)) d1.dev.a2.req (cond (decide (r0=3)) d1.dev.a3.req (cond (decide (r0=4)) d1.dev.a4.req d1.dev.a5.req)))))+1)) - (w64 (r2.tdiv 11)))) (w64 (1+r3)) r11 [])) fun y13 =>
 cond (y13.2.2.2.2.kind == 4)
 (ob (within y13.2.1.n 8) fun r14 =>
 cond (y13.2.2.2.2.kind == 7)
 (ob (within y13.2.1.n 20) fun r15 =>
 some (Cmd.mk y13.2.2.2.2.kind y13.2.2.2.2.device y13.2.2.2.2.epoch y13.2.2.2.2.req (w64 (y13.2.2.1.now+r15)) y13.2.2.2.2.wants y13.2.2.2.2.ops))
 (some (Cmd.mk y13.2.2.2.2.kind y13.2.2.2.2.device y13.2.2.2.2.epoch y13.2.2.2.2.req (w64 (y13.1+(w64 (r14.tdiv 7)))) y13.2.2.2.2.wants y13.2.2.2.2.ops)))
 (cond (y13.2.2.2.2.kind == 7)
 (ob (within y13.2.1.n 20) fun r16 =>
 some (Cmd.mk y13.2.2.2.2.kind y13.2.2.2.2.device y13.2.2.2.2.epoch y13.2.2.2.2.req (w64 (y13.2.2.1.now+r16)) y13.2.2.2.2.wants y13.2.2.2.2.ops))
 (some y13.2.2.2.2))))
 (cond ((ax1.n.tmod 13) == 0)
 (ob (within ax1.kind 3) fun r17 =>
 cond (cond ((w64 (1+r1)) == 6) (decide ((ax1.n.tmod 3) > 0)) false)
 (ob (l12Wants ax1.wants) fun r18 =>
 ob (ref13Included d1 r0 (w64 ((w64 ((cond (decide (r0=0)) d1.dev.a0.epoch (cond (decide (r0=1)) d1.dev.a1.epoch (cond (decide (r0=2)) d1.dev.a2.epoch (cond (decide (r0=3)) d1.dev.a3.epoch (cond (decide (r0=4)) d1.dev.a4.epoch d1.dev.a5.epoch)))))+r17)) - 1))) fun r19 =>
 ob (L28_12 r0 r19 0 ax1 d1 (Cmd.mk 0 0 0 0 0 [] []) (Cmd.mk 2 r0 (w64 ((w64 ((cond (decide (r0=0)) d1.dev.a0.epoch (cond (decide (r0=1)) d1.dev.a1.epoch (cond (decide (r0=2)) d1.dev.a2.epoch (cond (decide (r0=3)) d1.dev.a3.epoch (cond (decide (r0=4)) d1.dev.a4.epoch d1.dev.a5.epoch)))))+r17)) - 1)) (w64 ((w64 ((cond (decide (r0=0)) d1.dev.a0.req (cond (decide (r0=1)) d1.dev.a1.req (cond (decide (r0=2)) d1.dev.a2.req (cond (decide (r0=3)) d1.dev.a3.req (cond (decide (r0=4)) d1.dev.a4.req d1.dev.a5.req)))))+1)) - (w64 (r2.tdiv 11)))) (w64 (1+r3)) r18 [])) fun y20 =>
 cond (y20.2.2.2.2.kind == 4)
 (ob (within y20.2.1.n 8) fun r21 =>
 cond (y20.2.2.2.2.kind == 7)
 (ob (within y20.2.1.n 20) fun r22 =>
 some (Cmd.mk y20.2.2.2.2.kind y20.2.2.2.2.device y20.2.2.2.2.epoch y20.2.2.2.2.req (w64 (y20.2.2.1.now+r22)) y20.2.2.2.2.wants y20.2.2.2.2.ops))
 (some (Cmd.mk y20.2.2.2.2.kind y20.2.2.2.2.device y20.2.2.2.2.epoch y20.2.2.2.2.req (w64 (y20.1+(w64 (r21.tdiv 7)))) y20.2.2.2.2.wants y20.2.2.2.2.ops)))
 (cond (y20.2.2.2.2.kind == 7)
 (ob (within y20.2.1.n 20) fun r23 =>
 some (Cmd.mk y20.2.2.2.2.kind y20.2.2.2.2.device y20.2.2.2.2.epoch y20.2.2.2.2.req (w64 (y20.2.2.1.now+r23)) y20.2.2.2.2.wants y20.2.2.2.2.ops))
 (some y20.2.2.2.2)))
 (ob (l12Wants ax1.wants) fun r24 =>
 ob (ref13Included d1 r0 (w64 ((w64 ((cond (decide (r0=0)) d1.dev.a0.epoch (cond (decide (r0=1)) d1.dev.a1.epoch (cond (decide (r0=2)) d1.dev.a2.epoch (cond (decide (r0=3)) d1.dev.a3.epoch (cond (decide (r0=4)) d1.dev.a4.epoch d1.dev.a5.epoch)))))+r17)) - 1))) fun r25 =>
 ob (L28_12 r0 r25 0 ax1 d1 (Cmd.mk 0 0 0 0 0 [] []) (Cmd.mk (w64 (1+r1)) r0 (w64 ((w64 ((cond (decide (r0=0)) d1.dev.a0.epoch (cond (decide (r0=1)) d1.dev.a1.epoch (cond (decide (r0=2)) d1.dev.a2.epoch (cond (decide (r0=3)) d1.dev.a3.epoch (cond (decide (r0=4)) d1.dev.a4.epoch d1.dev.a5.epoch)))))+r17)) - 1)) (w64 ((w64 ((cond (decide (r0=0)) d1.dev.a0.req (cond (decide (r0=1)) d1.dev.a1.req (cond (decide (r0=2)) d1.dev.a2.req (cond (decide (r0=3)) d1.dev.a3.req (cond (decide (r0=4)) d1.dev.a4.req d1.dev.a5.req)))))+1)) - (w64 (r2.tdiv 11)))) (w64 (1+r3)) r24 [])) fun y26 =>
 cond (y26.2.2.2.2.kind == 4)
 (ob (within y26.2.1.n 8) fun r27 =>
 cond (y26.2.2.2.2.kind == 7)
 (ob (within y26.2.1.n 20) fun r28 =>
 some (Cmd.mk y26.2.2.2.2.kind y26.2.2.2.2.device y26.2.2.2.2.epoch y26.2.2.2.2.req (w64 (y26.2.2.1.now+r28)) y26.2.2.2.2.wants y26.2.2.2.2.ops))
 (some (Cmd.mk y26.2.2.2.2.kind y26.2.2.2.2.device y26.2.2.2.2.epoch y26.2.2.2.2.req (w64 (y26.1+(w64 (r27.tdiv 7)))) y26.2.2.2.2.wants y26.2.2.2.2.ops)))
 (cond (y26.2.2.2.2.kind == 7)
 (ob (within y26.2.1.n 20) fun r29 =>
 some (Cmd.mk y26.2.2.2.2.kind y26.2.2.2.2.device y26.2.2.2.2.epoch y26.2.2.2.2.req (w64 (y26.2.2.1.now+r29)) y26.2.2.2.2.wants y26.2.2.2.2.ops))
 (some y26.2.2.2.2))))
 (cond (cond ((w64 (1+r1)) == 6) (decide ((ax1.n.tmod 3) > 0)) false)
 (ob (l12Wants ax1.wants) fun r30 =>
 ob (ref13Included d1 r0 (cond (decide (r0=0)) d1.dev.a0.epoch (cond (decide (r0=1)) d1.dev.a1.epoch (cond (decide (r0=2)) d1.dev.a2.epoch (cond (decide (r0=3)) d1.dev.a3.epoch (cond (decide (r0=4)) d1.dev.a4.epoch d1.dev.a5.epoch)))))) fun r31 =>
 ob (L28_12 r0 r31 0 ax1 d1 (Cmd.mk 0 0 0 0 0 [] []) (Cmd.mk 2 r0 (cond (decide (r0=0)) d1.dev.a0.epoch (cond (decide (r0=1)) d1.dev.a1.epoch (cond (decide (r0=2)) d1.dev.a2.epoch (cond (decide (r0=3)) d1.dev.a3.epoch (cond (decide (r0=4)) d1.dev.a4.epoch d1.dev.a5.epoch))))) (w64 ((w64 ((cond (decide (r0=0)) d1.dev.a0.req (cond (decide (r0=1)) d1.dev.a1.req (cond (decide (r0=2)) d1.dev.a2.req (cond (decide (r0=3)) d1.dev.a3.req (cond (decide (r0=4)) d1.dev.a4.req d1.dev.a5.req)))))+1)) - (w64 (r2.tdiv 11)))) (w64 (1+r3)) r30 [])) fun y32 =>
 cond (y32.2.2.2.2.kind == 4)
 (ob (within y32.2.1.n 8) fun r33 =>
 cond (y32.2.2.2.2.kind == 7)
 (ob (within y32.2.1.n 20) fun r34 =>
 some (Cmd.mk y32.2.2.2.2.kind y32.2.2.2.2.device y32.2.2.2.2.epoch y32.2.2.2.2.req (w64 (y32.2.2.1.now+r34)) y32.2.2.2.2.wants y32.2.2.2.2.ops))
 (some (Cmd.mk y32.2.2.2.2.kind y32.2.2.2.2.device y32.2.2.2.2.epoch y32.2.2.2.2.req (w64 (y32.1+(w64 (r33.tdiv 7)))) y32.2.2.2.2.wants y32.2.2.2.2.ops)))
 (cond (y32.2.2.2.2.kind == 7)
 (ob (within y32.2.1.n 20) fun r35 =>
 some (Cmd.mk y32.2.2.2.2.kind y32.2.2.2.2.device y32.2.2.2.2.epoch y32.2.2.2.2.req (w64 (y32.2.2.1.now+r35)) y32.2.2.2.2.wants y32.2.2.2.2.ops))
 (some y32.2.2.2.2)))
 (ob (l12Wants ax1.wants) fun r36 =>
 ob (ref13Included d1 r0 (cond (decide (r0=0)) d1.dev.a0.epoch (cond (decide (r0=1)) d1.dev.a1.epoch (cond (decide (r0=2)) d1.dev.a2.epoch (cond (decide (r0=3)) d1.dev.a3.epoch (cond (decide (r0=4)) d1.dev.a4.epoch d1.dev.a5.epoch)))))) fun r37 =>
 ob (L28_12 r0 r37 0 ax1 d1 (Cmd.mk 0 0 0 0 0 [] []) (Cmd.mk (w64 (1+r1)) r0 (cond (decide (r0=0)) d1.dev.a0.epoch (cond (decide (r0=1)) d1.dev.a1.epoch (cond (decide (r0=2)) d1.dev.a2.epoch (cond (decide (r0=3)) d1.dev.a3.epoch (cond (decide (r0=4)) d1.dev.a4.epoch d1.dev.a5.epoch))))) (w64 ((w64 ((cond (decide (r0=0)) d1.dev.a0.req (cond (decide (r0=1)) d1.dev.a1.req (cond (decide (r0=2)) d1.dev.a2.req (cond (decide (r0=3)) d1.dev.a3.req (cond (decide (r0=4)) d1.dev.a4.req d1.dev.a5.req)))))+1)) - (w64 (r2.tdiv 11)))) (w64 (1+r3)) r36 [])) fun y38 =>
 cond (y38.2.2.2.2.kind == 4)
 (ob (within y38.2.1.n 8) fun r39 =>
 cond (y38.2.2.2.2.kind == 7)
 (ob (within y38.2.1.n 20) fun r40 =>
 some (Cmd.mk y38.2.2.2.2.kind y38.2.2.2.2.device y38.2.2.2.2.epoch y38.2.2.2.2.req (w64 (y38.2.2.1.now+r40)) y38.2.2.2.2.wants y38.2.2.2.2.ops))
 (some (Cmd.mk y38.2.2.2.2.kind y38.2.2.2.2.device y38.2.2.2.2.epoch y38.2.2.2.2.req (w64 (y38.1+(w64 (r39.tdiv 7)))) y38.2.2.2.2.wants y38.2.2.2.2.ops)))
 (cond (y38.2.2.2.2.kind == 7)
 (ob (within y38.2.1.n 20) fun r41 =>
 some (Cmd.mk y38.2.2.2.2.kind y38.2.2.2.2.device y38.2.2.2.2.epoch y38.2.2.2.2.req (w64 (y38.2.2.1.now+r41)) y38.2.2.2.2.wants y38.2.2.2.2.ops))
 (some y38.2.2.2.2))))))
 none)
 none
def un_l13ActCmd (p:Act×Desk):Option Cmd:=l13ActCmd p.1 p.2
def df_l13ActCmd:DFn TL:=DFn.of (DA.cons (DT.agg dc_Act) (DA.one (DT.agg dc_Desk))) un_l13ActCmd (DA.one (DT.agg dc_Cmd))
theorem run_l13ActCmd:DRun [(16,df_within),(53,df_l12Wants),(54,df_ref13Included)] [(128012,sl_L28_12)] (envOf tab sl sh [(28,fd28)] [(16,.pure),(53,.keep),(54,.pure)]) 28 (DA.cons (DT.agg dc_Act) (DA.one (DT.agg dc_Desk))) un_l13ActCmd (DA.one (DT.agg dc_Cmd)):=fun _=>by kernel_rfl
theorem ok_l13ActCmd:DOK PR 28 .keep df_l13ActCmd:=dok run_l13ActCmd (envOK_of base (aC (st28.okl rfl (aC (lC ok_L28_12 rfl) aN)) aN) (aC (oD ok_within rfl) (aC (oD ok_l12Wants rfl) (aC (oD ok_ref13Included rfl) aN)))) (.inl rfl) st28.enters
def ref13_no (i1:Int):Option Reply :=
 some (Reply.mk i1 0 (Lease.mk 0 0 0 0 [] [] []))
def un_ref13_no (p:Int):Option Reply:=ref13_no p
def df_ref13_no:DFn TL:=DFn.of (DA.one dI) un_ref13_no (DA.one (DT.agg dc_Reply))
theorem run_ref13_no:DRun [] [] (envOf tab sl sh [(57,fd57)] []) 57 (DA.one dI) un_ref13_no (DA.one (DT.agg dc_Reply)):=fun _=>by kernel_rfl
theorem ok_ref13_no:DOK PR 57 .keep df_ref13_no:=dok run_ref13_no (envOK_of base (aC (st57.okl rfl aN) aN) aN) (.inl rfl) st57.enters
abbrev tY14:=Int×Int×Bool×Int×Desk
def step_L100_2 (i1:Int)(i2:Int)(b1:Bool)(i3:Int)(d1:Desk):Option ((tY14)⊕(((Bool×Desk)⊕(Bool×Desk)))) :=
 cond (decide (i3 < (d1.lost.length:Int)))
 (cond (decide (0≤i3))
 (ob (d1.lost[i3.toNat]?) fun e0 =>
 cond (e0.device == i1)
 (cond (decide (0≤i3))
 (ob (d1.lost[i3.toNat]?) fun e1 =>
 cond (e1.epoch == i2)
 (some (.inr (.inr (true,d1))))
 (some (.inl (i1,i2,b1,(w64 (i3+1)),d1))))
 none)
 (some (.inl (i1,i2,b1,(w64 (i3+1)),d1))))
 none)
 (some (.inr (.inl (b1,d1))))
def stp_L100_2 (p:tY14):Option ((tY14)⊕(((Bool×Desk)⊕(Bool×Desk)))):=step_L100_2 p.1 p.2.1 p.2.2.1 p.2.2.2.1 p.2.2.2.2
def L100_2 (i1:Int)(i2:Int)(b1:Bool)(i3:Int)(d1:Desk):Option (((Bool×Desk)⊕(Bool×Desk))):=iterO stp_L100_2 (1099511627776) (i1,i2,b1,i3,d1)
def ch_L100_2:kT (tY14):=kO (kS 1 (kC kI (kC kI (kC (kP 0 0) (kC kB (kC kI kN))))) (kC (Cod.var 0 50 cc_Desk) kN)) (fun ((z0,z1,_,z2,z3,_),z4,_)=>(z0,z1,z2,z3,z4)) (fun (x:tY14)=>((x.1,(x.2.1,((),(x.2.2.1,(x.2.2.2.1,()))))),(x.2.2.2.2,()))) (fun _=>rfl)
def co0_L100_2:kT (Bool×Desk):=kO (kS 2 (kC kB kN) (kC (Cod.var 0 50 cc_Desk) kN)) (fun p=>(p.1.1,p.2.1)) (fun (x:Bool×Desk)=>((x.1,()),(x.2,()))) (fun _=>rfl)
def sl_L100_2:SFn TL:=SFn.two ch_L100_2.dec (fun p=>L100_2 p.1 p.2.1 p.2.2.1 p.2.2.2.1 p.2.2.2.2) (.exit 0) .ret co0_L100_2.enc co0_L100_2.enc
def v_L100_2:Env:=envOf tab sl sh [] []
theorem v_L100_2_ok:EnvOK PR (mkD cZ sZ) v_L100_2:=envOK_of base aN aN
theorem run_L100_2 (x:tY14):Out.run (mkO cZ sZ) (evRound v_L100_2 12 20 fd100.an q_L100_2 (loopIn (loopsOf fd100.body) 2) (ch_L100_2.enc x)) (back2 ch_L100_2 co0_L100_2 co0_L100_2 (.exit 0) .ret)=stp_L100_2 x:=by kernel_rfl
theorem ok_L100_2:LoopOK PR (oneS sl_L100_2) nt100 q_L100_2 (loopIn (loopsOf fd100.body) 2) :=
  loop_two v_L100_2_ok (loops:=12) (k:=20) (an:=fd100.an) (by kernel_rfl) (FnSt.subl rfl st100.keys (aC (.inl (by kernel_rfl)) aN)) ch_L100_2 co0_L100_2 co0_L100_2 (.exit 0) .ret rfl rfl stp_L100_2 _ run_L100_2 (fun x y h=>⟨_,h⟩) (fun _=>below_iff.1 rfl)
def ref13Lost (d1:Desk)(i1:Int)(i2:Int):Option Bool :=
 ob (L100_2 i1 i2 false 0 d1) fun y0 =>
 two y0 (fun _ =>
 some false) (fun b2 =>
 some b2.1)
def un_ref13Lost (p:Desk×Int×Int):Option Bool:=ref13Lost p.1 p.2.1 p.2.2
def df_ref13Lost:DFn TL:=DFn.of (DA.cons (DT.agg dc_Desk) (DA.cons dI (DA.one dI))) un_ref13Lost (DA.one dB)
theorem run_ref13Lost:DRun [] [(200002,sl_L100_2)] (envOf tab sl sh [(100,fd100)] []) 100 (DA.cons (DT.agg dc_Desk) (DA.cons dI (DA.one dI))) un_ref13Lost (DA.one dB):=fun _=>by kernel_rfl
theorem ok_ref13Lost:DOK PR 100 .pure df_ref13Lost:=dok run_ref13Lost (envOK_of base (aC (st100.okl rfl (aC (lC ok_L100_2 rfl) aN)) aN) aN) (.inr rfl) st100.enters
def ref13_current (d1:Desk)(c1:Cmd):Option Int :=
 cond (decide (0≤c1.device) && decide (c1.device < 6))
 (cond (cond ((cond (decide (c1.device=0)) d1.dev.a0.epoch (cond (decide (c1.device=1)) d1.dev.a1.epoch (cond (decide (c1.device=2)) d1.dev.a2.epoch (cond (decide (c1.device=3)) d1.dev.a3.epoch (cond (decide (c1.device=4)) d1.dev.a4.epoch d1.dev.a5.epoch))))) == 0) true (decide (c1.epoch > (cond (decide (c1.device=0)) d1.dev.a0.epoch (cond (decide (c1.device=1)) d1.dev.a1.epoch (cond (decide (c1.device=2)) d1.dev.a2.epoch (cond (decide (c1.device=3)) d1.dev.a3.epoch (cond (decide (c1.device=4)) d1.dev.a4.epoch d1.dev.a5.epoch))))))))
 (some 2)
 (cond (decide (c1.epoch < (cond (decide (c1.device=0)) d1.dev.a0.epoch (cond (decide (c1.device=1)) d1.dev.a1.epoch (cond (decide (c1.device=2)) d1.dev.a2.epoch (cond (decide (c1.device=3)) d1.dev.a3.epoch (cond (decide (c1.device=4)) d1.dev.a4.epoch d1.dev.a5.epoch)))))))
 (some 16)
 (ob (ref13Lost d1 c1.device c1.epoch) fun r0 =>
 cond (r0)
 (some 16)
 (some 0))))
 none
def un_ref13_current (p:Desk×Cmd):Option Int:=ref13_current p.1 p.2
def df_ref13_current:DFn TL:=DFn.of (DA.cons (DT.agg dc_Desk) (DA.one (DT.agg dc_Cmd))) un_ref13_current (DA.one dI)
theorem run_ref13_current:DRun [(100,df_ref13Lost)] [] (envOf tab sl sh [(58,fd58)] [(100,.pure)]) 58 (DA.cons (DT.agg dc_Desk) (DA.one (DT.agg dc_Cmd))) un_ref13_current (DA.one dI):=fun _=>by kernel_rfl
theorem ok_ref13_current:DOK PR 58 .pure df_ref13_current:=dok run_ref13_current (envOK_of base (aC (st58.okl rfl aN) aN) (aC (oD ok_ref13Lost rfl) aN)) (.inr rfl) st58.enters
def step_L34_15 (i1:Int)(i2:Int)(o1:Op):Option ((Int×Int×Op)⊕(((Int×Op)⊕(Int×Op)))) :=
 cond (decide (i2 < (o1.dots.length:Int)))
 (cond (decide (0≤(w64 (i2 - 1))))
 (ob (o1.dots[((w64 (i2 - 1))).toNat]?) fun e0 =>
 cond (decide (0≤i2))
 (ob (o1.dots[i2.toNat]?) fun e1 =>
 ob (ref9Less e0 e1) fun r2 =>
 cond (!r2)
 (some (.inr (.inr (10,o1))))
 (some (.inl (i1,(w64 (i2+1)),o1))))
 none)
 none)
 (some (.inr (.inl (i1,o1))))
def stp_L34_15 (p:Int×Int×Op):Option ((Int×Int×Op)⊕(((Int×Op)⊕(Int×Op)))):=step_L34_15 p.1 p.2.1 p.2.2
def L34_15 (i1:Int)(i2:Int)(o1:Op):Option (((Int×Op)⊕(Int×Op))):=iterO stp_L34_15 (1099511627776) (i1,i2,o1)
def ch_L34_15:kT (Int×Int×Op):=kO (kS 1 (kC (kP 0 0) (kC kI (kC kI kN))) (kC (Cod.var 0 61 cc_Op) kN)) (fun p=>(p.1.2.1,p.1.2.2.1,p.2.1)) (fun (x:Int×Int×Op)=>(((),(x.1,(x.2.1,()))),(x.2.2,()))) (fun _=>rfl)
def co0_L34_15:kT (Int×Op):=kO (kS 2 (kC kI kN) (kC (Cod.var 0 61 cc_Op) kN)) (fun p=>(p.1.1,p.2.1)) (fun (x:Int×Op)=>((x.1,()),(x.2,()))) (fun _=>rfl)
def sl_L34_15:SFn TL:=SFn.two ch_L34_15.dec (fun p=>L34_15 p.1 p.2.1 p.2.2) (.exit 1) .ret co0_L34_15.enc co0_L34_15.enc
def cs_lL34_15:cL:=[(74,df_ref9Less)]
def v_L34_15:Env:=envOf tab sl sh [] [(74,.pure)]
theorem v_L34_15_ok:EnvOK PR (mkD cs_lL34_15 sZ) v_L34_15:=envOK_of base aN (aC (oD ok_ref9Less rfl) aN)
theorem run_L34_15 (x:Int×Int×Op):Out.run (mkO cs_lL34_15 sZ) (evRound v_L34_15 12 20 fd34.an q_L34_15 (loopIn (loopsOf fd34.body) 15) (ch_L34_15.enc x)) (back2 ch_L34_15 co0_L34_15 co0_L34_15 (.exit 1) .ret)=stp_L34_15 x:=by kernel_rfl
theorem ok_L34_15:LoopOK PR (oneS sl_L34_15) nt34 q_L34_15 (loopIn (loopsOf fd34.body) 15) :=
  loop_two v_L34_15_ok (loops:=12) (k:=20) (an:=fd34.an) (by kernel_rfl) (FnSt.subl rfl st34.keys (aC (.inl (by kernel_rfl)) aN)) ch_L34_15 co0_L34_15 co0_L34_15 (.exit 1) .ret rfl rfl stp_L34_15 _ run_L34_15 (fun x y h=>⟨_,h⟩) (fun _=>below_iff.1 rfl)
def ref9Check (o1:Op):Option Int :=
 cond (cond (decide (o1.dot.device < 0)) true (cond (decide (o1.dot.device≥6)) true (cond (decide (o1.dot.epoch < 1)) true (cond (decide (o1.dot.epoch > 1073741824)) true (cond (decide (o1.dot.seq < 1)) true (cond (decide (o1.dot.seq > 1073741824)) true (cond (decide (o1.coll < 0)) true (cond (decide (o1.coll≥3)) true (cond (decide (o1.ver < 1)) true (cond (decide (o1.ver > 3)) true (cond (decide (o1.time < 0)) true (decide (o1.time > 1099511627776)))))))))))))
 (some 1)
 (cond (cond (decide (o1.kind < 1)) true (decide (o1.kind > 5)))
 (some 3)
 (ob (ref5Text o1.key) fun r0 =>
 cond (!r0)
 (some 5)
 (ob (ref5Text o1.text) fun r1 =>
 cond (!r1)
 (some 5)
 (cond (cond (o1.kind != 5) (sEq o1.key s_empty) false)
 (some 1)
 (cond (o1.kind == 3)
 (cond (decide ((o1.dots.length:Int) > 8))
 (some 4)
 (ob (L34_15 0 1 o1) fun y2 =>
 two y2 (fun _ =>
 some 0) (fun b4 =>
 some b4.1)))
 (cond (o1.kind == 4)
 (cond (cond (o1.n == 0) true (cond (decide (o1.n < (-1099511627776))) true (decide (o1.n > 1099511627776))))
 (some 11)
 (some 0))
 (cond (o1.kind == 5)
 (cond (cond (decide (o1.n < 0)) true (decide (o1.n≥1000)))
 (some 11)
 (some 0))
 (some 0))))))))
def un_ref9Check (p:Op):Option Int:=ref9Check p
def df_ref9Check:DFn TL:=DFn.of (DA.one (DT.agg dc_Op)) un_ref9Check (DA.one dI)
theorem run_ref9Check:DRun [(73,df_ref5Text)] [(134015,sl_L34_15)] (envOf tab sl sh [(34,fd34)] [(73,.pure)]) 34 (DA.one (DT.agg dc_Op)) un_ref9Check (DA.one dI):=fun _=>by kernel_rfl
theorem ok_ref9Check:DOK PR 34 .pure df_ref9Check:=dok run_ref9Check (envOK_of base (aC (st34.okl rfl (aC (lC ok_L34_15 rfl) aN)) aN) (aC (oD ok_ref5Text rfl) aN)) (.inr rfl) st34.enters
def ref13_spends (o1:Op):Option Bool :=
 some (cond (o1.kind == 4) true (o1.kind == 5))
def un_ref13_spends (p:Op):Option Bool:=ref13_spends p
def df_ref13_spends:DFn TL:=DFn.of (DA.one (DT.agg dc_Op)) un_ref13_spends (DA.one dB)
theorem run_ref13_spends:DRun [] [] (envOf tab sl sh [(139,fd139)] []) 139 (DA.one (DT.agg dc_Op)) un_ref13_spends (DA.one dB):=fun _=>by kernel_rfl
theorem ok_ref13_spends:DOK PR 139 .pure df_ref13_spends:=dok run_ref13_spends (envOK_of base (aC (st139.okl rfl aN) aN) aN) (.inr rfl) st139.enters
abbrev tY15:=(List Range)×Int×Bool×Int
def step_L94_2 (l1:List Range)(i1:Int)(b1:Bool)(i2:Int):Option ((tY15)⊕(((Bool)⊕(Bool)))) :=
 cond (decide (i2 < (l1.length:Int)))
 (cond (decide (0≤i2))
 (ob (l1[i2.toNat]?) fun e0 =>
 cond (decide (e0.from_≤i1))
 (cond (decide (0≤i2))
 (ob (l1[i2.toNat]?) fun e1 =>
 cond (decide (i1 < e1.to_))
 (some (.inr (.inr true)))
 (some (.inl (l1,i1,b1,(w64 (i2+1))))))
 none)
 (some (.inl (l1,i1,b1,(w64 (i2+1))))))
 none)
 (some (.inr (.inl b1)))
def stp_L94_2 (p:tY15):Option ((tY15)⊕(((Bool)⊕(Bool)))):=step_L94_2 p.1 p.2.1 p.2.2.1 p.2.2.2
def L94_2 (l1:List Range)(i1:Int)(b1:Bool)(i2:Int):Option (((Bool)⊕(Bool))):=iterO stp_L94_2 (((l1.length:Int) - i2).toNat+2) (l1,i1,b1,i2)
def ch_L94_2:kT (tY15):=kO (kS 0 (kC (kF j_lRange) (kC kI (kC kB (kC kI kN)))) kN) (fun ((z0,z1,z2,z3,_),_)=>(z0,z1,z2,z3)) (fun (x:tY15)=>((x.1,(x.2.1,(x.2.2.1,(x.2.2.2,())))),())) (fun _=>rfl)
def sl_L94_2:SFn TL:=SFn.two ch_L94_2.dec (fun p=>L94_2 p.1 p.2.1 p.2.2.1 p.2.2.2) (.exit 0) .ret co0_L73_4.enc co0_L73_4.enc
def v_L94_2:Env:=envOf tab sl sh [] []
theorem v_L94_2_ok:EnvOK PR (mkD cZ sZ) v_L94_2:=envOK_of base aN aN
theorem run_L94_2 (x:tY15):Out.run (mkO cZ sZ) (evRound v_L94_2 12 20 fd94.an q_L94_2 (loopIn (loopsOf fd94.body) 2) (ch_L94_2.enc x)) (back2 ch_L94_2 co0_L73_4 co0_L73_4 (.exit 0) .ret)=stp_L94_2 x:=by kernel_rfl
theorem ok_L94_2:LoopOK PR (oneS sl_L94_2) nt94 q_L94_2 (loopIn (loopsOf fd94.body) 2) :=
  loop_two v_L94_2_ok (loops:=12) (k:=20) (an:=fd94.an) (by kernel_rfl) (FnSt.subl rfl st94.keys (aC (.inl (by kernel_rfl)) aN)) ch_L94_2 co0_L73_4 co0_L73_4 (.exit 0) .ret rfl rfl stp_L94_2 _ run_L94_2 (fun x y h=>⟨_,h⟩) (fun _=>below_iff.1 rfl)
def ref11Has (l1:List Range)(i1:Int):Option Bool :=
 ob (L94_2 l1 i1 false 0) fun y0 =>
 two y0 (fun _ =>
 some false) (fun b2 =>
 some b2)
def un_ref11Has (p:(List Range)×Int):Option Bool:=ref11Has p.1 p.2
def df_ref11Has:DFn TL:=DFn.of (DA.cons (DT.one di_lRange) (DA.one dI)) un_ref11Has (DA.one dB)
theorem run_ref11Has:DRun [] [(194002,sl_L94_2)] (envOf tab sl sh [(94,fd94)] []) 94 (DA.cons (DT.one di_lRange) (DA.one dI)) un_ref11Has (DA.one dB):=fun _=>by kernel_rfl
theorem ok_ref11Has:DOK PR 94 .pure df_ref11Has:=dok run_ref11Has (envOK_of base (aC (st94.okl rfl (aC (lC ok_L94_2 rfl) aN)) aN) aN) (.inr rfl) st94.enters
abbrev tY16:=(List Int)×Int×Bool×Int
def step_L167_2 (l1:List Int)(i1:Int)(b1:Bool)(i2:Int):Option ((tY16)⊕(((Bool)⊕(Bool)))) :=
 cond (decide (i2 < (l1.length:Int)))
 (cond (decide (0≤i2))
 (ob (l1[i2.toNat]?) fun e0 =>
 cond (e0 == i1)
 (some (.inr (.inr true)))
 (some (.inl (l1,i1,b1,(w64 (i2+1))))))
 none)
 (some (.inr (.inl b1)))
def stp_L167_2 (p:tY16):Option ((tY16)⊕(((Bool)⊕(Bool)))):=step_L167_2 p.1 p.2.1 p.2.2.1 p.2.2.2
def L167_2 (l1:List Int)(i1:Int)(b1:Bool)(i2:Int):Option (((Bool)⊕(Bool))):=iterO stp_L167_2 (((l1.length:Int) - i2).toNat+2) (l1,i1,b1,i2)
def ch_L167_2:kT (tY16):=kO (kS 0 (kC (kF j_lInt) (kC kI (kC kB (kC kI kN)))) kN) (fun ((z0,z1,z2,z3,_),_)=>(z0,z1,z2,z3)) (fun (x:tY16)=>((x.1,(x.2.1,(x.2.2.1,(x.2.2.2,())))),())) (fun _=>rfl)
def sl_L167_2:SFn TL:=SFn.two ch_L167_2.dec (fun p=>L167_2 p.1 p.2.1 p.2.2.1 p.2.2.2) (.exit 0) .ret co0_L73_4.enc co0_L73_4.enc
def v_L167_2:Env:=envOf tab sl sh [] []
theorem v_L167_2_ok:EnvOK PR (mkD cZ sZ) v_L167_2:=envOK_of base aN aN
theorem run_L167_2 (x:tY16):Out.run (mkO cZ sZ) (evRound v_L167_2 12 20 fd167.an q_L167_2 (loopIn (loopsOf fd167.body) 2) (ch_L167_2.enc x)) (back2 ch_L167_2 co0_L73_4 co0_L73_4 (.exit 0) .ret)=stp_L167_2 x:=by kernel_rfl
theorem ok_L167_2:LoopOK PR (oneS sl_L167_2) nt167 q_L167_2 (loopIn (loopsOf fd167.body) 2) :=
  loop_two v_L167_2_ok (loops:=12) (k:=20) (an:=fd167.an) (by kernel_rfl) (FnSt.subl rfl st167.keys (aC (.inl (by kernel_rfl)) aN)) ch_L167_2 co0_L73_4 co0_L73_4 (.exit 0) .ret rfl rfl stp_L167_2 _ run_L167_2 (fun x y h=>⟨_,h⟩) (fun _=>below_iff.1 rfl)
def ref12_in (l1:List Int)(i1:Int):Option Bool :=
 ob (L167_2 l1 i1 false 0) fun y0 =>
 two y0 (fun _ =>
 some false) (fun b2 =>
 some b2)
def un_ref12_in (p:(List Int)×Int):Option Bool:=ref12_in p.1 p.2
def df_ref12_in:DFn TL:=DFn.of (DA.cons (DT.one di_lInt) (DA.one dI)) un_ref12_in (DA.one dB)
theorem run_ref12_in:DRun [] [(267002,sl_L167_2)] (envOf tab sl sh [(167,fd167)] []) 167 (DA.cons (DT.one di_lInt) (DA.one dI)) un_ref12_in (DA.one dB):=fun _=>by kernel_rfl
theorem ok_ref12_in:DOK PR 167 .pure df_ref12_in:=dok run_ref12_in (envOK_of base (aC (st167.okl rfl (aC (lC ok_L167_2 rfl) aN)) aN) aN) (.inr rfl) st167.enters
def step_L144_2 (l1:List Int)(i1:Int)(i2:Int):Option (((List Int)×Int×Int)⊕((List Int)×Int×Int)) :=
 cond (decide (i2 < (l1.length:Int)))
 (cond (decide (0≤i2))
 (ob (l1[i2.toNat]?) fun e0 =>
 cond (decide (e0 < i1))
 (some (.inl (l1,i1,(w64 (i2+1)))))
 (some (.inr (l1,i1,i2))))
 none)
 (some (.inr (l1,i1,i2)))
def stp_L144_2 (p:(List Int)×Int×Int):Option (((List Int)×Int×Int)⊕((List Int)×Int×Int)):=step_L144_2 p.1 p.2.1 p.2.2
def L144_2 (l1:List Int)(i1:Int)(i2:Int):Option ((List Int)×Int×Int):=iterO stp_L144_2 (((l1.length:Int) - i2).toNat+2) (l1,i1,i2)
def ch_L144_2:kT ((List Int)×Int×Int):=kO (kS 0 (kC (kF j_lInt) (kC kI (kC kI kN))) kN) (fun p=>(p.1.1,p.1.2.1,p.1.2.2.1)) (fun (x:(List Int)×Int×Int)=>((x.1,(x.2.1,(x.2.2,()))),())) (fun _=>rfl)
def sl_L144_2:SFn TL:=SFn.one ch_L144_2.dec (fun p=>L144_2 p.1 p.2.1 p.2.2) (.exit 0) ch_L144_2.enc
def v_L144_2:Env:=envOf tab sl sh [] []
theorem v_L144_2_ok:EnvOK PR (mkD cZ sZ) v_L144_2:=envOK_of base aN aN
theorem run_L144_2 (x:(List Int)×Int×Int):Out.run (mkO cZ sZ) (evRound v_L144_2 12 20 fd144.an q_L144_2 (loopIn (loopsOf fd144.body) 2) (ch_L144_2.enc x)) (back ch_L144_2 ch_L144_2 fun e=>exE e (.exit 0))=stp_L144_2 x:=by kernel_rfl
theorem ok_L144_2:LoopOK PR (oneS sl_L144_2) nt144 q_L144_2 (loopIn (loopsOf fd144.body) 2) :=
  loop_one v_L144_2_ok (loops:=12) (k:=20) (an:=fd144.an) (by kernel_rfl) (FnSt.subl rfl st144.keys (aC (.inl (by kernel_rfl)) aN)) ch_L144_2 ch_L144_2 (.exit 0) rfl stp_L144_2 _ run_L144_2 (fun x y h=>⟨_,h⟩) (fun _=>below_iff.1 rfl)
def ref12_rise (l1:List Int)(i1:Int):Option ((List Int)) :=
 ob (L144_2 l1 i1 0) fun y0 =>
 cond (decide (0≤y0.2.2))
 (cond (decide (y0.2.2≤(y0.1.length:Int)))
 (cond (fits (([]++(y0.1.take y0.2.2.toNat)).length))
 (cond (fits ((([]++(y0.1.take y0.2.2.toNat))++[y0.2.1]).length))
 (cond (decide (0≤y0.2.2))
 (cond (decide (y0.2.2≤(y0.1.length:Int)))
 (cond (decide ((y0.1.length:Int)≤(y0.1.length:Int)))
 (cond (fits (((([]++(y0.1.take y0.2.2.toNat))++[y0.2.1])++((y0.1.take (((y0.1.length:Int)).toNat)).drop y0.2.2.toNat)).length))
 (some ((([]++(y0.1.take y0.2.2.toNat))++[y0.2.1])++((y0.1.take (((y0.1.length:Int)).toNat)).drop y0.2.2.toNat)))
 none)
 none)
 none)
 none)
 none)
 none)
 none)
 none
def un_ref12_rise (p:(List Int)×Int):Option ((List Int)):=ref12_rise p.1 p.2
def df_ref12_rise:DFn TL:=DFn.of (DA.cons (DT.one di_lInt) (DA.one dI)) un_ref12_rise (DA.one (DT.one di_lInt))
theorem run_ref12_rise:DRun [] [(244002,sl_L144_2)] (envOf tab sl sh [(144,fd144)] []) 144 (DA.cons (DT.one di_lInt) (DA.one dI)) un_ref12_rise (DA.one (DT.one di_lInt)):=fun _=>by kernel_rfl
theorem ok_ref12_rise:DOK PR 144 .keep df_ref12_rise:=dok run_ref12_rise (envOK_of base (aC (st144.okl rfl (aC (lC ok_L144_2 rfl) aN)) aN) aN) (.inl rfl) st144.enters
abbrev tY17:=Int×Int×Lease×Op×Lease
def step_L140_5 (i1:Int)(i2:Int)(lx1:Lease)(o1:Op)(lx2:Lease):Option ((tY17)⊕(((Int×Lease×Op×Lease)⊕(Int×Lease×Op×Int×Int×Int×Int×(List Slice)×(List Range)×(List Int))))) :=
 cond (decide (i2 < (lx1.slices.length:Int)))
 (cond (decide (0≤i2))
 (cond (decide (i2 < (lx1.slices.length:Int)))
 (ob (lx1.slices[i2.toNat]?) fun e0 =>
 cond (!sEq e0.key o1.key)
 (some (.inl (i1,(w64 (i2+1)),lx1,o1,lx2)))
 (cond (decide (o1.n > 0))
 (ob (lx1.slices[i2.toNat]?) fun e1 =>
 ob (lx1.slices[i2.toNat]?) fun e2 =>
 cond (decide (o1.n > (w64 (e1.up_ - e2.usedUp))))
 (some (.inr (.inr (14,lx1,o1,lx1.device,lx1.epoch,lx1.until_,lx1.last,lx2.slices,lx2.ids,lx2.used))))
 (cond (decide (o1.n < 0))
 (ob (lx1.slices[i2.toNat]?) fun e3 =>
 ob (lx1.slices[i2.toNat]?) fun e4 =>
 cond (decide ((w64 (0 - o1.n)) > (w64 (e3.down_ - e4.usedDown))))
 (some (.inr (.inr (14,lx1,o1,lx1.device,lx1.epoch,lx1.until_,lx1.last,lx2.slices,lx2.ids,lx2.used))))
 (cond (decide (o1.n > 0))
 (ob (lx1.slices[i2.toNat]?) fun e7 =>
 ob (lx1.slices[i2.toNat]?) fun e8 =>
 some (.inr (.inr (0,(Lease.mk lx1.device lx1.epoch lx1.until_ lx1.last (lx1.slices.set i2.toNat (Slice.mk e8.key e8.up_ e8.down_ (w64 (e7.usedUp+o1.n)) e8.usedDown)) lx1.ids lx1.used),o1,lx1.device,lx1.epoch,lx1.until_,lx1.last,lx2.slices,lx2.ids,lx2.used))))
 (ob (lx1.slices[i2.toNat]?) fun e9 =>
 ob (lx1.slices[i2.toNat]?) fun e10 =>
 some (.inr (.inr (0,(Lease.mk lx1.device lx1.epoch lx1.until_ lx1.last (lx1.slices.set i2.toNat (Slice.mk e10.key e10.up_ e10.down_ e10.usedUp (w64 (e9.usedDown - o1.n)))) lx1.ids lx1.used),o1,lx1.device,lx1.epoch,lx1.until_,lx1.last,lx2.slices,lx2.ids,lx2.used))))))
 (cond (decide (o1.n > 0))
 (ob (lx1.slices[i2.toNat]?) fun e11 =>
 ob (lx1.slices[i2.toNat]?) fun e12 =>
 some (.inr (.inr (0,(Lease.mk lx1.device lx1.epoch lx1.until_ lx1.last (lx1.slices.set i2.toNat (Slice.mk e12.key e12.up_ e12.down_ (w64 (e11.usedUp+o1.n)) e12.usedDown)) lx1.ids lx1.used),o1,lx1.device,lx1.epoch,lx1.until_,lx1.last,lx2.slices,lx2.ids,lx2.used))))
 (ob (lx1.slices[i2.toNat]?) fun e13 =>
 ob (lx1.slices[i2.toNat]?) fun e14 =>
 some (.inr (.inr (0,(Lease.mk lx1.device lx1.epoch lx1.until_ lx1.last (lx1.slices.set i2.toNat (Slice.mk e14.key e14.up_ e14.down_ e14.usedUp (w64 (e13.usedDown - o1.n)))) lx1.ids lx1.used),o1,lx1.device,lx1.epoch,lx1.until_,lx1.last,lx2.slices,lx2.ids,lx2.used)))))))
 (cond (decide (o1.n < 0))
 (ob (lx1.slices[i2.toNat]?) fun e5 =>
 ob (lx1.slices[i2.toNat]?) fun e6 =>
 cond (decide ((w64 (0 - o1.n)) > (w64 (e5.down_ - e6.usedDown))))
 (some (.inr (.inr (14,lx1,o1,lx1.device,lx1.epoch,lx1.until_,lx1.last,lx2.slices,lx2.ids,lx2.used))))
 (cond (decide (o1.n > 0))
 (ob (lx1.slices[i2.toNat]?) fun e15 =>
 ob (lx1.slices[i2.toNat]?) fun e16 =>
 some (.inr (.inr (0,(Lease.mk lx1.device lx1.epoch lx1.until_ lx1.last (lx1.slices.set i2.toNat (Slice.mk e16.key e16.up_ e16.down_ (w64 (e15.usedUp+o1.n)) e16.usedDown)) lx1.ids lx1.used),o1,lx1.device,lx1.epoch,lx1.until_,lx1.last,lx2.slices,lx2.ids,lx2.used))))
 (ob (lx1.slices[i2.toNat]?) fun e17 =>
 ob (lx1.slices[i2.toNat]?) fun e18 =>
 some (.inr (.inr (0,(Lease.mk lx1.device lx1.epoch lx1.until_ lx1.last (lx1.slices.set i2.toNat (Slice.mk e18.key e18.up_ e18.down_ e18.usedUp (w64 (e17.usedDown - o1.n)))) lx1.ids lx1.used),o1,lx1.device,lx1.epoch,lx1.until_,lx1.last,lx2.slices,lx2.ids,lx2.used))))))
 (cond (decide (o1.n > 0))
 (ob (lx1.slices[i2.toNat]?) fun e19 =>
 ob (lx1.slices[i2.toNat]?) fun e20 =>
 some (.inr (.inr (0,(Lease.mk lx1.device lx1.epoch lx1.until_ lx1.last (lx1.slices.set i2.toNat (Slice.mk e20.key e20.up_ e20.down_ (w64 (e19.usedUp+o1.n)) e20.usedDown)) lx1.ids lx1.used),o1,lx1.device,lx1.epoch,lx1.until_,lx1.last,lx2.slices,lx2.ids,lx2.used))))
 (ob (lx1.slices[i2.toNat]?) fun e21 =>
 ob (lx1.slices[i2.toNat]?) fun e22 =>
 some (.inr (.inr (0,(Lease.mk lx1.device lx1.epoch lx1.until_ lx1.last (lx1.slices.set i2.toNat (Slice.mk e22.key e22.up_ e22.down_ e22.usedUp (w64 (e21.usedDown - o1.n)))) lx1.ids lx1.used),o1,lx1.device,lx1.epoch,lx1.until_,lx1.last,lx2.slices,lx2.ids,lx2.used))))))))
 none)
 none)
 (some (.inr (.inl (i1,lx1,o1,lx2))))
def stp_L140_5 (p:tY17):Option ((tY17)⊕(((Int×Lease×Op×Lease)⊕(Int×Lease×Op×Int×Int×Int×Int×(List Slice)×(List Range)×(List Int))))):=step_L140_5 p.1 p.2.1 p.2.2.1 p.2.2.2.1 p.2.2.2.2
def L140_5 (i1:Int)(i2:Int)(lx1:Lease)(o1:Op)(lx2:Lease):Option (((Int×Lease×Op×Lease)⊕(Int×Lease×Op×Int×Int×Int×Int×(List Slice)×(List Range)×(List Int)))):=iterO stp_L140_5 (1099511627776) (i1,i2,lx1,o1,lx2)
def ch_L140_5:kT (tY17):=kO (kS 9 (kC (kP 0 0) (kC (kP 1 0) (kC (kP 2 0) (kC kI (kC kI kN))))) (kC (Cod.var 0 43 (kC kJ (kC kJ (kC kJ (kC kJ (kC (kA 3) (kC (kA 4) (kC (kA 5) kN)))))))) (kC (Cod.var 1 61 cc_Op) (kC (Cod.var 2 43 (kC kJ (kC kJ (kC kJ (kC kJ (kC (kA 6) (kC (kA 7) (kC (kA 8) kN)))))))) (kC (kR 3 133 j_lSlice) (kC (kR 4 153 j_lRange) (kC (kR 5 3 j_lInt) (kC (kR 6 133 j_lSlice) (kC (kR 7 153 j_lRange) (kC (kR 8 3 j_lInt) kN)))))))))) (fun p=>(p.1.2.2.2.1,p.1.2.2.2.2.1,(Lease.mk p.2.1.1 p.2.1.2.1 p.2.1.2.2.1 p.2.1.2.2.2.1 p.2.2.2.2.1 p.2.2.2.2.2.1 p.2.2.2.2.2.2.1),p.2.2.1,(Lease.mk p.2.2.2.1.1 p.2.2.2.1.2.1 p.2.2.2.1.2.2.1 p.2.2.2.1.2.2.2.1 p.2.2.2.2.2.2.2.1 p.2.2.2.2.2.2.2.2.1 (t8 p.2).1))) (fun (x:tY17)=>(((),((),((),(x.1,(x.2.1,()))))),((x.2.2.1.device,(x.2.2.1.epoch,(x.2.2.1.until_,(x.2.2.1.last,((),((),((),()))))))),(x.2.2.2.1,((x.2.2.2.2.device,(x.2.2.2.2.epoch,(x.2.2.2.2.until_,(x.2.2.2.2.last,((),((),((),()))))))),(x.2.2.1.slices,(x.2.2.1.ids,(x.2.2.1.used,(x.2.2.2.2.slices,(x.2.2.2.2.ids,(x.2.2.2.2.used,()))))))))))) (fun _=>rfl)
def co0_L140_5:kT (Int×Lease×Op×Lease):=kO (kS 18 (kC (kP 0 0) (kC (kP 2 0) (kC kI kN))) (kC (Cod.var 0 43 (kC kJ (kC kJ (kC kJ (kC kJ (kC (kA 3) (kC (kA 4) (kC (kA 5) kN)))))))) (kC (Cod.var 1 61 cc_Op) (kC (Cod.var 2 43 (kC kJ (kC kJ (kC kJ (kC kJ (kC (kA 6) (kC (kA 7) (kC (kA 8) kN)))))))) (kC (kR 3 133 j_lSlice) (kC (kR 4 153 j_lRange) (kC (kR 5 3 j_lInt) (kC (kR 6 133 j_lSlice) (kC (kR 7 153 j_lRange) (kC (kR 8 3 j_lInt) kN)))))))))) (fun p=>(p.1.2.2.1,(Lease.mk p.2.1.1 p.2.1.2.1 p.2.1.2.2.1 p.2.1.2.2.2.1 p.2.2.2.2.1 p.2.2.2.2.2.1 p.2.2.2.2.2.2.1),p.2.2.1,(Lease.mk p.2.2.2.1.1 p.2.2.2.1.2.1 p.2.2.2.1.2.2.1 p.2.2.2.1.2.2.2.1 p.2.2.2.2.2.2.2.1 p.2.2.2.2.2.2.2.2.1 (t8 p.2).1))) (fun (x:Int×Lease×Op×Lease)=>(((),((),(x.1,()))),((x.2.1.device,(x.2.1.epoch,(x.2.1.until_,(x.2.1.last,((),((),((),()))))))),(x.2.2.1,((x.2.2.2.device,(x.2.2.2.epoch,(x.2.2.2.until_,(x.2.2.2.last,((),((),((),()))))))),(x.2.1.slices,(x.2.1.ids,(x.2.1.used,(x.2.2.2.slices,(x.2.2.2.ids,(x.2.2.2.used,()))))))))))) (fun _=>rfl)
def co1_L140_5:kT (Int×Lease×Op×Int×Int×Int×Int×(List Slice)×(List Range)×(List Int)):=kO (kS 18 (kC (kP 0 0) (kC (kP 2 0) (kC kI kN))) (kC (Cod.var 0 43 (kC kJ (kC kJ (kC kJ (kC kJ (kC (kA 3) (kC (kA 4) (kC (kA 5) kN)))))))) (kC (Cod.var 1 61 cc_Op) (kC (Cod.var 2 43 (kC kJ (kC kJ (kC kJ (kC kJ (kC (kA 3) (kC (kA 4) (kC (kA 5) kN)))))))) (kC (kR 3 133 j_lSlice) (kC (kR 4 153 j_lRange) (kC (kR 5 3 j_lInt) (kC (kR 6 133 j_lSlice) (kC (kR 7 153 j_lRange) (kC (kR 8 3 j_lInt) kN)))))))))) (fun p=>(p.1.2.2.1,(Lease.mk p.2.1.1 p.2.1.2.1 p.2.1.2.2.1 p.2.1.2.2.2.1 p.2.2.2.2.1 p.2.2.2.2.2.1 p.2.2.2.2.2.2.1),p.2.2.1,p.2.2.2.1.1,p.2.2.2.1.2.1,p.2.2.2.1.2.2.1,p.2.2.2.1.2.2.2.1,p.2.2.2.2.2.2.2.1,p.2.2.2.2.2.2.2.2.1,(t8 p.2).1)) (fun (x:Int×Lease×Op×Int×Int×Int×Int×(List Slice)×(List Range)×(List Int))=>(((),((),(x.1,()))),((x.2.1.device,(x.2.1.epoch,(x.2.1.until_,(x.2.1.last,((),((),((),()))))))),(x.2.2.1,((x.2.2.2.1,(x.2.2.2.2.1,(x.2.2.2.2.2.1,(x.2.2.2.2.2.2.1,((),((),((),()))))))),(x.2.1.slices,(x.2.1.ids,(x.2.1.used,(x.2.2.2.2.2.2.2.1,(x.2.2.2.2.2.2.2.2.1,(x.2.2.2.2.2.2.2.2.2,()))))))))))) (fun _=>rfl)
def sl_L140_5:SFn TL:=SFn.two ch_L140_5.dec (fun p=>L140_5 p.1 p.2.1 p.2.2.1 p.2.2.2.1 p.2.2.2.2) (.exit 1) .ret co0_L140_5.enc co1_L140_5.enc
def v_L140_5:Env:=envOf tab sl sh [] []
theorem v_L140_5_ok:EnvOK PR (mkD cZ sZ) v_L140_5:=envOK_of base aN aN
theorem run_L140_5 (x:tY17):Out.run (mkO cZ sZ) (evRound v_L140_5 12 20 fd140.an q_L140_5 (loopIn (loopsOf fd140.body) 5) (ch_L140_5.enc x)) (back2 ch_L140_5 co0_L140_5 co1_L140_5 (.exit 1) .ret)=stp_L140_5 x:=by kernel_rfl
theorem ok_L140_5:LoopOK PR (oneS sl_L140_5) nt140 q_L140_5 (loopIn (loopsOf fd140.body) 5) :=
  loop_two v_L140_5_ok (loops:=12) (k:=20) (an:=fd140.an) (by kernel_rfl) (FnSt.subl rfl st140.keys (aC (.inl (by kernel_rfl)) aN)) ch_L140_5 co0_L140_5 co1_L140_5 (.exit 1) .ret rfl rfl stp_L140_5 _ run_L140_5 (fun x y h=>⟨_,h⟩) (fun _=>below_iff.1 rfl)
def ref12Spend (lx1:Lease)(o1:Op):Option (Lease×Int) :=
 ob (ref12CopyOf lx1) fun y0 =>
 cond (o1.kind == 4)
 (ob (L140_5 0 0 y0 o1 (Lease.mk 0 0 0 0 [] [] [])) fun y1 =>
 two y1 (fun a2 =>
 some (a2.2.1,14)) (fun b3 =>
 some ((Lease.mk b3.2.2.2.1 b3.2.2.2.2.1 b3.2.2.2.2.2.1 b3.2.2.2.2.2.2.1 b3.2.1.slices b3.2.1.ids b3.2.1.used),b3.1)))
 (cond (o1.kind == 5)
 (ob (ref11Has y0.ids o1.n) fun r4 =>
 cond (!r4)
 (some (y0,14))
 (ob (ref12_in y0.used o1.n) fun r5 =>
 cond (r5)
 (some (y0,7))
 (ob (ref12_rise y0.used o1.n) fun r6 =>
 some ((Lease.mk y0.device y0.epoch y0.until_ y0.last y0.slices y0.ids r6),0))))
 (some (y0,0)))
def un_ref12Spend (p:Lease×Op):Option (Lease×Int):=ref12Spend p.1 p.2
def df_ref12Spend:DFn TL:=DFn.of (DA.cons (DT.agg dc_Lease) (DA.one (DT.agg dc_Op))) un_ref12Spend (DA.cons (DT.agg dc_Lease) (DA.one dI))
theorem run_ref12Spend:DRun [(94,df_ref11Has),(167,df_ref12_in),(144,df_ref12_rise)] [(138,sf_ref12CopyOf),(240005,sl_L140_5)] (envOf tab sl sh [(140,fd140)] [(138,.sum),(94,.pure),(167,.pure),(144,.keep)]) 140 (DA.cons (DT.agg dc_Lease) (DA.one (DT.agg dc_Op))) un_ref12Spend (DA.cons (DT.agg dc_Lease) (DA.one dI)):=fun _=>by kernel_rfl
theorem ok_ref12Spend:DOK PR 140 .keep df_ref12Spend:=dok run_ref12Spend (envOK_of base (aC (st140.okl rfl (aC (lC ok_L140_5 rfl) aN)) aN) (aC (okS rfl ok_ref12CopyOf) (aC (oD ok_ref11Has rfl) (aC (oD ok_ref12_in rfl) (aC (oD ok_ref12_rise rfl) aN))))) (.inl rfl) st140.enters
def ref12Put (bx1:Book)(lx1:Lease):Option (Book×Int) :=
 ob (ref12_at bx1 lx1.device) fun r0 =>
 cond (decide (r0 < 0))
 (some (bx1,2))
 (cond (decide (0≤r0))
 (ob (bx1.leases[r0.toNat]?) fun e1 =>
 cond (e1.epoch != lx1.epoch)
 (some (bx1,2))
 (cond (fits (([]++bx1.leases).length))
 (ob (ref12CopyOf lx1) fun y2 =>
 cond (decide (0≤r0))
 (cond (decide (r0 < (([]++bx1.leases).length:Int)))
 (ob (([]++bx1.leases)[r0.toNat]?) fun _ =>
 some ((Book.mk bx1.counters bx1.free (([]++bx1.leases).set r0.toNat y2) bx1.bound),0))
 none)
 none)
 none))
 none)
def un_ref12Put (p:Book×Lease):Option (Book×Int):=ref12Put p.1 p.2
def df_ref12Put:DFn TL:=DFn.of (DA.cons (DT.agg dc_Book) (DA.one (DT.agg dc_Lease))) un_ref12Put (DA.cons (DT.agg dc_Book) (DA.one dI))
theorem run_ref12Put:DRun [(137,df_ref12_at)] [(138,sf_ref12CopyOf)] (envOf tab sl sh [(141,fd141)] [(137,.pure),(138,.sum)]) 141 (DA.cons (DT.agg dc_Book) (DA.one (DT.agg dc_Lease))) un_ref12Put (DA.cons (DT.agg dc_Book) (DA.one dI)):=fun _=>by kernel_rfl
theorem ok_ref12Put:DOK PR 141 .keep df_ref12Put:=dok run_ref12Put (envOK_of base (aC (st141.okl rfl aN) aN) (aC (oD ok_ref12_at rfl) (aC (okS rfl ok_ref12CopyOf) aN))) (.inl rfl) st141.enters
abbrev tY18:=(List Entry)×Int×Int×Int×Int
def step_L228_2 (l1:List Entry)(i1:Int)(i2:Int)(i3:Int)(i4:Int):Option ((tY18)⊕(((Int)⊕(Int)))) :=
 cond (decide (i4 < (l1.length:Int)))
 (cond (decide (0≤i4))
 (ob (l1[i4.toNat]?) fun e0 =>
 cond (e0.device == i1)
 (cond (decide (0≤i4))
 (ob (l1[i4.toNat]?) fun e1 =>
 cond (e1.epoch == i2)
 (cond (decide (0≤i4))
 (ob (l1[i4.toNat]?) fun e2 =>
 some (.inr (.inr e2.seq)))
 none)
 (some (.inl (l1,i1,i2,i3,(w64 (i4+1))))))
 none)
 (some (.inl (l1,i1,i2,i3,(w64 (i4+1))))))
 none)
 (some (.inr (.inl i3)))
def stp_L228_2 (p:tY18):Option ((tY18)⊕(((Int)⊕(Int)))):=step_L228_2 p.1 p.2.1 p.2.2.1 p.2.2.2.1 p.2.2.2.2
def L228_2 (l1:List Entry)(i1:Int)(i2:Int)(i3:Int)(i4:Int):Option (((Int)⊕(Int))):=iterO stp_L228_2 (((l1.length:Int) - i4).toNat+2) (l1,i1,i2,i3,i4)
def ch_L228_2:kT (tY18):=kO (kS 0 (kC (kF j_lEntry) (kC kI (kC kI (kC kI (kC kI kN))))) kN) (fun ((z0,z1,z2,z3,z4,_),_)=>(z0,z1,z2,z3,z4)) (fun (x:tY18)=>((x.1,(x.2.1,(x.2.2.1,(x.2.2.2.1,(x.2.2.2.2,()))))),())) (fun _=>rfl)
def sl_L228_2:SFn TL:=SFn.two ch_L228_2.dec (fun p=>L228_2 p.1 p.2.1 p.2.2.1 p.2.2.2.1 p.2.2.2.2) (.exit 0) .ret co0_L99_3.enc co0_L99_3.enc
def v_L228_2:Env:=envOf tab sl sh [] []
theorem v_L228_2_ok:EnvOK PR (mkD cZ sZ) v_L228_2:=envOK_of base aN aN
theorem run_L228_2 (x:tY18):Out.run (mkO cZ sZ) (evRound v_L228_2 12 20 fd228.an q_L228_2 (loopIn (loopsOf fd228.body) 2) (ch_L228_2.enc x)) (back2 ch_L228_2 co0_L99_3 co0_L99_3 (.exit 0) .ret)=stp_L228_2 x:=by kernel_rfl
theorem ok_L228_2:LoopOK PR (oneS sl_L228_2) nt228 q_L228_2 (loopIn (loopsOf fd228.body) 2) :=
  loop_two v_L228_2_ok (loops:=12) (k:=20) (an:=fd228.an) (by kernel_rfl) (FnSt.subl rfl st228.keys (aC (.inl (by kernel_rfl)) aN)) ch_L228_2 co0_L99_3 co0_L99_3 (.exit 0) .ret rfl rfl stp_L228_2 _ run_L228_2 (fun x y h=>⟨_,h⟩) (fun _=>below_iff.1 rfl)
def ref7Get (l1:List Entry)(i1:Int)(i2:Int):Option Int :=
 ob (L228_2 l1 i1 i2 0 0) fun y0 =>
 two y0 (fun _ =>
 some 0) (fun b2 =>
 some b2)
def un_ref7Get (p:(List Entry)×Int×Int):Option Int:=ref7Get p.1 p.2.1 p.2.2
def df_ref7Get:DFn TL:=DFn.of (DA.cons (DT.one di_lEntry) (DA.cons dI (DA.one dI))) un_ref7Get (DA.one dI)
theorem run_ref7Get:DRun [] [(328002,sl_L228_2)] (envOf tab sl sh [(228,fd228)] []) 228 (DA.cons (DT.one di_lEntry) (DA.cons dI (DA.one dI))) un_ref7Get (DA.one dI):=fun _=>by kernel_rfl
theorem ok_ref7Get:DOK PR 228 .pure df_ref7Get:=dok run_ref7Get (envOK_of base (aC (st228.okl rfl (aC (lC ok_L228_2 rfl) aN)) aN) aN) (.inr rfl) st228.enters
def ref7Has (l1:List Entry)(ex1:Entry):Option Bool :=
 cond (decide (ex1.seq≥1))
 (ob (ref7Get l1 ex1.device ex1.epoch) fun r0 =>
 some (decide (ex1.seq≤r0)))
 (some false)
def un_ref7Has (p:(List Entry)×Entry):Option Bool:=ref7Has p.1 p.2
def df_ref7Has:DFn TL:=DFn.of (DA.cons (DT.one di_lEntry) (DA.one (DT.agg dc_Entry))) un_ref7Has (DA.one dB)
theorem run_ref7Has:DRun [(228,df_ref7Get)] [] (envOf tab sl sh [(201,fd201)] [(228,.pure)]) 201 (DA.cons (DT.one di_lEntry) (DA.one (DT.agg dc_Entry))) un_ref7Has (DA.one dB):=fun _=>by kernel_rfl
theorem ok_ref7Has:DOK PR 201 .pure df_ref7Has:=dok run_ref7Has (envOK_of base (aC (st201.okl rfl aN) aN) (aC (oD ok_ref7Get rfl) aN)) (.inr rfl) st201.enters
def ref7_less (ex1:Entry)(ex2:Entry):Option Bool :=
 some (cond (decide (ex1.device < ex2.device)) true (cond (ex1.device == ex2.device) (decide (ex1.epoch < ex2.epoch)) false))
def un_ref7_less (p:Entry×Entry):Option Bool:=ref7_less p.1 p.2
def df_ref7_less:DFn TL:=DFn.of (DA.cons (DT.agg dc_Entry) (DA.one (DT.agg dc_Entry))) un_ref7_less (DA.one dB)
theorem run_ref7_less:DRun [] [] (envOf tab sl sh [(229,fd229)] []) 229 (DA.cons (DT.agg dc_Entry) (DA.one (DT.agg dc_Entry))) un_ref7_less (DA.one dB):=fun _=>by kernel_rfl
theorem ok_ref7_less:DOK PR 229 .pure df_ref7_less:=dok run_ref7_less (envOK_of base (aC (st229.okl rfl aN) aN) aN) (.inr rfl) st229.enters
abbrev tY19:=(List Entry)×Int×Entry
def step_L202_2 (l1:List Entry)(i1:Int)(ex1:Entry):Option ((tY19)⊕(tY19)) :=
 cond (decide (i1 < (l1.length:Int)))
 (cond (decide (0≤i1))
 (ob (l1[i1.toNat]?) fun e0 =>
 ob (ref7_less e0 ex1) fun r1 =>
 cond (r1)
 (some (.inl (l1,(w64 (i1+1)),ex1)))
 (some (.inr (l1,i1,ex1))))
 none)
 (some (.inr (l1,i1,ex1)))
def stp_L202_2 (p:tY19):Option ((tY19)⊕(tY19)):=step_L202_2 p.1 p.2.1 p.2.2
def L202_2 (l1:List Entry)(i1:Int)(ex1:Entry):Option tY19:=iterO stp_L202_2 (((l1.length:Int) - i1).toNat+2) (l1,i1,ex1)
def ch_L202_2:kT (tY19):=kO (kS 1 (kC (kF j_lEntry) (kC (kP 0 0) (kC kI kN))) (kC (Cod.var 0 66 (kC kJ (kC kJ (kC kJ kN)))) kN)) (fun p=>(p.1.1,p.1.2.2.1,(Entry.mk p.2.1.1 p.2.1.2.1 p.2.1.2.2.1))) (fun (x:tY19)=>((x.1,((),(x.2.1,()))),((x.2.2.device,(x.2.2.epoch,(x.2.2.seq,()))),()))) (fun _=>rfl)
def co0_L202_2:kT (tY19):=kO (kS 2 (kC (kF j_lEntry) (kC (kP 0 0) (kC kI kN))) (kC (Cod.var 0 66 (kC kJ (kC kJ (kC kJ kN)))) kN)) (fun p=>(p.1.1,p.1.2.2.1,(Entry.mk p.2.1.1 p.2.1.2.1 p.2.1.2.2.1))) (fun (x:tY19)=>((x.1,((),(x.2.1,()))),((x.2.2.device,(x.2.2.epoch,(x.2.2.seq,()))),()))) (fun _=>rfl)
def sl_L202_2:SFn TL:=SFn.one ch_L202_2.dec (fun p=>L202_2 p.1 p.2.1 p.2.2) (.exit 0) co0_L202_2.enc
def cs_lL202_2:cL:=[(229,df_ref7_less)]
def v_L202_2:Env:=envOf tab sl sh [] [(229,.pure)]
theorem v_L202_2_ok:EnvOK PR (mkD cs_lL202_2 sZ) v_L202_2:=envOK_of base aN (aC (oD ok_ref7_less rfl) aN)
theorem run_L202_2 (x:tY19):Out.run (mkO cs_lL202_2 sZ) (evRound v_L202_2 12 20 fd202.an q_L202_2 (loopIn (loopsOf fd202.body) 2) (ch_L202_2.enc x)) (back ch_L202_2 co0_L202_2 fun e=>exE e (.exit 0))=stp_L202_2 x:=by kernel_rfl
theorem ok_L202_2:LoopOK PR (oneS sl_L202_2) nt202 q_L202_2 (loopIn (loopsOf fd202.body) 2) :=
  loop_one v_L202_2_ok (loops:=12) (k:=20) (an:=fd202.an) (by kernel_rfl) (FnSt.subl rfl st202.keys (aC (.inl (by kernel_rfl)) aN)) ch_L202_2 co0_L202_2 (.exit 0) rfl stp_L202_2 _ run_L202_2 (fun x y h=>⟨_,h⟩) (fun _=>below_iff.1 rfl)
def ref7_put (l1:List Entry)(ex1:Entry):Option ((List Entry)) :=
 ob (L202_2 l1 0 ex1) fun y0 =>
 cond (decide (0≤y0.2.1))
 (cond (decide (y0.2.1≤(y0.1.length:Int)))
 (cond (fits (([]++(y0.1.take y0.2.1.toNat)).length))
 (cond (fits ((([]++(y0.1.take y0.2.1.toNat))++[y0.2.2]).length))
 (cond (decide (y0.2.1 < (y0.1.length:Int)))
 (cond (decide (0≤y0.2.1))
 (ob (y0.1[y0.2.1.toNat]?) fun e1 =>
 ob (ref7_less y0.2.2 e1) fun r2 =>
 cond (decide (0≤(cond (!r2) (w64 (y0.2.1+1)) y0.2.1)))
 (cond (decide ((cond (!r2) (w64 (y0.2.1+1)) y0.2.1)≤(y0.1.length:Int)))
 (cond (decide ((y0.1.length:Int)≤(y0.1.length:Int)))
 (cond (fits (((([]++(y0.1.take y0.2.1.toNat))++[y0.2.2])++((y0.1.take (((y0.1.length:Int)).toNat)).drop (((cond (!r2) (w64 (y0.2.1+1)) y0.2.1)).toNat))).length))
 (some ((([]++(y0.1.take y0.2.1.toNat))++[y0.2.2])++((y0.1.take (((y0.1.length:Int)).toNat)).drop (((cond (!r2) (w64 (y0.2.1+1)) y0.2.1)).toNat))))
 none)
 none)
 none)
 none)
 none)
 (cond (decide (0≤y0.2.1))
 (cond (decide (y0.2.1≤(y0.1.length:Int)))
 (cond (decide ((y0.1.length:Int)≤(y0.1.length:Int)))
 (cond (fits (((([]++(y0.1.take y0.2.1.toNat))++[y0.2.2])++((y0.1.take (((y0.1.length:Int)).toNat)).drop y0.2.1.toNat)).length))
 (some ((([]++(y0.1.take y0.2.1.toNat))++[y0.2.2])++((y0.1.take (((y0.1.length:Int)).toNat)).drop y0.2.1.toNat)))
 none)
 none)
 none)
 none))
 none)
 none)
 none)
 none
def un_ref7_put (p:(List Entry)×Entry):Option ((List Entry)):=ref7_put p.1 p.2
def df_ref7_put:DFn TL:=DFn.of (DA.cons (DT.one di_lEntry) (DA.one (DT.agg dc_Entry))) un_ref7_put (DA.one (DT.one di_lEntry))
theorem run_ref7_put:DRun [(229,df_ref7_less)] [(302002,sl_L202_2)] (envOf tab sl sh [(202,fd202)] [(229,.pure)]) 202 (DA.cons (DT.one di_lEntry) (DA.one (DT.agg dc_Entry))) un_ref7_put (DA.one (DT.one di_lEntry)):=fun _=>by kernel_rfl
theorem ok_ref7_put:DOK PR 202 .keep df_ref7_put:=dok run_ref7_put (envOK_of base (aC (st202.okl rfl (aC (lC ok_L202_2 rfl) aN)) aN) (aC (oD ok_ref7_less rfl) aN)) (.inl rfl) st202.enters
def ref7Step (l1:List Entry)(ex1:Entry):Option ((List Entry)×Int) :=
 cond (cond (decide (ex1.device < 0)) true (cond (decide (ex1.epoch < 0)) true (decide (ex1.seq < 1))))
 (some ([],1))
 (ob (ref7Has l1 ex1) fun r0 =>
 cond (r0)
 (some ([],7))
 (ob (ref7_put l1 ex1) fun r1 =>
 some (r1,0)))
def un_ref7Step (p:(List Entry)×Entry):Option ((List Entry)×Int):=ref7Step p.1 p.2
def df_ref7Step:DFn TL:=DFn.of (DA.cons (DT.one di_lEntry) (DA.one (DT.agg dc_Entry))) un_ref7Step (DA.cons (DT.one di_lEntry) (DA.one dI))
theorem run_ref7Step:DRun [(201,df_ref7Has),(202,df_ref7_put)] [] (envOf tab sl sh [(168,fd168)] [(201,.pure),(202,.keep)]) 168 (DA.cons (DT.one di_lEntry) (DA.one (DT.agg dc_Entry))) un_ref7Step (DA.cons (DT.one di_lEntry) (DA.one dI)):=fun _=>by kernel_rfl
theorem ok_ref7Step:DOK PR 168 .keep df_ref7Step:=dok run_ref7Step (envOK_of base (aC (st168.okl rfl aN) aN) (aC (oD ok_ref7Has rfl) (aC (oD ok_ref7_put rfl) aN))) (.inl rfl) st168.enters
abbrev tY20:=(List Reg)×Int×Op×Reg
def step_L169_3 (l1:List Reg)(i1:Int)(o1:Op)(rx1:Reg):Option ((tY20)⊕(tY20)) :=
 cond (decide (i1 < (l1.length:Int)))
 (cond (decide (0≤i1))
 (ob (l1[i1.toNat]?) fun e0 =>
 cond (sLt e0.key o1.key)
 (some (.inl (l1,(w64 (i1+1)),o1,rx1)))
 (some (.inr (l1,i1,o1,rx1))))
 none)
 (some (.inr (l1,i1,o1,rx1)))
def stp_L169_3 (p:tY20):Option ((tY20)⊕(tY20)):=step_L169_3 p.1 p.2.1 p.2.2.1 p.2.2.2
def L169_3 (l1:List Reg)(i1:Int)(o1:Op)(rx1:Reg):Option tY20:=iterO stp_L169_3 (((l1.length:Int) - i1).toNat+2) (l1,i1,o1,rx1)
def cc_Reg:Cod (List (C TL)) Reg:=kO (kC kE (kC kE (kC kJ (kC kJ (kC kJ (kC kJ (kC kJ kN))))))) (fun (z0,z1,z2,z3,z4,z5,z6,_)=>(Reg.mk z0 z1 z2 z3 (Entry.mk z4 z5 z6))) (fun (x:Reg)=>(x.key,(x.text,(x.ver,(x.time,(x.dot.device,(x.dot.epoch,(x.dot.seq,())))))))) (fun _=>rfl)
def ch_L169_3:kT (tY20):=kO (kS 2 (kC (kF j_lReg) (kC (kP 0 0) (kC (kP 1 0) (kC kI kN)))) (kC (Cod.var 0 61 cc_Op) (kC (Cod.var 1 142 cc_Reg) kN))) (fun p=>(p.1.1,p.1.2.2.2.1,p.2.1,p.2.2.1)) (fun (x:tY20)=>((x.1,((),((),(x.2.1,())))),(x.2.2.1,(x.2.2.2,())))) (fun _=>rfl)
def co0_L169_3:kT (tY20):=kO (kS 4 (kC (kF j_lReg) (kC (kP 0 0) (kC (kP 1 0) (kC kI kN)))) (kC (Cod.var 0 61 cc_Op) (kC (Cod.var 1 142 cc_Reg) kN))) (fun p=>(p.1.1,p.1.2.2.2.1,p.2.1,p.2.2.1)) (fun (x:tY20)=>((x.1,((),((),(x.2.1,())))),(x.2.2.1,(x.2.2.2,())))) (fun _=>rfl)
def sl_L169_3:SFn TL:=SFn.one ch_L169_3.dec (fun p=>L169_3 p.1 p.2.1 p.2.2.1 p.2.2.2) (.exit 0) co0_L169_3.enc
def v_L169_3:Env:=envOf tab sl sh [] []
theorem v_L169_3_ok:EnvOK PR (mkD cZ sZ) v_L169_3:=envOK_of base aN aN
theorem run_L169_3 (x:tY20):Out.run (mkO cZ sZ) (evRound v_L169_3 12 20 fd169.an q_L169_3 (loopIn (loopsOf fd169.body) 3) (ch_L169_3.enc x)) (back ch_L169_3 co0_L169_3 fun e=>exE e (.exit 0))=stp_L169_3 x:=by kernel_rfl
theorem ok_L169_3:LoopOK PR (oneS sl_L169_3) nt169 q_L169_3 (loopIn (loopsOf fd169.body) 3) :=
  loop_one v_L169_3_ok (loops:=12) (k:=20) (an:=fd169.an) (by kernel_rfl) (FnSt.subl rfl st169.keys (aC (.inl (by kernel_rfl)) aN)) ch_L169_3 co0_L169_3 (.exit 0) rfl stp_L169_3 _ run_L169_3 (fun x y h=>⟨_,h⟩) (fun _=>below_iff.1 rfl)
def ref10_set (l1:List Reg)(o1:Op):Option ((List Reg)) :=
 ob (L169_3 l1 0 o1 (Reg.mk o1.key o1.text o1.ver o1.time o1.dot)) fun y0 =>
 cond (decide (0≤y0.2.1))
 (cond (decide (y0.2.1≤(y0.1.length:Int)))
 (cond (fits (([]++(y0.1.take y0.2.1.toNat)).length))
 (cond (decide (y0.2.1 < (y0.1.length:Int)))
 (cond (decide (0≤y0.2.1))
 (ob (y0.1[y0.2.1.toNat]?) fun e1 =>
 cond (sEq e1.key y0.2.2.1.key)
 (cond (decide (0≤y0.2.1))
 (ob (y0.1[y0.2.1.toNat]?) fun e2 =>
 cond (decide (e2.time > y0.2.2.1.time))
 (cond (decide (0≤y0.2.1))
 (ob (y0.1[y0.2.1.toNat]?) fun e6 =>
 cond (fits ((([]++(y0.1.take y0.2.1.toNat))++[e6]).length))
 (cond (decide (0≤(w64 (y0.2.1+1))))
 (cond (decide ((w64 (y0.2.1+1))≤(y0.1.length:Int)))
 (cond (decide ((y0.1.length:Int)≤(y0.1.length:Int)))
 (cond (fits (((([]++(y0.1.take y0.2.1.toNat))++[e6])++((y0.1.take (((y0.1.length:Int)).toNat)).drop (((w64 (y0.2.1+1))).toNat))).length))
 (some ((([]++(y0.1.take y0.2.1.toNat))++[e6])++((y0.1.take (((y0.1.length:Int)).toNat)).drop (((w64 (y0.2.1+1))).toNat))))
 none)
 none)
 none)
 none)
 none)
 none)
 (cond (decide (0≤y0.2.1))
 (ob (y0.1[y0.2.1.toNat]?) fun e3 =>
 cond (e3.time == y0.2.2.1.time)
 (cond (decide (0≤y0.2.1))
 (ob (y0.1[y0.2.1.toNat]?) fun e4 =>
 ob (ref9Less y0.2.2.1.dot e4.dot) fun r5 =>
 cond (r5)
 (cond (decide (0≤y0.2.1))
 (ob (y0.1[y0.2.1.toNat]?) fun e7 =>
 cond (fits ((([]++(y0.1.take y0.2.1.toNat))++[e7]).length))
 (cond (decide (0≤(w64 (y0.2.1+1))))
 (cond (decide ((w64 (y0.2.1+1))≤(y0.1.length:Int)))
 (cond (decide ((y0.1.length:Int)≤(y0.1.length:Int)))
 (cond (fits (((([]++(y0.1.take y0.2.1.toNat))++[e7])++((y0.1.take (((y0.1.length:Int)).toNat)).drop (((w64 (y0.2.1+1))).toNat))).length))
 (some ((([]++(y0.1.take y0.2.1.toNat))++[e7])++((y0.1.take (((y0.1.length:Int)).toNat)).drop (((w64 (y0.2.1+1))).toNat))))
 none)
 none)
 none)
 none)
 none)
 none)
 (cond (fits ((([]++(y0.1.take y0.2.1.toNat))++[y0.2.2.2]).length))
 (cond (decide (0≤(w64 (y0.2.1+1))))
 (cond (decide ((w64 (y0.2.1+1))≤(y0.1.length:Int)))
 (cond (decide ((y0.1.length:Int)≤(y0.1.length:Int)))
 (cond (fits (((([]++(y0.1.take y0.2.1.toNat))++[y0.2.2.2])++((y0.1.take (((y0.1.length:Int)).toNat)).drop (((w64 (y0.2.1+1))).toNat))).length))
 (some ((([]++(y0.1.take y0.2.1.toNat))++[y0.2.2.2])++((y0.1.take (((y0.1.length:Int)).toNat)).drop (((w64 (y0.2.1+1))).toNat))))
 none)
 none)
 none)
 none)
 none))
 none)
 (cond (fits ((([]++(y0.1.take y0.2.1.toNat))++[y0.2.2.2]).length))
 (cond (decide (0≤(w64 (y0.2.1+1))))
 (cond (decide ((w64 (y0.2.1+1))≤(y0.1.length:Int)))
 (cond (decide ((y0.1.length:Int)≤(y0.1.length:Int)))
 (cond (fits (((([]++(y0.1.take y0.2.1.toNat))++[y0.2.2.2])++((y0.1.take (((y0.1.length:Int)).toNat)).drop (((w64 (y0.2.1+1))).toNat))).length))
 (some ((([]++(y0.1.take y0.2.1.toNat))++[y0.2.2.2])++((y0.1.take (((y0.1.length:Int)).toNat)).drop (((w64 (y0.2.1+1))).toNat))))
 none)
 none)
 none)
 none)
 none))
 none))
 none)
 (cond (fits ((([]++(y0.1.take y0.2.1.toNat))++[y0.2.2.2]).length))
 (cond (decide (0≤y0.2.1))
 (cond (decide (y0.2.1≤(y0.1.length:Int)))
 (cond (decide ((y0.1.length:Int)≤(y0.1.length:Int)))
 (cond (fits (((([]++(y0.1.take y0.2.1.toNat))++[y0.2.2.2])++((y0.1.take (((y0.1.length:Int)).toNat)).drop y0.2.1.toNat)).length))
 (some ((([]++(y0.1.take y0.2.1.toNat))++[y0.2.2.2])++((y0.1.take (((y0.1.length:Int)).toNat)).drop y0.2.1.toNat)))
 none)
 none)
 none)
 none)
 none))
 none)
 (cond (fits ((([]++(y0.1.take y0.2.1.toNat))++[y0.2.2.2]).length))
 (cond (decide (0≤y0.2.1))
 (cond (decide (y0.2.1≤(y0.1.length:Int)))
 (cond (decide ((y0.1.length:Int)≤(y0.1.length:Int)))
 (cond (fits (((([]++(y0.1.take y0.2.1.toNat))++[y0.2.2.2])++((y0.1.take (((y0.1.length:Int)).toNat)).drop y0.2.1.toNat)).length))
 (some ((([]++(y0.1.take y0.2.1.toNat))++[y0.2.2.2])++((y0.1.take (((y0.1.length:Int)).toNat)).drop y0.2.1.toNat)))
 none)
 none)
 none)
 none)
 none))
 none)
 none)
 none
def un_ref10_set (p:(List Reg)×Op):Option ((List Reg)):=ref10_set p.1 p.2
def df_ref10_set:DFn TL:=DFn.of (DA.cons (DT.one di_lReg) (DA.one (DT.agg dc_Op))) un_ref10_set (DA.one (DT.one di_lReg))
theorem run_ref10_set:DRun [(74,df_ref9Less)] [(269003,sl_L169_3)] (envOf tab sl sh [(169,fd169)] [(74,.pure)]) 169 (DA.cons (DT.one di_lReg) (DA.one (DT.agg dc_Op))) un_ref10_set (DA.one (DT.one di_lReg)):=fun _=>by kernel_rfl
theorem ok_ref10_set:DOK PR 169 .keep df_ref10_set:=dok run_ref10_set (envOK_of base (aC (st169.okl rfl (aC (lC ok_L169_3 rfl) aN)) aN) (aC (oD ok_ref9Less rfl) aN)) (.inl rfl) st169.enters
abbrev tY21:=(List Entry)×Bool×Int×Entry
def step_L170_2 (l1:List Entry)(b1:Bool)(i1:Int)(ex1:Entry):Option ((tY21)⊕(((Bool×Entry)⊕(Bool×Entry)))) :=
 cond (decide (i1 < (l1.length:Int)))
 (cond (decide (0≤i1))
 (ob (l1[i1.toNat]?) fun e0 =>
 cond (cond (e0.device == ex1.device) (cond (e0.epoch == ex1.epoch) (cond (e0.seq == ex1.seq) true false) false) false)
 (some (.inr (.inr (true,ex1))))
 (some (.inl (l1,b1,(w64 (i1+1)),ex1))))
 none)
 (some (.inr (.inl (b1,ex1))))
def stp_L170_2 (p:tY21):Option ((tY21)⊕(((Bool×Entry)⊕(Bool×Entry)))):=step_L170_2 p.1 p.2.1 p.2.2.1 p.2.2.2
def L170_2 (l1:List Entry)(b1:Bool)(i1:Int)(ex1:Entry):Option (((Bool×Entry)⊕(Bool×Entry))):=iterO stp_L170_2 (((l1.length:Int) - i1).toNat+2) (l1,b1,i1,ex1)
def ch_L170_2:kT (tY21):=kO (kS 1 (kC (kF j_lEntry) (kC (kP 0 0) (kC kB (kC kI kN)))) (kC (Cod.var 0 59 (kC kJ (kC kJ (kC kJ kN)))) kN)) (fun ((z0,_,z1,z2,_),(z3,z4,z5,_),_)=>(z0,z1,z2,(Entry.mk z3 z4 z5))) (fun (x:tY21)=>((x.1,((),(x.2.1,(x.2.2.1,())))),((x.2.2.2.device,(x.2.2.2.epoch,(x.2.2.2.seq,()))),()))) (fun _=>rfl)
def co0_L170_2:kT (Bool×Entry):=kO (kS 2 (kC kB kN) (kC (Cod.var 0 59 (kC kJ (kC kJ (kC kJ kN)))) kN)) (fun p=>(p.1.1,(Entry.mk p.2.1.1 p.2.1.2.1 p.2.1.2.2.1))) (fun (x:Bool×Entry)=>((x.1,()),((x.2.device,(x.2.epoch,(x.2.seq,()))),()))) (fun _=>rfl)
def sl_L170_2:SFn TL:=SFn.two ch_L170_2.dec (fun p=>L170_2 p.1 p.2.1 p.2.2.1 p.2.2.2) (.exit 0) .ret co0_L170_2.enc co0_L170_2.enc
def v_L170_2:Env:=envOf tab sl sh [] []
theorem v_L170_2_ok:EnvOK PR (mkD cZ sZ) v_L170_2:=envOK_of base aN aN
theorem run_L170_2 (x:tY21):Out.run (mkO cZ sZ) (evRound v_L170_2 12 20 fd170.an q_L170_2 (loopIn (loopsOf fd170.body) 2) (ch_L170_2.enc x)) (back2 ch_L170_2 co0_L170_2 co0_L170_2 (.exit 0) .ret)=stp_L170_2 x:=by kernel_rfl
theorem ok_L170_2:LoopOK PR (oneS sl_L170_2) nt170 q_L170_2 (loopIn (loopsOf fd170.body) 2) :=
  loop_two v_L170_2_ok (loops:=12) (k:=20) (an:=fd170.an) (by kernel_rfl) (FnSt.subl rfl st170.keys (aC (.inl (by kernel_rfl)) aN)) ch_L170_2 co0_L170_2 co0_L170_2 (.exit 0) .ret rfl rfl stp_L170_2 _ run_L170_2 (fun x y h=>⟨_,h⟩) (fun _=>below_iff.1 rfl)
def ref10_in (l1:List Entry)(ex1:Entry):Option Bool :=
 ob (L170_2 l1 false 0 ex1) fun y0 =>
 two y0 (fun _ =>
 some false) (fun b2 =>
 some b2.1)
def un_ref10_in (p:(List Entry)×Entry):Option Bool:=ref10_in p.1 p.2
def df_ref10_in:DFn TL:=DFn.of (DA.cons (DT.one di_lEntry) (DA.one (DT.agg dc_Entry))) un_ref10_in (DA.one dB)
theorem run_ref10_in:DRun [] [(270002,sl_L170_2)] (envOf tab sl sh [(170,fd170)] []) 170 (DA.cons (DT.one di_lEntry) (DA.one (DT.agg dc_Entry))) un_ref10_in (DA.one dB):=fun _=>by kernel_rfl
theorem ok_ref10_in:DOK PR 170 .pure df_ref10_in:=dok run_ref10_in (envOK_of base (aC (st170.okl rfl (aC (lC ok_L170_2 rfl) aN)) aN) aN) (.inr rfl) st170.enters
def ref10_ahead (ex1:Elem)(ex2:Elem):Option Bool :=
 cond (!sEq ex1.key ex2.key)
 (some (sLt ex1.key ex2.key))
 (cond (!sEq ex1.text ex2.text)
 (some (sLt ex1.text ex2.text))
 (ob (ref9Less ex1.dot ex2.dot) fun r0 =>
 some r0))
def un_ref10_ahead (p:Elem×Elem):Option Bool:=ref10_ahead p.1 p.2
def df_ref10_ahead:DFn TL:=DFn.of (DA.cons (DT.agg dc_Elem) (DA.one (DT.agg dc_Elem))) un_ref10_ahead (DA.one dB)
theorem run_ref10_ahead:DRun [(74,df_ref9Less)] [] (envOf tab sl sh [(203,fd203)] [(74,.pure)]) 203 (DA.cons (DT.agg dc_Elem) (DA.one (DT.agg dc_Elem))) un_ref10_ahead (DA.one dB):=fun _=>by kernel_rfl
theorem ok_ref10_ahead:DOK PR 203 .pure df_ref10_ahead:=dok run_ref10_ahead (envOK_of base (aC (st203.okl rfl aN) aN) (aC (oD ok_ref9Less rfl) aN)) (.inr rfl) st203.enters
def step_L171_3 (l1:List Elem)(i1:Int)(ex1:Elem):Option (((List Elem)×Int×Elem)⊕((List Elem)×Int×Elem)) :=
 cond (decide (i1 < (l1.length:Int)))
 (cond (decide (0≤i1))
 (ob (l1[i1.toNat]?) fun e0 =>
 ob (ref10_ahead e0 ex1) fun r1 =>
 cond (r1)
 (some (.inl (l1,(w64 (i1+1)),ex1)))
 (some (.inr (l1,i1,ex1))))
 none)
 (some (.inr (l1,i1,ex1)))
def stp_L171_3 (p:(List Elem)×Int×Elem):Option (((List Elem)×Int×Elem)⊕((List Elem)×Int×Elem)):=step_L171_3 p.1 p.2.1 p.2.2
def L171_3 (l1:List Elem)(i1:Int)(ex1:Elem):Option ((List Elem)×Int×Elem):=iterO stp_L171_3 (((l1.length:Int) - i1).toNat+2) (l1,i1,ex1)
def cc_Elem:Cod (List (C TL)) Elem:=kO (kC kE (kC kE (kC kJ (kC kJ (kC kJ (kC kJ kN)))))) (fun (z0,z1,z2,z3,z4,z5,_)=>(Elem.mk z0 z1 z2 (Entry.mk z3 z4 z5))) (fun (x:Elem)=>(x.key,(x.text,(x.ver,(x.dot.device,(x.dot.epoch,(x.dot.seq,()))))))) (fun _=>rfl)
def ch_L171_3:kT ((List Elem)×Int×Elem):=kO (kS 1 (kC (kF j_lElem) (kC (kP 0 0) (kC kI kN))) (kC (Cod.var 0 145 cc_Elem) kN)) (fun p=>(p.1.1,p.1.2.2.1,p.2.1)) (fun (x:(List Elem)×Int×Elem)=>((x.1,((),(x.2.1,()))),(x.2.2,()))) (fun _=>rfl)
def co0_L171_3:kT ((List Elem)×Int×Elem):=kO (kS 2 (kC (kF j_lElem) (kC (kP 0 0) (kC kI kN))) (kC (Cod.var 0 145 cc_Elem) kN)) (fun p=>(p.1.1,p.1.2.2.1,p.2.1)) (fun (x:(List Elem)×Int×Elem)=>((x.1,((),(x.2.1,()))),(x.2.2,()))) (fun _=>rfl)
def sl_L171_3:SFn TL:=SFn.one ch_L171_3.dec (fun p=>L171_3 p.1 p.2.1 p.2.2) (.exit 0) co0_L171_3.enc
def cs_lL171_3:cL:=[(203,df_ref10_ahead)]
def v_L171_3:Env:=envOf tab sl sh [] [(203,.pure)]
theorem v_L171_3_ok:EnvOK PR (mkD cs_lL171_3 sZ) v_L171_3:=envOK_of base aN (aC (oD ok_ref10_ahead rfl) aN)
theorem run_L171_3 (x:(List Elem)×Int×Elem):Out.run (mkO cs_lL171_3 sZ) (evRound v_L171_3 12 20 fd171.an q_L171_3 (loopIn (loopsOf fd171.body) 3) (ch_L171_3.enc x)) (back ch_L171_3 co0_L171_3 fun e=>exE e (.exit 0))=stp_L171_3 x:=by kernel_rfl
theorem ok_L171_3:LoopOK PR (oneS sl_L171_3) nt171 q_L171_3 (loopIn (loopsOf fd171.body) 3) :=
  loop_one v_L171_3_ok (loops:=12) (k:=20) (an:=fd171.an) (by kernel_rfl) (FnSt.subl rfl st171.keys (aC (.inl (by kernel_rfl)) aN)) ch_L171_3 co0_L171_3 (.exit 0) rfl stp_L171_3 _ run_L171_3 (fun x y h=>⟨_,h⟩) (fun _=>below_iff.1 rfl)
def ref10_add (l1:List Elem)(o1:Op):Option ((List Elem)) :=
 ob (L171_3 l1 0 (Elem.mk o1.key o1.text o1.ver o1.dot)) fun y0 =>
 cond (decide (0≤y0.2.1))
 (cond (decide (y0.2.1≤(y0.1.length:Int)))
 (cond (fits (([]++(y0.1.take y0.2.1.toNat)).length))
 (cond (fits ((([]++(y0.1.take y0.2.1.toNat))++[y0.2.2]).length))
 (cond (decide (0≤y0.2.1))
 (cond (decide (y0.2.1≤(y0.1.length:Int)))
 (cond (decide ((y0.1.length:Int)≤(y0.1.length:Int)))
 (cond (fits (((([]++(y0.1.take y0.2.1.toNat))++[y0.2.2])++((y0.1.take (((y0.1.length:Int)).toNat)).drop y0.2.1.toNat)).length))
 (some ((([]++(y0.1.take y0.2.1.toNat))++[y0.2.2])++((y0.1.take (((y0.1.length:Int)).toNat)).drop y0.2.1.toNat)))
 none)
 none)
 none)
 none)
 none)
 none)
 none)
 none
def un_ref10_add (p:(List Elem)×Op):Option ((List Elem)):=ref10_add p.1 p.2
def df_ref10_add:DFn TL:=DFn.of (DA.cons (DT.one di_lElem) (DA.one (DT.agg dc_Op))) un_ref10_add (DA.one (DT.one di_lElem))
theorem run_ref10_add:DRun [] [(271003,sl_L171_3)] (envOf tab sl sh [(171,fd171)] []) 171 (DA.cons (DT.one di_lElem) (DA.one (DT.agg dc_Op))) un_ref10_add (DA.one (DT.one di_lElem)):=fun _=>by kernel_rfl
theorem ok_ref10_add:DOK PR 171 .keep df_ref10_add:=dok run_ref10_add (envOK_of base (aC (st171.okl rfl (aC (lC ok_L171_3 rfl) aN)) aN) aN) (.inl rfl) st171.enters
abbrev tY22:=Int×Int×Coll×Op×Coll
def step_L172_6 (i1:Int)(i2:Int)(c1:Coll)(o1:Op)(c2:Coll):Option ((tY22)⊕(tY22)) :=
 cond (decide (i2 < (c1.gone.length:Int)))
 (cond (decide (0≤i2))
 (ob (c1.gone[i2.toNat]?) fun e0 =>
 cond (decide (0≤i1))
 (ob (o1.dots[i1.toNat]?) fun e1 =>
 ob (ref9Less e0 e1) fun r2 =>
 cond (r2)
 (some (.inl (i1,(w64 (i2+1)),c1,o1,c2)))
 (some (.inr (i1,i2,c1,o1,c2))))
 none)
 none)
 (some (.inr (i1,i2,c1,o1,c2)))
def stp_L172_6 (p:tY22):Option ((tY22)⊕(tY22)):=step_L172_6 p.1 p.2.1 p.2.2.1 p.2.2.2.1 p.2.2.2.2
def L172_6 (i1:Int)(i2:Int)(c1:Coll)(o1:Op)(c2:Coll):Option tY22:=iterO stp_L172_6 (1099511627776) (i1,i2,c1,o1,c2)
def cc_Coll:Cod (List (C TL)) Coll:=kO (kC (kG j_lEntry) (kC (kG j_lReg) (kC (kG j_lElem) (kC (kG j_lEntry) (kC (kG j_lSum) (kC (kG j_lBind) kN)))))) (fun (z0,z1,z2,z3,z4,z5,_)=>(Coll.mk z0 z1 z2 z3 z4 z5)) (fun (x:Coll)=>(x.v,(x.regs,(x.elems,(x.gone,(x.sums,(x.binds,()))))))) (fun _=>rfl)
def ch_L172_6:kT (tY22):=kO (kS 8 (kC (kP 0 0) (kC (kP 1 0) (kC (kP 2 0) (kC kI (kC kI kN))))) (kC (Cod.var 0 37 cc_Coll) (kC (Cod.var 1 61 cc_Op) (kC (Cod.var 2 37 (kC (kA 3) (kC (kA 4) (kC (kA 5) (kC (kG j_lEntry) (kC (kA 6) (kC (kA 7) kN))))))) (kC (kR 3 66 j_lEntry) (kC (kR 4 142 j_lReg) (kC (kR 5 145 j_lElem) (kC (kR 6 129 j_lSum) (kC (kR 7 149 j_lBind) kN))))))))) (fun ((_,_,_,z0,z1,_),z2,z3,(_,_,_,z4,_),z5,z6,z7,z8,z9,_)=>(z0,z1,z2,z3,(Coll.mk z5 z6 z7 z4 z8 z9))) (fun (x:tY22)=>(((),((),((),(x.1,(x.2.1,()))))),(x.2.2.1,(x.2.2.2.1,(((),((),((),(x.2.2.2.2.gone,((),((),())))))),(x.2.2.2.2.v,(x.2.2.2.2.regs,(x.2.2.2.2.elems,(x.2.2.2.2.sums,(x.2.2.2.2.binds,())))))))))) (fun _=>rfl)
def co0_L172_6:kT (tY22):=kO (kS 16 (kC (kP 0 0) (kC (kP 1 0) (kC (kP 2 0) (kC kI (kC kI kN))))) (kC (Cod.var 0 37 cc_Coll) (kC (Cod.var 1 61 cc_Op) (kC (Cod.var 2 37 (kC (kA 3) (kC (kA 4) (kC (kA 5) (kC (kG j_lEntry) (kC (kA 6) (kC (kA 7) kN))))))) (kC (kR 3 66 j_lEntry) (kC (kR 4 142 j_lReg) (kC (kR 5 145 j_lElem) (kC (kR 6 129 j_lSum) (kC (kR 7 149 j_lBind) kN))))))))) (fun ((_,_,_,z0,z1,_),z2,z3,(_,_,_,z4,_),z5,z6,z7,z8,z9,_)=>(z0,z1,z2,z3,(Coll.mk z5 z6 z7 z4 z8 z9))) (fun (x:tY22)=>(((),((),((),(x.1,(x.2.1,()))))),(x.2.2.1,(x.2.2.2.1,(((),((),((),(x.2.2.2.2.gone,((),((),())))))),(x.2.2.2.2.v,(x.2.2.2.2.regs,(x.2.2.2.2.elems,(x.2.2.2.2.sums,(x.2.2.2.2.binds,())))))))))) (fun _=>rfl)
def sl_L172_6:SFn TL:=SFn.one ch_L172_6.dec (fun p=>L172_6 p.1 p.2.1 p.2.2.1 p.2.2.2.1 p.2.2.2.2) (.exit 2) co0_L172_6.enc
def cs_lL172_6:cL:=[(74,df_ref9Less)]
def v_L172_6:Env:=envOf tab sl sh [] [(74,.pure)]
theorem v_L172_6_ok:EnvOK PR (mkD cs_lL172_6 sZ) v_L172_6:=envOK_of base aN (aC (oD ok_ref9Less rfl) aN)
theorem run_L172_6 (x:tY22):Out.run (mkO cs_lL172_6 sZ) (evRound v_L172_6 12 20 fd172.an q_L172_6 (loopIn (loopsOf fd172.body) 6) (ch_L172_6.enc x)) (back ch_L172_6 co0_L172_6 fun e=>exE e (.exit 2))=stp_L172_6 x:=by kernel_rfl
theorem ok_L172_6:LoopOK PR (oneS sl_L172_6) nt172 q_L172_6 (loopIn (loopsOf fd172.body) 6) :=
  loop_one v_L172_6_ok (loops:=12) (k:=20) (an:=fd172.an) (by kernel_rfl) (FnSt.subl rfl st172.keys (aC (.inl (by kernel_rfl)) (aC (.inl (by kernel_rfl)) (aC (.inl (by kernel_rfl)) aN)))) ch_L172_6 co0_L172_6 (.exit 2) rfl stp_L172_6 _ run_L172_6 (fun x y h=>⟨_,h⟩) (fun _=>below_iff.1 rfl)
def step_L172_2 (i1:Int)(c1:Coll)(o1:Op)(c2:Coll):Option ((Int×Coll×Op×Coll)⊕(Coll×Op×Coll)) :=
 cond (decide (i1 < (o1.dots.length:Int)))
 (cond (decide (0≤i1))
 (ob (o1.dots[i1.toNat]?) fun e0 =>
 ob (ref10_in c1.gone e0) fun r1 =>
 cond (r1)
 (some (.inl ((w64 (i1+1)),c1,o1,c2)))
 (ob (L172_6 i1 0 c1 o1 c2) fun y2 =>
 cond (decide (0≤y2.2.1))
 (cond (decide (y2.2.1≤(y2.2.2.1.gone.length:Int)))
 (cond (fits (([]++(y2.2.2.1.gone.take y2.2.1.toNat)).length))
 (cond (decide (0≤y2.1))
 (ob (y2.2.2.2.1.dots[y2.1.toNat]?) fun e3 =>
 cond (fits ((([]++(y2.2.2.1.gone.take y2.2.1.toNat))++[e3]).length))
 (cond (decide (0≤y2.2.1))
 (cond (decide (y2.2.1≤(y2.2.2.1.gone.length:Int)))
 (cond (decide ((y2.2.2.1.gone.length:Int)≤(y2.2.2.1.gone.length:Int)))
 (cond (fits (((([]++(y2.2.2.1.gone.take y2.2.1.toNat))++[e3])++((y2.2.2.1.gone.take (((y2.2.2.1.gone.length:Int)).toNat)).drop y2.2.1.toNat)).length))
 (some (.inl ((w64 (y2.1+1)),(Coll.mk y2.2.2.1.v y2.2.2.1.regs y2.2.2.1.elems ((([]++(y2.2.2.1.gone.take y2.2.1.toNat))++[e3])++((y2.2.2.1.gone.take (((y2.2.2.1.gone.length:Int)).toNat)).drop y2.2.1.toNat)) y2.2.2.1.sums y2.2.2.1.binds),y2.2.2.2.1,y2.2.2.2.2)))
 none)
 none)
 none)
 none)
 none)
 none)
 none)
 none)
 none))
 none)
 (some (.inr (c1,o1,c2)))
def stp_L172_2 (p:Int×Coll×Op×Coll):Option ((Int×Coll×Op×Coll)⊕(Coll×Op×Coll)):=step_L172_2 p.1 p.2.1 p.2.2.1 p.2.2.2
def L172_2 (i1:Int)(c1:Coll)(o1:Op)(c2:Coll):Option (Coll×Op×Coll):=iterO stp_L172_2 (1099511627776) (i1,c1,o1,c2)
def ch_L172_2:kT (Int×Coll×Op×Coll):=kO (kS 8 (kC (kP 0 0) (kC (kP 1 0) (kC (kP 2 0) (kC kI kN)))) (kC (Cod.var 0 37 cc_Coll) (kC (Cod.var 1 61 cc_Op) (kC (Cod.var 2 37 (kC (kA 3) (kC (kA 4) (kC (kA 5) (kC (kG j_lEntry) (kC (kA 6) (kC (kA 7) kN))))))) (kC (kR 3 66 j_lEntry) (kC (kR 4 142 j_lReg) (kC (kR 5 145 j_lElem) (kC (kR 6 129 j_lSum) (kC (kR 7 149 j_lBind) kN))))))))) (fun ((_,_,_,z0,_),z1,z2,(_,_,_,z3,_),z4,z5,z6,z7,z8,_)=>(z0,z1,z2,(Coll.mk z4 z5 z6 z3 z7 z8))) (fun (x:Int×Coll×Op×Coll)=>(((),((),((),(x.1,())))),(x.2.1,(x.2.2.1,(((),((),((),(x.2.2.2.gone,((),((),())))))),(x.2.2.2.v,(x.2.2.2.regs,(x.2.2.2.elems,(x.2.2.2.sums,(x.2.2.2.binds,())))))))))) (fun _=>rfl)
def co0_L172_2:kT (Coll×Op×Coll):=kO (kS 16 (kC (kP 0 0) (kC (kP 2 0) kN)) (kC (Cod.var 0 37 cc_Coll) (kC (Cod.var 1 61 cc_Op) (kC (Cod.var 2 37 (kC (kA 3) (kC (kA 4) (kC (kA 5) (kC (kG j_lEntry) (kC (kA 6) (kC (kA 7) kN))))))) (kC (kR 3 66 j_lEntry) (kC (kR 4 142 j_lReg) (kC (kR 5 145 j_lElem) (kC (kR 6 129 j_lSum) (kC (kR 7 149 j_lBind) kN))))))))) (fun (_,z0,z1,(_,_,_,z2,_),z3,z4,z5,z6,z7,_)=>(z0,z1,(Coll.mk z3 z4 z5 z2 z6 z7))) (fun (x:Coll×Op×Coll)=>(((),((),())),(x.1,(x.2.1,(((),((),((),(x.2.2.gone,((),((),())))))),(x.2.2.v,(x.2.2.regs,(x.2.2.elems,(x.2.2.sums,(x.2.2.binds,())))))))))) (fun _=>rfl)
def sl_L172_2:SFn TL:=SFn.one ch_L172_2.dec (fun p=>L172_2 p.1 p.2.1 p.2.2.1 p.2.2.2) (.exit 0) co0_L172_2.enc
def cs_lL172_2:cL:=[(170,df_ref10_in)]
def ss_lL172_2:sL:=[(272006,sl_L172_6)]
def v_L172_2:Env:=envOf tab sl sh [] [(170,.pure)]
theorem v_L172_2_ok:EnvOK PR (mkD cs_lL172_2 ss_lL172_2) v_L172_2:=envOK_of base aN (aC (oD ok_ref10_in rfl) aN)
theorem run_L172_2 (x:Int×Coll×Op×Coll):Out.run (mkO cs_lL172_2 ss_lL172_2) (evRound v_L172_2 12 20 fd172.an q_L172_2 (loopIn (loopsOf fd172.body) 2) (ch_L172_2.enc x)) (back ch_L172_2 co0_L172_2 fun e=>exE e (.exit 0))=stp_L172_2 x:=by kernel_rfl
theorem ok_L172_2:LoopOK PR (oneS sl_L172_2) nt172 q_L172_2 (loopIn (loopsOf fd172.body) 2) :=
  loop_one v_L172_2_ok (loops:=12) (k:=20) (an:=fd172.an) (by kernel_rfl) (FnSt.subl rfl st172.keys (aC (.inl (by kernel_rfl)) (aC (.inr (lC ok_L172_6 rfl)) (aC (.inl (by kernel_rfl)) aN)))) ch_L172_2 co0_L172_2 (.exit 0) rfl stp_L172_2 _ run_L172_2 (fun x y h=>⟨_,h⟩) (fun _=>below_iff.1 rfl)
abbrev tY23:=(List Elem)×Int×Coll×Coll
def step_L172_13 (l1:List Elem)(i1:Int)(c1:Coll)(c2:Coll):Option ((tY23)⊕((List Elem)×Coll×Coll)) :=
 cond (decide (i1 < (c1.elems.length:Int)))
 (cond (decide (0≤i1))
 (ob (c1.elems[i1.toNat]?) fun e0 =>
 ob (ref10_in c1.gone e0.dot) fun r1 =>
 cond (!r1)
 (cond (decide (0≤i1))
 (ob (c1.elems[i1.toNat]?) fun e2 =>
 cond (fits ((l1++[e2]).length))
 (some (.inl ((l1++[e2]),(w64 (i1+1)),c1,c2)))
 none)
 none)
 (some (.inl (l1,(w64 (i1+1)),c1,c2))))
 none)
 (some (.inr (l1,c1,c2)))
def stp_L172_13 (p:tY23):Option ((tY23)⊕((List Elem)×Coll×Coll)):=step_L172_13 p.1 p.2.1 p.2.2.1 p.2.2.2
def L172_13 (l1:List Elem)(i1:Int)(c1:Coll)(c2:Coll):Option ((List Elem)×Coll×Coll):=iterO stp_L172_13 (1099511627776) (l1,i1,c1,c2)
def ch_L172_13:kT (tY23):=kO (kS 8 (kC (kP 0 0) (kC (kP 1 0) (kC (Cod.xs (Cod.sc (kA 2))) (kC kI kN)))) (kC (Cod.var 0 37 cc_Coll) (kC (Cod.var 1 37 (kC (kA 3) (kC (kA 4) (kC (kA 5) (kC (kG j_lEntry) (kC (kA 6) (kC (kA 7) kN))))))) (kC (kR 2 145 j_lElem) (kC (kR 3 66 j_lEntry) (kC (kR 4 142 j_lReg) (kC (kR 5 145 j_lElem) (kC (kR 6 129 j_lSum) (kC (kR 7 149 j_lBind) kN))))))))) (fun ((_,_,_,z0,_),z1,(_,_,_,z2,_),z3,z4,z5,z6,z7,z8,_)=>(z3,z0,z1,(Coll.mk z4 z5 z6 z2 z7 z8))) (fun (x:tY23)=>(((),((),((),(x.2.1,())))),(x.2.2.1,(((),((),((),(x.2.2.2.gone,((),((),())))))),(x.1,(x.2.2.2.v,(x.2.2.2.regs,(x.2.2.2.elems,(x.2.2.2.sums,(x.2.2.2.binds,())))))))))) (fun _=>rfl)
def co0_L172_13:kT ((List Elem)×Coll×Coll):=kO (kS 16 (kC (kP 0 0) (kC (kP 1 0) (kC (Cod.xs (Cod.sc (kA 15))) kN))) (kC (Cod.var 0 37 cc_Coll) (kC (Cod.var 1 37 (kC (kA 3) (kC (kA 4) (kC (kA 5) (kC (kG j_lEntry) (kC (kA 6) (kC (kA 7) kN))))))) (kC (kR 3 66 j_lEntry) (kC (kR 4 142 j_lReg) (kC (kR 5 145 j_lElem) (kC (kR 6 129 j_lSum) (kC (kR 7 149 j_lBind) (kC (kR 15 145 j_lElem) kN))))))))) (fun (_,z0,(_,_,_,z1,_),z2,z3,z4,z5,z6,z7,_)=>(z7,z0,(Coll.mk z2 z3 z4 z1 z5 z6))) (fun (x:(List Elem)×Coll×Coll)=>(((),((),((),()))),(x.2.1,(((),((),((),(x.2.2.gone,((),((),())))))),(x.2.2.v,(x.2.2.regs,(x.2.2.elems,(x.2.2.sums,(x.2.2.binds,(x.1,())))))))))) (fun _=>rfl)
def sl_L172_13:SFn TL:=SFn.one ch_L172_13.dec (fun p=>L172_13 p.1 p.2.1 p.2.2.1 p.2.2.2) (.exit 4) co0_L172_13.enc
def cs_lL172_13:cL:=[(170,df_ref10_in)]
def v_L172_13:Env:=envOf tab sl sh [] [(170,.pure)]
theorem v_L172_13_ok:EnvOK PR (mkD cs_lL172_13 sZ) v_L172_13:=envOK_of base aN (aC (oD ok_ref10_in rfl) aN)
theorem run_L172_13 (x:tY23):Out.run (mkO cs_lL172_13 sZ) (evRound v_L172_13 12 20 fd172.an q_L172_13 (loopIn (loopsOf fd172.body) 13) (ch_L172_13.enc x)) (back ch_L172_13 co0_L172_13 fun e=>exE e (.exit 4))=stp_L172_13 x:=by kernel_rfl
theorem ok_L172_13:LoopOK PR (oneS sl_L172_13) nt172 q_L172_13 (loopIn (loopsOf fd172.body) 13) :=
  loop_one v_L172_13_ok (loops:=12) (k:=20) (an:=fd172.an) (by kernel_rfl) (FnSt.subl rfl st172.keys (aC (.inl (by kernel_rfl)) (aC (.inl (by kernel_rfl)) (aC (.inl (by kernel_rfl)) aN)))) ch_L172_13 co0_L172_13 (.exit 4) rfl stp_L172_13 _ run_L172_13 (fun x y h=>⟨_,h⟩) (fun _=>below_iff.1 rfl)
def ref10_rem (c1:Coll)(o1:Op):Option Coll :=
 ob (L172_2 0 c1 o1 (Coll.mk [] [] [] [] [] [])) fun y0 =>
 ob (L172_13 [] 0 y0.1 y0.2.2) fun y1 =>
 some (Coll.mk y1.2.1.v y1.2.1.regs y1.1 y1.2.1.gone y1.2.1.sums y1.2.1.binds)
def un_ref10_rem (p:Coll×Op):Option Coll:=ref10_rem p.1 p.2
def df_ref10_rem:DFn TL:=DFn.of (DA.cons (DT.agg dc_Coll) (DA.one (DT.agg dc_Op))) un_ref10_rem (DA.one (DT.agg dc_Coll))
theorem run_ref10_rem:DRun [] [(272002,sl_L172_2),(272006,sl_L172_6),(272013,sl_L172_13)] (envOf tab sl sh [(172,fd172)] []) 172 (DA.cons (DT.agg dc_Coll) (DA.one (DT.agg dc_Op))) un_ref10_rem (DA.one (DT.agg dc_Coll)):=fun _=>by kernel_rfl
theorem ok_ref10_rem:DOK PR 172 .keep df_ref10_rem:=dok run_ref10_rem (envOK_of base (aC (st172.okl rfl (aC (lC ok_L172_2 rfl) (aC (lC ok_L172_6 rfl) (aC (lC ok_L172_13 rfl) aN)))) aN) aN) (.inl rfl) st172.enters
abbrev tY24:=(List Sum)×Int×Op×Sum
def step_L173_3 (l1:List Sum)(i1:Int)(o1:Op)(sx1:Sum):Option ((tY24)⊕(tY24)) :=
 cond (decide (i1 < (l1.length:Int)))
 (cond (decide (0≤i1))
 (ob (l1[i1.toNat]?) fun e0 =>
 cond (sLt e0.key o1.key)
 (some (.inl (l1,(w64 (i1+1)),o1,sx1)))
 (some (.inr (l1,i1,o1,sx1))))
 none)
 (some (.inr (l1,i1,o1,sx1)))
def stp_L173_3 (p:tY24):Option ((tY24)⊕(tY24)):=step_L173_3 p.1 p.2.1 p.2.2.1 p.2.2.2
def L173_3 (l1:List Sum)(i1:Int)(o1:Op)(sx1:Sum):Option tY24:=iterO stp_L173_3 (((l1.length:Int) - i1).toNat+2) (l1,i1,o1,sx1)
def ch_L173_3:kT (tY24):=kO (kS 2 (kC (kF j_lSum) (kC (kP 0 0) (kC (kP 1 0) (kC kI kN)))) (kC (Cod.var 0 61 cc_Op) (kC (Cod.var 1 129 (kC kE (kC kJ kN))) kN))) (fun p=>(p.1.1,p.1.2.2.2.1,p.2.1,(Sum.mk p.2.2.1.1 p.2.2.1.2.1))) (fun (x:tY24)=>((x.1,((),((),(x.2.1,())))),(x.2.2.1,((x.2.2.2.key,(x.2.2.2.n,())),())))) (fun _=>rfl)
def co0_L173_3:kT (tY24):=kO (kS 4 (kC (kF j_lSum) (kC (kP 0 0) (kC (kP 1 0) (kC kI kN)))) (kC (Cod.var 0 61 cc_Op) (kC (Cod.var 1 129 (kC kE (kC kJ kN))) kN))) (fun p=>(p.1.1,p.1.2.2.2.1,p.2.1,(Sum.mk p.2.2.1.1 p.2.2.1.2.1))) (fun (x:tY24)=>((x.1,((),((),(x.2.1,())))),(x.2.2.1,((x.2.2.2.key,(x.2.2.2.n,())),())))) (fun _=>rfl)
def sl_L173_3:SFn TL:=SFn.one ch_L173_3.dec (fun p=>L173_3 p.1 p.2.1 p.2.2.1 p.2.2.2) (.exit 0) co0_L173_3.enc
def v_L173_3:Env:=envOf tab sl sh [] []
theorem v_L173_3_ok:EnvOK PR (mkD cZ sZ) v_L173_3:=envOK_of base aN aN
theorem run_L173_3 (x:tY24):Out.run (mkO cZ sZ) (evRound v_L173_3 12 20 fd173.an q_L173_3 (loopIn (loopsOf fd173.body) 3) (ch_L173_3.enc x)) (back ch_L173_3 co0_L173_3 fun e=>exE e (.exit 0))=stp_L173_3 x:=by kernel_rfl
theorem ok_L173_3:LoopOK PR (oneS sl_L173_3) nt173 q_L173_3 (loopIn (loopsOf fd173.body) 3) :=
  loop_one v_L173_3_ok (loops:=12) (k:=20) (an:=fd173.an) (by kernel_rfl) (FnSt.subl rfl st173.keys (aC (.inl (by kernel_rfl)) aN)) ch_L173_3 co0_L173_3 (.exit 0) rfl stp_L173_3 _ run_L173_3 (fun x y h=>⟨_,h⟩) (fun _=>below_iff.1 rfl)
def ref10_count (l1:List Sum)(o1:Op):Option ((List Sum)) :=
 ob (L173_3 l1 0 o1 (Sum.mk o1.key o1.n)) fun y0 =>
 cond (decide (0≤y0.2.1))
 (cond (decide (y0.2.1≤(y0.1.length:Int)))
 (cond (fits (([]++(y0.1.take y0.2.1.toNat)).length))
 (cond (decide (y0.2.1 < (y0.1.length:Int)))
 (cond (decide (0≤y0.2.1))
 (ob (y0.1[y0.2.1.toNat]?) fun e1 =>
 cond (sEq e1.key y0.2.2.1.key)
 (cond (decide (0≤y0.2.1))
 (ob (y0.1[y0.2.1.toNat]?) fun e2 =>
 cond (fits ((([]++(y0.1.take y0.2.1.toNat))++[(Sum.mk y0.2.2.2.key (w64 (y0.2.2.2.n+e2.n)))]).length))
 (cond (decide (0≤(w64 (y0.2.1+1))))
 (cond (decide ((w64 (y0.2.1+1))≤(y0.1.length:Int)))
 (cond (decide ((y0.1.length:Int)≤(y0.1.length:Int)))
 (cond (fits (((([]++(y0.1.take y0.2.1.toNat))++[(Sum.mk y0.2.2.2.key (w64 (y0.2.2.2.n+e2.n)))])++((y0.1.take (((y0.1.length:Int)).toNat)).drop (((w64 (y0.2.1+1))).toNat))).length))
 (some ((([]++(y0.1.take y0.2.1.toNat))++[(Sum.mk y0.2.2.2.key (w64 (y0.2.2.2.n+e2.n)))])++((y0.1.take (((y0.1.length:Int)).toNat)).drop (((w64 (y0.2.1+1))).toNat))))
 none)
 none)
 none)
 none)
 none)
 none)
 (cond (fits ((([]++(y0.1.take y0.2.1.toNat))++[y0.2.2.2]).length))
 (cond (decide (0≤y0.2.1))
 (cond (decide (y0.2.1≤(y0.1.length:Int)))
 (cond (decide ((y0.1.length:Int)≤(y0.1.length:Int)))
 (cond (fits (((([]++(y0.1.take y0.2.1.toNat))++[y0.2.2.2])++((y0.1.take (((y0.1.length:Int)).toNat)).drop y0.2.1.toNat)).length))
 (some ((([]++(y0.1.take y0.2.1.toNat))++[y0.2.2.2])++((y0.1.take (((y0.1.length:Int)).toNat)).drop y0.2.1.toNat)))
 none)
 none)
 none)
 none)
 none))
 none)
 (cond (fits ((([]++(y0.1.take y0.2.1.toNat))++[y0.2.2.2]).length))
 (cond (decide (0≤y0.2.1))
 (cond (decide (y0.2.1≤(y0.1.length:Int)))
 (cond (decide ((y0.1.length:Int)≤(y0.1.length:Int)))
 (cond (fits (((([]++(y0.1.take y0.2.1.toNat))++[y0.2.2.2])++((y0.1.take (((y0.1.length:Int)).toNat)).drop y0.2.1.toNat)).length))
 (some ((([]++(y0.1.take y0.2.1.toNat))++[y0.2.2.2])++((y0.1.take (((y0.1.length:Int)).toNat)).drop y0.2.1.toNat)))
 none)
 none)
 none)
 none)
 none))
 none)
 none)
 none
def un_ref10_count (p:(List Sum)×Op):Option ((List Sum)):=ref10_count p.1 p.2
def df_ref10_count:DFn TL:=DFn.of (DA.cons (DT.one di_lSum) (DA.one (DT.agg dc_Op))) un_ref10_count (DA.one (DT.one di_lSum))
theorem run_ref10_count:DRun [] [(273003,sl_L173_3)] (envOf tab sl sh [(173,fd173)] []) 173 (DA.cons (DT.one di_lSum) (DA.one (DT.agg dc_Op))) un_ref10_count (DA.one (DT.one di_lSum)):=fun _=>by kernel_rfl
theorem ok_ref10_count:DOK PR 173 .keep df_ref10_count:=dok run_ref10_count (envOK_of base (aC (st173.okl rfl (aC (lC ok_L173_3 rfl) aN)) aN) aN) (.inl rfl) st173.enters
abbrev tY25:=(List Bind)×Int×Op×Bind
def step_L174_3 (l1:List Bind)(i1:Int)(o1:Op)(bx1:Bind):Option ((tY25)⊕(tY25)) :=
 cond (decide (i1 < (l1.length:Int)))
 (cond (decide (0≤i1))
 (ob (l1[i1.toNat]?) fun e0 =>
 cond (decide (e0.id_ < o1.n))
 (some (.inl (l1,(w64 (i1+1)),o1,bx1)))
 (some (.inr (l1,i1,o1,bx1))))
 none)
 (some (.inr (l1,i1,o1,bx1)))
def stp_L174_3 (p:tY25):Option ((tY25)⊕(tY25)):=step_L174_3 p.1 p.2.1 p.2.2.1 p.2.2.2
def L174_3 (l1:List Bind)(i1:Int)(o1:Op)(bx1:Bind):Option tY25:=iterO stp_L174_3 (((l1.length:Int) - i1).toNat+2) (l1,i1,o1,bx1)
def cc_Bind:Cod (List (C TL)) Bind:=kO (kC kJ (kC kE (kC kJ (kC kJ (kC kJ (kC kJ kN)))))) (fun (z0,z1,z2,z3,z4,z5,_)=>(Bind.mk z0 z1 z2 (Entry.mk z3 z4 z5))) (fun (x:Bind)=>(x.id_,(x.text,(x.ver,(x.dot.device,(x.dot.epoch,(x.dot.seq,()))))))) (fun _=>rfl)
def ch_L174_3:kT (tY25):=kO (kS 2 (kC (kF j_lBind) (kC (kP 0 0) (kC (kP 1 0) (kC kI kN)))) (kC (Cod.var 0 61 cc_Op) (kC (Cod.var 1 149 cc_Bind) kN))) (fun p=>(p.1.1,p.1.2.2.2.1,p.2.1,p.2.2.1)) (fun (x:tY25)=>((x.1,((),((),(x.2.1,())))),(x.2.2.1,(x.2.2.2,())))) (fun _=>rfl)
def co0_L174_3:kT (tY25):=kO (kS 4 (kC (kF j_lBind) (kC (kP 0 0) (kC (kP 1 0) (kC kI kN)))) (kC (Cod.var 0 61 cc_Op) (kC (Cod.var 1 149 cc_Bind) kN))) (fun p=>(p.1.1,p.1.2.2.2.1,p.2.1,p.2.2.1)) (fun (x:tY25)=>((x.1,((),((),(x.2.1,())))),(x.2.2.1,(x.2.2.2,())))) (fun _=>rfl)
def sl_L174_3:SFn TL:=SFn.one ch_L174_3.dec (fun p=>L174_3 p.1 p.2.1 p.2.2.1 p.2.2.2) (.exit 0) co0_L174_3.enc
def v_L174_3:Env:=envOf tab sl sh [] []
theorem v_L174_3_ok:EnvOK PR (mkD cZ sZ) v_L174_3:=envOK_of base aN aN
theorem run_L174_3 (x:tY25):Out.run (mkO cZ sZ) (evRound v_L174_3 12 20 fd174.an q_L174_3 (loopIn (loopsOf fd174.body) 3) (ch_L174_3.enc x)) (back ch_L174_3 co0_L174_3 fun e=>exE e (.exit 0))=stp_L174_3 x:=by kernel_rfl
theorem ok_L174_3:LoopOK PR (oneS sl_L174_3) nt174 q_L174_3 (loopIn (loopsOf fd174.body) 3) :=
  loop_one v_L174_3_ok (loops:=12) (k:=20) (an:=fd174.an) (by kernel_rfl) (FnSt.subl rfl st174.keys (aC (.inl (by kernel_rfl)) aN)) ch_L174_3 co0_L174_3 (.exit 0) rfl stp_L174_3 _ run_L174_3 (fun x y h=>⟨_,h⟩) (fun _=>below_iff.1 rfl)
def ref10_bind (l1:List Bind)(o1:Op):Option ((List Bind)) :=
 ob (L174_3 l1 0 o1 (Bind.mk o1.n o1.text o1.ver o1.dot)) fun y0 =>
 cond (decide (0≤y0.2.1))
 (cond (decide (y0.2.1≤(y0.1.length:Int)))
 (cond (fits (([]++(y0.1.take y0.2.1.toNat)).length))
 (cond (decide (y0.2.1 < (y0.1.length:Int)))
 (cond (decide (0≤y0.2.1))
 (ob (y0.1[y0.2.1.toNat]?) fun e1 =>
 cond (e1.id_ == y0.2.2.1.n)
 (cond (decide (0≤y0.2.1))
 (ob (y0.1[y0.2.1.toNat]?) fun e2 =>
 ob (ref9Less y0.2.2.1.dot e2.dot) fun r3 =>
 cond (!r3)
 (cond (decide (0≤y0.2.1))
 (ob (y0.1[y0.2.1.toNat]?) fun e4 =>
 cond (fits ((([]++(y0.1.take y0.2.1.toNat))++[e4]).length))
 (cond (decide (0≤(w64 (y0.2.1+1))))
 (cond (decide ((w64 (y0.2.1+1))≤(y0.1.length:Int)))
 (cond (decide ((y0.1.length:Int)≤(y0.1.length:Int)))
 (cond (fits (((([]++(y0.1.take y0.2.1.toNat))++[e4])++((y0.1.take (((y0.1.length:Int)).toNat)).drop (((w64 (y0.2.1+1))).toNat))).length))
 (some ((([]++(y0.1.take y0.2.1.toNat))++[e4])++((y0.1.take (((y0.1.length:Int)).toNat)).drop (((w64 (y0.2.1+1))).toNat))))
 none)
 none)
 none)
 none)
 none)
 none)
 (cond (fits ((([]++(y0.1.take y0.2.1.toNat))++[y0.2.2.2]).length))
 (cond (decide (0≤(w64 (y0.2.1+1))))
 (cond (decide ((w64 (y0.2.1+1))≤(y0.1.length:Int)))
 (cond (decide ((y0.1.length:Int)≤(y0.1.length:Int)))
 (cond (fits (((([]++(y0.1.take y0.2.1.toNat))++[y0.2.2.2])++((y0.1.take (((y0.1.length:Int)).toNat)).drop (((w64 (y0.2.1+1))).toNat))).length))
 (some ((([]++(y0.1.take y0.2.1.toNat))++[y0.2.2.2])++((y0.1.take (((y0.1.length:Int)).toNat)).drop (((w64 (y0.2.1+1))).toNat))))
 none)
 none)
 none)
 none)
 none))
 none)
 (cond (fits ((([]++(y0.1.take y0.2.1.toNat))++[y0.2.2.2]).length))
 (cond (decide (0≤y0.2.1))
 (cond (decide (y0.2.1≤(y0.1.length:Int)))
 (cond (decide ((y0.1.length:Int)≤(y0.1.length:Int)))
 (cond (fits (((([]++(y0.1.take y0.2.1.toNat))++[y0.2.2.2])++((y0.1.take (((y0.1.length:Int)).toNat)).drop y0.2.1.toNat)).length))
 (some ((([]++(y0.1.take y0.2.1.toNat))++[y0.2.2.2])++((y0.1.take (((y0.1.length:Int)).toNat)).drop y0.2.1.toNat)))
 none)
 none)
 none)
 none)
 none))
 none)
 (cond (fits ((([]++(y0.1.take y0.2.1.toNat))++[y0.2.2.2]).length))
 (cond (decide (0≤y0.2.1))
 (cond (decide (y0.2.1≤(y0.1.length:Int)))
 (cond (decide ((y0.1.length:Int)≤(y0.1.length:Int)))
 (cond (fits (((([]++(y0.1.take y0.2.1.toNat))++[y0.2.2.2])++((y0.1.take (((y0.1.length:Int)).toNat)).drop y0.2.1.toNat)).length))
 (some ((([]++(y0.1.take y0.2.1.toNat))++[y0.2.2.2])++((y0.1.take (((y0.1.length:Int)).toNat)).drop y0.2.1.toNat)))
 none)
 none)
 none)
 none)
 none))
 none)
 none)
 none
def un_ref10_bind (p:(List Bind)×Op):Option ((List Bind)):=ref10_bind p.1 p.2
def df_ref10_bind:DFn TL:=DFn.of (DA.cons (DT.one di_lBind) (DA.one (DT.agg dc_Op))) un_ref10_bind (DA.one (DT.one di_lBind))
theorem run_ref10_bind:DRun [(74,df_ref9Less)] [(274003,sl_L174_3)] (envOf tab sl sh [(174,fd174)] [(74,.pure)]) 174 (DA.cons (DT.one di_lBind) (DA.one (DT.agg dc_Op))) un_ref10_bind (DA.one (DT.one di_lBind)):=fun _=>by kernel_rfl
theorem ok_ref10_bind:DOK PR 174 .keep df_ref10_bind:=dok run_ref10_bind (envOK_of base (aC (st174.okl rfl (aC (lC ok_L174_3 rfl) aN)) aN) (aC (oD ok_ref9Less rfl) aN)) (.inl rfl) st174.enters
def ref10Apply (c1:Coll)(o1:Op):Option (Coll×Int) :=
 ob (ref9Check o1) fun r0 =>
 cond (r0 != 0)
 (some (c1,r0))
 (ob (ref7Step c1.v o1.dot) fun r1 =>
 cond (r1.2 != 0)
 (some (c1,r1.2))
 (cond (o1.kind == 1)
 (ob (ref10_set c1.regs o1) fun r2 =>
 some ((Coll.mk r1.1 r2 c1.elems c1.gone c1.sums c1.binds),0))
 (cond (o1.kind == 2)
 (ob (ref10_in c1.gone o1.dot) fun r3 =>
 cond (!r3)
 (ob (ref10_add c1.elems o1) fun r4 =>
 some ((Coll.mk r1.1 c1.regs r4 c1.gone c1.sums c1.binds),0))
 (some ((Coll.mk r1.1 c1.regs c1.elems c1.gone c1.sums c1.binds),0)))
 (cond (o1.kind == 3)
 (ob (ref10_rem (Coll.mk r1.1 c1.regs c1.elems c1.gone c1.sums c1.binds) o1) fun r5 =>
 some (r5,0))
 (cond (o1.kind == 4)
 (ob (ref10_count c1.sums o1) fun r6 =>
 some ((Coll.mk r1.1 c1.regs c1.elems c1.gone r6 c1.binds),0))
 (cond (o1.kind == 5)
 (ob (ref10_bind c1.binds o1) fun r7 =>
 some ((Coll.mk r1.1 c1.regs c1.elems c1.gone c1.sums r7),0))
 (some ((Coll.mk r1.1 c1.regs c1.elems c1.gone c1.sums c1.binds),0))))))))
def un_ref10Apply (p:Coll×Op):Option (Coll×Int):=ref10Apply p.1 p.2
def df_ref10Apply:DFn TL:=DFn.of (DA.cons (DT.agg dc_Coll) (DA.one (DT.agg dc_Op))) un_ref10Apply (DA.cons (DT.agg dc_Coll) (DA.one dI))
theorem run_ref10Apply:DRun [(34,df_ref9Check),(168,df_ref7Step),(169,df_ref10_set),(170,df_ref10_in),(171,df_ref10_add),(172,df_ref10_rem),(173,df_ref10_count),(174,df_ref10_bind)] [] (envOf tab sl sh [(142,fd142)] [(34,.pure),(168,.keep),(169,.keep),(170,.pure),(171,.keep),(172,.keep),(173,.keep),(174,.keep)]) 142 (DA.cons (DT.agg dc_Coll) (DA.one (DT.agg dc_Op))) un_ref10Apply (DA.cons (DT.agg dc_Coll) (DA.one dI)):=fun _=>by kernel_rfl
theorem ok_ref10Apply:DOK PR 142 .keep df_ref10Apply:=dok run_ref10Apply (envOK_of base (aC (st142.okl rfl aN) aN) (aC (oD ok_ref9Check rfl) (aC (oD ok_ref7Step rfl) (aC (oD ok_ref10_set rfl) (aC (oD ok_ref10_in rfl) (aC (oD ok_ref10_add rfl) (aC (oD ok_ref10_rem rfl) (aC (oD ok_ref10_count rfl) (aC (oD ok_ref10_bind rfl) aN))))))))) (.inl rfl) st142.enters
def ref13_include (d1:Desk)(o1:Op):Option (Desk×Int) :=
 ob (ref13_spends o1) fun r0 =>
 cond (r0)
 (ob (ref12Find d1.book o1.dot.device o1.dot.epoch) fun r1 =>
 cond (!r1.2)
 (some (d1,14))
 (ob (ref12Spend r1.1 o1) fun r2 =>
 cond (r2.2 != 0)
 (some (d1,r2.2))
 (ob (ref12Put d1.book r2.1) fun r3 =>
 cond (decide ((d1.log.length:Int)≥2000))
 (some ((Desk.mk r3.1 d1.colls d1.log d1.dev d1.lost d1.now),11))
 (cond (decide (0≤o1.coll) && decide (o1.coll < 3))
 (ob (ref10Apply (Coll.sel (decide (o1.coll=0)) d1.colls.a0 (Coll.mk (cond (decide (o1.coll=1)) d1.colls.a1.v d1.colls.a2.v) (cond (decide (o1.coll=1)) d1.colls.a1.regs d1.colls.a2.regs) (cond (decide (o1.coll=1)) d1.colls.a1.elems d1.colls.a2.elems) (cond (decide (o1.coll=1)) d1.colls.a1.gone d1.colls.a2.gone) (cond (decide (o1.coll=1)) d1.colls.a1.sums d1.colls.a2.sums) (cond (decide (o1.coll=1)) d1.colls.a1.binds d1.colls.a2.binds))) o1) fun r4 =>
 cond (r4.2 != 0)
 (some ((Desk.mk r3.1 d1.colls d1.log d1.dev d1.lost d1.now),r4.2))
 (cond (decide (0≤o1.coll) && decide (o1.coll < 3))
 (cond (fits (([]++o1.dots).length))
 (cond (fits (([]++d1.log).length))
 (cond (fits ((([]++d1.log)++[(Op.mk o1.dot o1.coll o1.ver o1.kind o1.key o1.text o1.n o1.time ([]++o1.dots))]).length))
 (some ((Desk.mk r3.1 (A3Coll.mk (Coll.sel (decide (o1.coll=0)) r4.1 d1.colls.a0) (Coll.sel (decide (o1.coll=1)) r4.1 d1.colls.a1) (Coll.sel (decide (o1.coll=2)) r4.1 d1.colls.a2)) (([]++d1.log)++[(Op.mk o1.dot o1.coll o1.ver o1.kind o1.key o1.text o1.n o1.time ([]++o1.dots))]) d1.dev d1.lost d1.now),0))
 none)
 none)
 none)
 none))
 none))))
 (cond (decide ((d1.log.length:Int)≥2000))
 (some (d1,11))
 (cond (decide (0≤o1.coll) && decide (o1.coll < 3))
 (ob (ref10Apply (Coll.sel (decide (o1.coll=0)) d1.colls.a0 (Coll.mk (cond (decide (o1.coll=1)) d1.colls.a1.v d1.colls.a2.v) (cond (decide (o1.coll=1)) d1.colls.a1.regs d1.colls.a2.regs) (cond (decide (o1.coll=1)) d1.colls.a1.elems d1.colls.a2.elems) (cond (decide (o1.coll=1)) d1.colls.a1.gone d1.colls.a2.gone) (cond (decide (o1.coll=1)) d1.colls.a1.sums d1.colls.a2.sums) (cond (decide (o1.coll=1)) d1.colls.a1.binds d1.colls.a2.binds))) o1) fun r5 =>
 cond (r5.2 != 0)
 (some (d1,r5.2))
 (cond (decide (0≤o1.coll) && decide (o1.coll < 3))
 (cond (fits (([]++o1.dots).length))
 (cond (fits (([]++d1.log).length))
 (cond (fits ((([]++d1.log)++[(Op.mk o1.dot o1.coll o1.ver o1.kind o1.key o1.text o1.n o1.time ([]++o1.dots))]).length))
 (some ((Desk.mk d1.book (A3Coll.mk (Coll.sel (decide (o1.coll=0)) r5.1 d1.colls.a0) (Coll.sel (decide (o1.coll=1)) r5.1 d1.colls.a1) (Coll.sel (decide (o1.coll=2)) r5.1 d1.colls.a2)) (([]++d1.log)++[(Op.mk o1.dot o1.coll o1.ver o1.kind o1.key o1.text o1.n o1.time ([]++o1.dots))]) d1.dev d1.lost d1.now),0))
 none)
 none)
 none)
 none))
 none))
def un_ref13_include (p:Desk×Op):Option (Desk×Int):=ref13_include p.1 p.2
def df_ref13_include:DFn TL:=DFn.of (DA.cons (DT.agg dc_Desk) (DA.one (DT.agg dc_Op))) un_ref13_include (DA.cons (DT.agg dc_Desk) (DA.one dI))
theorem run_ref13_include:DRun [(139,df_ref13_spends),(98,df_ref12Find),(140,df_ref12Spend),(141,df_ref12Put),(142,df_ref10Apply)] [] (envOf tab sl sh [(101,fd101)] [(139,.pure),(98,.keep),(140,.keep),(141,.keep),(142,.keep)]) 101 (DA.cons (DT.agg dc_Desk) (DA.one (DT.agg dc_Op))) un_ref13_include (DA.cons (DT.agg dc_Desk) (DA.one dI)):=fun _=>by kernel_rfl
theorem ok_ref13_include:DOK PR 101 .keep df_ref13_include:=dok run_ref13_include (envOK_of base (aC (st101.okl rfl aN) aN) (aC (oD ok_ref13_spends rfl) (aC (oD ok_ref12Find rfl) (aC (oD ok_ref12Spend rfl) (aC (oD ok_ref12Put rfl) (aC (oD ok_ref10Apply rfl) aN)))))) (.inl rfl) st101.enters
abbrev tY26:=Int×Int×Desk×Cmd×Desk×Reply×Desk
def step_L59_6 (i1:Int)(i2:Int)(d1:Desk)(c1:Cmd)(d2:Desk)(rx1:Reply)(d3:Desk):Option ((tY26)⊕(((Int×Desk×Cmd×Desk×Reply×Desk)⊕(Int×Desk×Cmd×Desk×Reply×Desk×(List Counter)×(List Range)×(List Lease)×(List Int)×(List Entry)×(List Reg)×(List Elem)×(List Entry)×(List Sum)×(List Bind)×(List Entry)×(List Reg)×(List Elem)×(List Entry)×(List Sum)×(List Bind)×(List Entry)×(List Reg)×(List Elem)×(List Entry)×(List Sum)×(List Bind)×(List Op)×(List Slice)×(List Range)×(List Int)×(List Slice)×(List Range)×(List Int)×(List Slice)×(List Range)×(List Int)×(List Slice)×(List Range)×(List Int)×(List Slice)×(List Range)×(List Int)×(List Slice)×(List Range)×(List Int)×(List Entry)×(List Slice)×(List Range)×(List Int))))) :=
 cond (decide (i2 < (c1.ops.length:Int)))
 (cond (decide (0≤i2))
 (ob (c1.ops[i2.toNat]?) fun e0 =>
 ob (ref9Check e0) fun r1 =>
 cond (r1 != 0)
 (ob (ref13_no r1) fun r2 =>
 some (.inr (.inr (i1,d1,c1,d1,r2,d3,d2.book.counters,d2.book.free,d2.book.leases,d2.book.bound,d2.colls.a0.v,d2.colls.a0.regs,d2.colls.a0.elems,d2.colls.a0.gone,d2.colls.a0.sums,d2.colls.a0.binds,d2.colls.a1.v,d2.colls.a1.regs,d2.colls.a1.elems,d2.colls.a1.gone,d2.colls.a1.sums,d2.colls.a1.binds,d2.colls.a2.v,d2.colls.a2.regs,d2.colls.a2.elems,d2.colls.a2.gone,d2.colls.a2.sums,d2.colls.a2.binds,d2.log,d2.dev.a0.reply.lease.slices,d2.dev.a0.reply.lease.ids,d2.dev.a0.reply.lease.used,d2.dev.a1.reply.lease.slices,d2.dev.a1.reply.lease.ids,d2.dev.a1.reply.lease.used,d2.dev.a2.reply.lease.slices,d2.dev.a2.reply.lease.ids,d2.dev.a2.reply.lease.used,d2.dev.a3.reply.lease.slices,d2.dev.a3.reply.lease.ids,d2.dev.a3.reply.lease.used,d2.dev.a4.reply.lease.slices,d2.dev.a4.reply.lease.ids,d2.dev.a4.reply.lease.used,d2.dev.a5.reply.lease.slices,d2.dev.a5.reply.lease.ids,d2.dev.a5.reply.lease.used,d2.lost,rx1.lease.slices,rx1.lease.ids,rx1.lease.used))))
 (cond (cond (e0.dot.device != c1.device) true (e0.dot.epoch != c1.epoch))
 (ob (ref13_no 1) fun r3 =>
 some (.inr (.inr (i1,d1,c1,d1,r3,d3,d2.book.counters,d2.book.free,d2.book.leases,d2.book.bound,d2.colls.a0.v,d2.colls.a0.regs,d2.colls.a0.elems,d2.colls.a0.gone,d2.colls.a0.sums,d2.colls.a0.binds,d2.colls.a1.v,d2.colls.a1.regs,d2.colls.a1.elems,d2.colls.a1.gone,d2.colls.a1.sums,d2.colls.a1.binds,d2.colls.a2.v,d2.colls.a2.regs,d2.colls.a2.elems,d2.colls.a2.gone,d2.colls.a2.sums,d2.colls.a2.binds,d2.log,d2.dev.a0.reply.lease.slices,d2.dev.a0.reply.lease.ids,d2.dev.a0.reply.lease.used,d2.dev.a1.reply.lease.slices,d2.dev.a1.reply.lease.ids,d2.dev.a1.reply.lease.used,d2.dev.a2.reply.lease.slices,d2.dev.a2.reply.lease.ids,d2.dev.a2.reply.lease.used,d2.dev.a3.reply.lease.slices,d2.dev.a3.reply.lease.ids,d2.dev.a3.reply.lease.used,d2.dev.a4.reply.lease.slices,d2.dev.a4.reply.lease.ids,d2.dev.a4.reply.lease.used,d2.dev.a5.reply.lease.slices,d2.dev.a5.reply.lease.ids,d2.dev.a5.reply.lease.used,d2.lost,rx1.lease.slices,rx1.lease.ids,rx1.lease.used))))
 (cond (decide (e0.dot.seq≤i1))
 (some (.inl (i1,(w64 (i2+1)),d1,c1,d2,rx1,d3)))
 (cond (e0.dot.seq != (w64 (i1+1)))
 (ob (ref13_no 12) fun r4 =>
 some (.inr (.inr (i1,d1,c1,d1,r4,d3,d2.book.counters,d2.book.free,d2.book.leases,d2.book.bound,d2.colls.a0.v,d2.colls.a0.regs,d2.colls.a0.elems,d2.colls.a0.gone,d2.colls.a0.sums,d2.colls.a0.binds,d2.colls.a1.v,d2.colls.a1.regs,d2.colls.a1.elems,d2.colls.a1.gone,d2.colls.a1.sums,d2.colls.a1.binds,d2.colls.a2.v,d2.colls.a2.regs,d2.colls.a2.elems,d2.colls.a2.gone,d2.colls.a2.sums,d2.colls.a2.binds,d2.log,d2.dev.a0.reply.lease.slices,d2.dev.a0.reply.lease.ids,d2.dev.a0.reply.lease.used,d2.dev.a1.reply.lease.slices,d2.dev.a1.reply.lease.ids,d2.dev.a1.reply.lease.used,d2.dev.a2.reply.lease.slices,d2.dev.a2.reply.lease.ids,d2.dev.a2.reply.lease.used,d2.dev.a3.reply.lease.slices,d2.dev.a3.reply.lease.ids,d2.dev.a3.reply.lease.used,d2.dev.a4.reply.lease.slices,d2.dev.a4.reply.lease.ids,d2.dev.a4.reply.lease.used,d2.dev.a5.reply.lease.slices,d2.dev.a5.reply.lease.ids,d2.dev.a5.reply.lease.used,d2.lost,rx1.lease.slices,rx1.lease.ids,rx1.lease.used))))
 (ob (ref13_include d3 e0) fun r5 =>
 cond (r5.2 != 0)
 (ob (ref13_no r5.2) fun r6 =>
 some (.inr (.inr (i1,d1,c1,d1,r6,r5.1,d2.book.counters,d2.book.free,d2.book.leases,d2.book.bound,d2.colls.a0.v,d2.colls.a0.regs,d2.colls.a0.elems,d2.colls.a0.gone,d2.colls.a0.sums,d2.colls.a0.binds,d2.colls.a1.v,d2.colls.a1.regs,d2.colls.a1.elems,d2.colls.a1.gone,d2.colls.a1.sums,d2.colls.a1.binds,d2.colls.a2.v,d2.colls.a2.regs,d2.colls.a2.elems,d2.colls.a2.gone,d2.colls.a2.sums,d2.colls.a2.binds,d2.log,d2.dev.a0.reply.lease.slices,d2.dev.a0.reply.lease.ids,d2.dev.a0.reply.lease.used,d2.dev.a1.reply.lease.slices,d2.dev.a1.reply.lease.ids,d2.dev.a1.reply.lease.used,d2.dev.a2.reply.lease.slices,d2.dev.a2.reply.lease.ids,d2.dev.a2.reply.lease.used,d2.dev.a3.reply.lease.slices,d2.dev.a3.reply.lease.ids,d2.dev.a3.reply.lease.used,d2.dev.a4.reply.lease.slices,d2.dev.a4.reply.lease.ids,d2.dev.a4.reply.lease.used,d2.dev.a5.reply.lease.slices,d2.dev.a5.reply.lease.ids,d2.dev.a5.reply.lease.used,d2.lost,rx1.lease.slices,rx1.lease.ids,rx1.lease.used))))
 (some (.inl ((w64 (i1+1)),(w64 (i2+1)),d1,c1,d2,rx1,r5.1))))))))
 none)
 (some (.inr (.inl (i1,d1,c1,d2,rx1,d3))))
def stp_L59_6 (p:tY26):Option ((tY26)⊕(((Int×Desk×Cmd×Desk×Reply×Desk)⊕(Int×Desk×Cmd×Desk×Reply×Desk×(List Counter)×(List Range)×(List Lease)×(List Int)×(List Entry)×(List Reg)×(List Elem)×(List Entry)×(List Sum)×(List Bind)×(List Entry)×(List Reg)×(List Elem)×(List Entry)×(List Sum)×(List Bind)×(List Entry)×(List Reg)×(List Elem)×(List Entry)×(List Sum)×(List Bind)×(List Op)×(List Slice)×(List Range)×(List Int)×(List Slice)×(List Range)×(List Int)×(List Slice)×(List Range)×(List Int)×(List Slice)×(List Range)×(List Int)×(List Slice)×(List Range)×(List Int)×(List Slice)×(List Range)×(List Int)×(List Entry)×(List Slice)×(List Range)×(List Int))))):=step_L59_6 p.1 p.2.1 p.2.2.1 p.2.2.2.1 p.2.2.2.2.1 p.2.2.2.2.2.1 p.2.2.2.2.2.2
def L59_6 (i1:Int)(i2:Int)(d1:Desk)(c1:Cmd)(d2:Desk)(rx1:Reply)(d3:Desk):Option (((Int×Desk×Cmd×Desk×Reply×Desk)⊕(Int×Desk×Cmd×Desk×Reply×Desk×(List Counter)×(List Range)×(List Lease)×(List Int)×(List Entry)×(List Reg)×(List Elem)×(List Entry)×(List Sum)×(List Bind)×(List Entry)×(List Reg)×(List Elem)×(List Entry)×(List Sum)×(List Bind)×(List Entry)×(List Reg)×(List Elem)×(List Entry)×(List Sum)×(List Bind)×(List Op)×(List Slice)×(List Range)×(List Int)×(List Slice)×(List Range)×(List Int)×(List Slice)×(List Range)×(List Int)×(List Slice)×(List Range)×(List Int)×(List Slice)×(List Range)×(List Int)×(List Slice)×(List Range)×(List Int)×(List Entry)×(List Slice)×(List Range)×(List Int)))):=iterO stp_L59_6 (1099511627776) (i1,i2,d1,c1,d2,rx1,d3)
def cc_Cmd:Cod (List (C TL)) Cmd:=kO (kC kJ (kC kJ (kC kJ (kC kJ (kC kJ (kC (kG j_lWant) (kC (kG j_lOp) kN))))))) (fun (z0,z1,z2,z3,z4,z5,z6,_)=>(Cmd.mk z0 z1 z2 z3 z4 z5 z6)) (fun (x:Cmd)=>(x.kind,(x.device,(x.epoch,(x.req,(x.n,(x.wants,(x.ops,())))))))) (fun _=>rfl)
def ch_L59_6:kT (tY26):=kO (kS 50 (kC (kP 0 0) (kC (kP 1 0) (kC (kP 2 0) (kC (kP 3 0) (kC (kP 4 0) (kC kI (kC kI kN))))))) (kC (Cod.var 0 50 cc_Desk) (kC (Cod.var 1 56 cc_Cmd) (kC (Cod.var 2 50 (kC (kA 5) (kC (kA 6) (kC (kA 7) (kC (kA 8) (kC (kA 9) (kC (kA 10) (kC (kA 11) (kC (kA 12) (kC (kA 13) (kC (kA 14) (kC (kA 15) (kC (kA 16) (kC (kA 17) (kC (kA 18) (kC (kA 19) (kC (kA 20) (kC (kA 21) (kC (kA 22) (kC (kA 23) (kC (kA 24) (kC (kA 25) (kC (kA 26) (kC (kA 27) (kC kJ (kC kJ (kC kJ (kC kJ (kC kJ (kC kJ (kC kJ (kC kJ (kC (kA 28) (kC (kA 29) (kC (kA 30) (kC kJ (kC kJ (kC kJ (kC kJ (kC kJ (kC kJ (kC kJ (kC kJ (kC (kA 31) (kC (kA 32) (kC (kA 33) (kC kJ (kC kJ (kC kJ (kC kJ (kC kJ (kC kJ (kC kJ (kC kJ (kC (kA 34) (kC (kA 35) (kC (kA 36) (kC kJ (kC kJ (kC kJ (kC kJ (kC kJ (kC kJ (kC kJ (kC kJ (kC (kA 37) (kC (kA 38) (kC (kA 39) (kC kJ (kC kJ (kC kJ (kC kJ (kC kJ (kC kJ (kC kJ (kC kJ (kC (kA 40) (kC (kA 41) (kC (kA 42) (kC kJ (kC kJ (kC kJ (kC kJ (kC kJ (kC kJ (kC kJ (kC kJ (kC (kA 43) (kC (kA 44) (kC (kA 45) (kC (kA 46) (kC kJ kN)))))))))))))))))))))))))))))))))))))))))))))))))))))))))))))))))))))))))))))))))))))))))))) (kC (Cod.var 3 45 (kC kJ (kC kJ (kC kJ (kC kJ (kC kJ (kC kJ (kC (kA 47) (kC (kA 48) (kC (kA 49) kN)))))))))) (kC (Cod.var 4 50 cc_Desk) (kC (kR 5 65 j_lCounter) (kC (kR 6 153 j_lRange) (kC (kR 7 43 j_lLease) (kC (kR 8 3 j_lInt) (kC (kR 9 66 j_lEntry) (kC (kR 10 142 j_lReg) (kC (kR 11 145 j_lElem) (kC (kR 12 59 j_lEntry) (kC (kR 13 129 j_lSum) (kC (kR 14 149 j_lBind) (kC (kR 15 66 j_lEntry) (kC (kR 16 142 j_lReg) (kC (kR 17 145 j_lElem) (kC (kR 18 59 j_lEntry) (kC (kR 19 129 j_lSum) (kC (kR 20 149 j_lBind) (kC (kR 21 66 j_lEntry) (kC (kR 22 142 j_lReg) (kC (kR 23 145 j_lElem) (kC (kR 24 59 j_lEntry) (kC (kR 25 129 j_lSum) (kC (kR 26 149 j_lBind) (kC (kR 27 61 j_lOp) (kC (kR 28 133 j_lSlice) (kC (kR 29 153 j_lRange) (kC (kR 30 3 j_lInt) (kC (kR 31 133 j_lSlice) (kC (kR 32 153 j_lRange) (kC (kR 33 3 j_lInt) (kC (kR 34 133 j_lSlice) (kC (kR 35 153 j_lRange) (kC (kR 36 3 j_lInt) (kC (kR 37 133 j_lSlice) (kC (kR 38 153 j_lRange) (kC (kR 39 3 j_lInt) (kC (kR 40 133 j_lSlice) (kC (kR 41 153 j_lRange) (kC (kR 42 3 j_lInt) (kC (kR 43 133 j_lSlice) (kC (kR 44 153 j_lRange) (kC (kR 45 3 j_lInt) (kC (kR 46 66 j_lEntry) (kC (kR 47 133 j_lSlice) (kC (kR 48 153 j_lRange) (kC (kR 49 3 j_lInt) kN))))))))))))))))))))))))))))))))))))))))))))))))))) (fun p=>(p.1.2.2.2.2.2.1,p.1.2.2.2.2.2.2.1,p.2.1,p.2.2.1,(Desk.mk (Book.mk p.2.2.2.2.2.2.1 p.2.2.2.2.2.2.2.1 p.2.2.2.2.2.2.2.2.1 (t8 p.2).1) (A3Coll.mk (Coll.mk (t8 p.2).2.1 (t8 p.2).2.2.1 (t8 p.2).2.2.2.1 (t8 p.2).2.2.2.2.1 (t8 p.2).2.2.2.2.2.1 (t8 p.2).2.2.2.2.2.2.1) (Coll.mk (t8 p.2).2.2.2.2.2.2.2.1 (t8 (t8 p.2)).1 (t8 (t8 p.2)).2.1 (t8 (t8 p.2)).2.2.1 (t8 (t8 p.2)).2.2.2.1 (t8 (t8 p.2)).2.2.2.2.1) (Coll.mk (t8 (t8 p.2)).2.2.2.2.2.1 (t8 (t8 p.2)).2.2.2.2.2.2.1 (t8 (t8 p.2)).2.2.2.2.2.2.2.1 (t8 (t8 (t8 p.2))).1 (t8 (t8 (t8 p.2))).2.1 (t8 (t8 (t8 p.2))).2.2.1)) (t8 (t8 (t8 p.2))).2.2.2.1 (A6Device.mk (Device.mk (t8 (t8 p.2.2.2.1)).2.2.2.2.2.2.2.1 (t8 (t8 (t8 p.2.2.2.1))).1 (Reply.mk (t8 (t8 (t8 p.2.2.2.1))).2.1 (t8 (t8 (t8 p.2.2.2.1))).2.2.1 (Lease.mk (t8 (t8 (t8 p.2.2.2.1))).2.2.2.1 (t8 (t8 (t8 p.2.2.2.1))).2.2.2.2.1 (t8 (t8 (t8 p.2.2.2.1))).2.2.2.2.2.1 (t8 (t8 (t8 p.2.2.2.1))).2.2.2.2.2.2.1 (t8 (t8 (t8 p.2))).2.2.2.2.1 (t8 (t8 (t8 p.2))).2.2.2.2.2.1 (t8 (t8 (t8 p.2))).2.2.2.2.2.2.1))) (Device.mk (t32 p.2.2.2.1).2.2.1 (t32 p.2.2.2.1).2.2.2.1 (Reply.mk (t32 p.2.2.2.1).2.2.2.2.1 (t32 p.2.2.2.1).2.2.2.2.2.1 (Lease.mk (t32 p.2.2.2.1).2.2.2.2.2.2.1 (t32 p.2.2.2.1).2.2.2.2.2.2.2.1 (t8 (t32 p.2.2.2.1)).1 (t8 (t32 p.2.2.2.1)).2.1 (t8 (t8 (t8 p.2))).2.2.2.2.2.2.2.1 (t32 p.2).1 (t32 p.2).2.1))) (Device.mk (t8 (t32 p.2.2.2.1)).2.2.2.2.2.1 (t8 (t32 p.2.2.2.1)).2.2.2.2.2.2.1 (Reply.mk (t8 (t32 p.2.2.2.1)).2.2.2.2.2.2.2.1 (t8 (t8 (t32 p.2.2.2.1))).1 (Lease.mk (t8 (t8 (t32 p.2.2.2.1))).2.1 (t8 (t8 (t32 p.2.2.2.1))).2.2.1 (t8 (t8 (t32 p.2.2.2.1))).2.2.2.1 (t8 (t8 (t32 p.2.2.2.1))).2.2.2.2.1 (t32 p.2).2.2.1 (t32 p.2).2.2.2.1 (t32 p.2).2.2.2.2.1))) (Device.mk (t8 (t8 (t8 (t32 p.2.2.2.1)))).1 (t8 (t8 (t8 (t32 p.2.2.2.1)))).2.1 (Reply.mk (t8 (t8 (t8 (t32 p.2.2.2.1)))).2.2.1 (t8 (t8 (t8 (t32 p.2.2.2.1)))).2.2.2.1 (Lease.mk (t8 (t8 (t8 (t32 p.2.2.2.1)))).2.2.2.2.1 (t8 (t8 (t8 (t32 p.2.2.2.1)))).2.2.2.2.2.1 (t8 (t8 (t8 (t32 p.2.2.2.1)))).2.2.2.2.2.2.1 (t8 (t8 (t8 (t32 p.2.2.2.1)))).2.2.2.2.2.2.2.1 (t32 p.2).2.2.2.2.2.1 (t32 p.2).2.2.2.2.2.2.1 (t32 p.2).2.2.2.2.2.2.2.1))) (Device.mk (t32 (t32 p.2.2.2.1)).2.2.2.1 (t32 (t32 p.2.2.2.1)).2.2.2.2.1 (Reply.mk (t32 (t32 p.2.2.2.1)).2.2.2.2.2.1 (t32 (t32 p.2.2.2.1)).2.2.2.2.2.2.1 (Lease.mk (t32 (t32 p.2.2.2.1)).2.2.2.2.2.2.2.1 (t8 (t32 (t32 p.2.2.2.1))).1 (t8 (t32 (t32 p.2.2.2.1))).2.1 (t8 (t32 (t32 p.2.2.2.1))).2.2.1 (t8 (t32 p.2)).1 (t8 (t32 p.2)).2.1 (t8 (t32 p.2)).2.2.1))) (Device.mk (t8 (t32 (t32 p.2.2.2.1))).2.2.2.2.2.2.1 (t8 (t32 (t32 p.2.2.2.1))).2.2.2.2.2.2.2.1 (Reply.mk (t8 (t8 (t32 (t32 p.2.2.2.1)))).1 (t8 (t8 (t32 (t32 p.2.2.2.1)))).2.1 (Lease.mk (t8 (t8 (t32 (t32 p.2.2.2.1)))).2.2.1 (t8 (t8 (t32 (t32 p.2.2.2.1)))).2.2.2.1 (t8 (t8 (t32 (t32 p.2.2.2.1)))).2.2.2.2.1 (t8 (t8 (t32 (t32 p.2.2.2.1)))).2.2.2.2.2.1 (t8 (t32 p.2)).2.2.2.1 (t8 (t32 p.2)).2.2.2.2.1 (t8 (t32 p.2)).2.2.2.2.2.1)))) (t8 (t32 p.2)).2.2.2.2.2.2.1 (t8 (t8 (t8 (t32 (t32 p.2.2.2.1))))).2.2.1),(Reply.mk p.2.2.2.2.1.1 p.2.2.2.2.1.2.1 (Lease.mk p.2.2.2.2.1.2.2.1 p.2.2.2.2.1.2.2.2.1 p.2.2.2.2.1.2.2.2.2.1 p.2.2.2.2.1.2.2.2.2.2.1 (t8 (t32 p.2)).2.2.2.2.2.2.2.1 (t8 (t8 (t32 p.2))).1 (t8 (t8 (t32 p.2))).2.1)),p.2.2.2.2.2.1)) (fun (x:tY26)=>(((),((),((),((),((),(x.1,(x.2.1,()))))))),(x.2.2.1,(x.2.2.2.1,(((),((),((),((),((),((),((),((),((),((),((),((),((),((),((),((),((),((),((),((),((),((),((),(x.2.2.2.2.1.dev.a0.epoch,(x.2.2.2.2.1.dev.a0.req,(x.2.2.2.2.1.dev.a0.reply.err,(x.2.2.2.2.1.dev.a0.reply.n,(x.2.2.2.2.1.dev.a0.reply.lease.device,(x.2.2.2.2.1.dev.a0.reply.lease.epoch,(x.2.2.2.2.1.dev.a0.reply.lease.until_,(x.2.2.2.2.1.dev.a0.reply.lease.last,((),((),((),(x.2.2.2.2.1.dev.a1.epoch,(x.2.2.2.2.1.dev.a1.req,(x.2.2.2.2.1.dev.a1.reply.err,(x.2.2.2.2.1.dev.a1.reply.n,(x.2.2.2.2.1.dev.a1.reply.lease.device,(x.2.2.2.2.1.dev.a1.reply.lease.epoch,(x.2.2.2.2.1.dev.a1.reply.lease.until_,(x.2.2.2.2.1.dev.a1.reply.lease.last,((),((),((),(x.2.2.2.2.1.dev.a2.epoch,(x.2.2.2.2.1.dev.a2.req,(x.2.2.2.2.1.dev.a2.reply.err,(x.2.2.2.2.1.dev.a2.reply.n,(x.2.2.2.2.1.dev.a2.reply.lease.device,(x.2.2.2.2.1.dev.a2.reply.lease.epoch,(x.2.2.2.2.1.dev.a2.reply.lease.until_,(x.2.2.2.2.1.dev.a2.reply.lease.last,((),((),((),(x.2.2.2.2.1.dev.a3.epoch,(x.2.2.2.2.1.dev.a3.req,(x.2.2.2.2.1.dev.a3.reply.err,(x.2.2.2.2.1.dev.a3.reply.n,(x.2.2.2.2.1.dev.a3.reply.lease.device,(x.2.2.2.2.1.dev.a3.reply.lease.epoch,(x.2.2.2.2.1.dev.a3.reply.lease.until_,(x.2.2.2.2.1.dev.a3.reply.lease.last,((),((),((),(x.2.2.2.2.1.dev.a4.epoch,(x.2.2.2.2.1.dev.a4.req,(x.2.2.2.2.1.dev.a4.reply.err,(x.2.2.2.2.1.dev.a4.reply.n,(x.2.2.2.2.1.dev.a4.reply.lease.device,(x.2.2.2.2.1.dev.a4.reply.lease.epoch,(x.2.2.2.2.1.dev.a4.reply.lease.until_,(x.2.2.2.2.1.dev.a4.reply.lease.last,((),((),((),(x.2.2.2.2.1.dev.a5.epoch,(x.2.2.2.2.1.dev.a5.req,(x.2.2.2.2.1.dev.a5.reply.err,(x.2.2.2.2.1.dev.a5.reply.n,(x.2.2.2.2.1.dev.a5.reply.lease.device,(x.2.2.2.2.1.dev.a5.reply.lease.epoch,(x.2.2.2.2.1.dev.a5.reply.lease.until_,(x.2.2.2.2.1.dev.a5.reply.lease.last,((),((),((),((),(x.2.2.2.2.1.now,()))))))))))))))))))))))))))))))))))))))))))))))))))))))))))))))))))))))))))))))))))))))))))),((x.2.2.2.2.2.1.err,(x.2.2.2.2.2.1.n,(x.2.2.2.2.2.1.lease.device,(x.2.2.2.2.2.1.lease.epoch,(x.2.2.2.2.2.1.lease.until_,(x.2.2.2.2.2.1.lease.last,((),((),((),()))))))))),(x.2.2.2.2.2.2,(x.2.2.2.2.1.book.counters,(x.2.2.2.2.1.book.free,(x.2.2.2.2.1.book.leases,(x.2.2.2.2.1.book.bound,(x.2.2.2.2.1.colls.a0.v,(x.2.2.2.2.1.colls.a0.regs,(x.2.2.2.2.1.colls.a0.elems,(x.2.2.2.2.1.colls.a0.gone,(x.2.2.2.2.1.colls.a0.sums,(x.2.2.2.2.1.colls.a0.binds,(x.2.2.2.2.1.colls.a1.v,(x.2.2.2.2.1.colls.a1.regs,(x.2.2.2.2.1.colls.a1.elems,(x.2.2.2.2.1.colls.a1.gone,(x.2.2.2.2.1.colls.a1.sums,(x.2.2.2.2.1.colls.a1.binds,(x.2.2.2.2.1.colls.a2.v,(x.2.2.2.2.1.colls.a2.regs,(x.2.2.2.2.1.colls.a2.elems,(x.2.2.2.2.1.colls.a2.gone,(x.2.2.2.2.1.colls.a2.sums,(x.2.2.2.2.1.colls.a2.binds,(x.2.2.2.2.1.log,(x.2.2.2.2.1.dev.a0.reply.lease.slices,(x.2.2.2.2.1.dev.a0.reply.lease.ids,(x.2.2.2.2.1.dev.a0.reply.lease.used,(x.2.2.2.2.1.dev.a1.reply.lease.slices,(x.2.2.2.2.1.dev.a1.reply.lease.ids,(x.2.2.2.2.1.dev.a1.reply.lease.used,(x.2.2.2.2.1.dev.a2.reply.lease.slices,(x.2.2.2.2.1.dev.a2.reply.lease.ids,(x.2.2.2.2.1.dev.a2.reply.lease.used,(x.2.2.2.2.1.dev.a3.reply.lease.slices,(x.2.2.2.2.1.dev.a3.reply.lease.ids,(x.2.2.2.2.1.dev.a3.reply.lease.used,(x.2.2.2.2.1.dev.a4.reply.lease.slices,(x.2.2.2.2.1.dev.a4.reply.lease.ids,(x.2.2.2.2.1.dev.a4.reply.lease.used,(x.2.2.2.2.1.dev.a5.reply.lease.slices,(x.2.2.2.2.1.dev.a5.reply.lease.ids,(x.2.2.2.2.1.dev.a5.reply.lease.used,(x.2.2.2.2.1.lost,(x.2.2.2.2.2.1.lease.slices,(x.2.2.2.2.2.1.lease.ids,(x.2.2.2.2.2.1.lease.used,())))))))))))))))))))))))))))))))))))))))))))))))))))) (fun _=>rfl)
def co0_L59_6:kT (Int×Desk×Cmd×Desk×Reply×Desk):=kO (kS 100 (kC (kP 2 0) (kC (kP 3 0) (kC (kP 4 0) (kC kI kN)))) (kC (Cod.var 0 50 cc_Desk) (kC (Cod.var 1 56 cc_Cmd) (kC (Cod.var 2 50 (kC (kA 5) (kC (kA 6) (kC (kA 7) (kC (kA 8) (kC (kA 9) (kC (kA 10) (kC (kA 11) (kC (kA 12) (kC (kA 13) (kC (kA 14) (kC (kA 15) (kC (kA 16) (kC (kA 17) (kC (kA 18) (kC (kA 19) (kC (kA 20) (kC (kA 21) (kC (kA 22) (kC (kA 23) (kC (kA 24) (kC (kA 25) (kC (kA 26) (kC (kA 27) (kC kJ (kC kJ (kC kJ (kC kJ (kC kJ (kC kJ (kC kJ (kC kJ (kC (kA 28) (kC (kA 29) (kC (kA 30) (kC kJ (kC kJ (kC kJ (kC kJ (kC kJ (kC kJ (kC kJ (kC kJ (kC (kA 31) (kC (kA 32) (kC (kA 33) (kC kJ (kC kJ (kC kJ (kC kJ (kC kJ (kC kJ (kC kJ (kC kJ (kC (kA 34) (kC (kA 35) (kC (kA 36) (kC kJ (kC kJ (kC kJ (kC kJ (kC kJ (kC kJ (kC kJ (kC kJ (kC (kA 37) (kC (kA 38) (kC (kA 39) (kC kJ (kC kJ (kC kJ (kC kJ (kC kJ (kC kJ (kC kJ (kC kJ (kC (kA 40) (kC (kA 41) (kC (kA 42) (kC kJ (kC kJ (kC kJ (kC kJ (kC kJ (kC kJ (kC kJ (kC kJ (kC (kA 43) (kC (kA 44) (kC (kA 45) (kC (kA 46) (kC kJ kN)))))))))))))))))))))))))))))))))))))))))))))))))))))))))))))))))))))))))))))))))))))))))))) (kC (Cod.var 3 45 (kC kJ (kC kJ (kC kJ (kC kJ (kC kJ (kC kJ (kC (kA 47) (kC (kA 48) (kC (kA 49) kN)))))))))) (kC (Cod.var 4 50 cc_Desk) (kC (kR 5 65 j_lCounter) (kC (kR 6 153 j_lRange) (kC (kR 7 43 j_lLease) (kC (kR 8 3 j_lInt) (kC (kR 9 66 j_lEntry) (kC (kR 10 142 j_lReg) (kC (kR 11 145 j_lElem) (kC (kR 12 59 j_lEntry) (kC (kR 13 129 j_lSum) (kC (kR 14 149 j_lBind) (kC (kR 15 66 j_lEntry) (kC (kR 16 142 j_lReg) (kC (kR 17 145 j_lElem) (kC (kR 18 59 j_lEntry) (kC (kR 19 129 j_lSum) (kC (kR 20 149 j_lBind) (kC (kR 21 66 j_lEntry) (kC (kR 22 142 j_lReg) (kC (kR 23 145 j_lElem) (kC (kR 24 59 j_lEntry) (kC (kR 25 129 j_lSum) (kC (kR 26 149 j_lBind) (kC (kR 27 61 j_lOp) (kC (kR 28 133 j_lSlice) (kC (kR 29 153 j_lRange) (kC (kR 30 3 j_lInt) (kC (kR 31 133 j_lSlice) (kC (kR 32 153 j_lRange) (kC (kR 33 3 j_lInt) (kC (kR 34 133 j_lSlice) (kC (kR 35 153 j_lRange) (kC (kR 36 3 j_lInt) (kC (kR 37 133 j_lSlice) (kC (kR 38 153 j_lRange) (kC (kR 39 3 j_lInt) (kC (kR 40 133 j_lSlice) (kC (kR 41 153 j_lRange) (kC (kR 42 3 j_lInt) (kC (kR 43 133 j_lSlice) (kC (kR 44 153 j_lRange) (kC (kR 45 3 j_lInt) (kC (kR 46 66 j_lEntry) (kC (kR 47 133 j_lSlice) (kC (kR 48 153 j_lRange) (kC (kR 49 3 j_lInt) kN))))))))))))))))))))))))))))))))))))))))))))))))))) (fun p=>(p.1.2.2.2.1,p.2.1,p.2.2.1,(Desk.mk (Book.mk p.2.2.2.2.2.2.1 p.2.2.2.2.2.2.2.1 p.2.2.2.2.2.2.2.2.1 (t8 p.2).1) (A3Coll.mk (Coll.mk (t8 p.2).2.1 (t8 p.2).2.2.1 (t8 p.2).2.2.2.1 (t8 p.2).2.2.2.2.1 (t8 p.2).2.2.2.2.2.1 (t8 p.2).2.2.2.2.2.2.1) (Coll.mk (t8 p.2).2.2.2.2.2.2.2.1 (t8 (t8 p.2)).1 (t8 (t8 p.2)).2.1 (t8 (t8 p.2)).2.2.1 (t8 (t8 p.2)).2.2.2.1 (t8 (t8 p.2)).2.2.2.2.1) (Coll.mk (t8 (t8 p.2)).2.2.2.2.2.1 (t8 (t8 p.2)).2.2.2.2.2.2.1 (t8 (t8 p.2)).2.2.2.2.2.2.2.1 (t8 (t8 (t8 p.2))).1 (t8 (t8 (t8 p.2))).2.1 (t8 (t8 (t8 p.2))).2.2.1)) (t8 (t8 (t8 p.2))).2.2.2.1 (A6Device.mk (Device.mk (t8 (t8 p.2.2.2.1)).2.2.2.2.2.2.2.1 (t8 (t8 (t8 p.2.2.2.1))).1 (Reply.mk (t8 (t8 (t8 p.2.2.2.1))).2.1 (t8 (t8 (t8 p.2.2.2.1))).2.2.1 (Lease.mk (t8 (t8 (t8 p.2.2.2.1))).2.2.2.1 (t8 (t8 (t8 p.2.2.2.1))).2.2.2.2.1 (t8 (t8 (t8 p.2.2.2.1))).2.2.2.2.2.1 (t8 (t8 (t8 p.2.2.2.1))).2.2.2.2.2.2.1 (t8 (t8 (t8 p.2))).2.2.2.2.1 (t8 (t8 (t8 p.2))).2.2.2.2.2.1 (t8 (t8 (t8 p.2))).2.2.2.2.2.2.1))) (Device.mk (t32 p.2.2.2.1).2.2.1 (t32 p.2.2.2.1).2.2.2.1 (Reply.mk (t32 p.2.2.2.1).2.2.2.2.1 (t32 p.2.2.2.1).2.2.2.2.2.1 (Lease.mk (t32 p.2.2.2.1).2.2.2.2.2.2.1 (t32 p.2.2.2.1).2.2.2.2.2.2.2.1 (t8 (t32 p.2.2.2.1)).1 (t8 (t32 p.2.2.2.1)).2.1 (t8 (t8 (t8 p.2))).2.2.2.2.2.2.2.1 (t32 p.2).1 (t32 p.2).2.1))) (Device.mk (t8 (t32 p.2.2.2.1)).2.2.2.2.2.1 (t8 (t32 p.2.2.2.1)).2.2.2.2.2.2.1 (Reply.mk (t8 (t32 p.2.2.2.1)).2.2.2.2.2.2.2.1 (t8 (t8 (t32 p.2.2.2.1))).1 (Lease.mk (t8 (t8 (t32 p.2.2.2.1))).2.1 (t8 (t8 (t32 p.2.2.2.1))).2.2.1 (t8 (t8 (t32 p.2.2.2.1))).2.2.2.1 (t8 (t8 (t32 p.2.2.2.1))).2.2.2.2.1 (t32 p.2).2.2.1 (t32 p.2).2.2.2.1 (t32 p.2).2.2.2.2.1))) (Device.mk (t8 (t8 (t8 (t32 p.2.2.2.1)))).1 (t8 (t8 (t8 (t32 p.2.2.2.1)))).2.1 (Reply.mk (t8 (t8 (t8 (t32 p.2.2.2.1)))).2.2.1 (t8 (t8 (t8 (t32 p.2.2.2.1)))).2.2.2.1 (Lease.mk (t8 (t8 (t8 (t32 p.2.2.2.1)))).2.2.2.2.1 (t8 (t8 (t8 (t32 p.2.2.2.1)))).2.2.2.2.2.1 (t8 (t8 (t8 (t32 p.2.2.2.1)))).2.2.2.2.2.2.1 (t8 (t8 (t8 (t32 p.2.2.2.1)))).2.2.2.2.2.2.2.1 (t32 p.2).2.2.2.2.2.1 (t32 p.2).2.2.2.2.2.2.1 (t32 p.2).2.2.2.2.2.2.2.1))) (Device.mk (t32 (t32 p.2.2.2.1)).2.2.2.1 (t32 (t32 p.2.2.2.1)).2.2.2.2.1 (Reply.mk (t32 (t32 p.2.2.2.1)).2.2.2.2.2.1 (t32 (t32 p.2.2.2.1)).2.2.2.2.2.2.1 (Lease.mk (t32 (t32 p.2.2.2.1)).2.2.2.2.2.2.2.1 (t8 (t32 (t32 p.2.2.2.1))).1 (t8 (t32 (t32 p.2.2.2.1))).2.1 (t8 (t32 (t32 p.2.2.2.1))).2.2.1 (t8 (t32 p.2)).1 (t8 (t32 p.2)).2.1 (t8 (t32 p.2)).2.2.1))) (Device.mk (t8 (t32 (t32 p.2.2.2.1))).2.2.2.2.2.2.1 (t8 (t32 (t32 p.2.2.2.1))).2.2.2.2.2.2.2.1 (Reply.mk (t8 (t8 (t32 (t32 p.2.2.2.1)))).1 (t8 (t8 (t32 (t32 p.2.2.2.1)))).2.1 (Lease.mk (t8 (t8 (t32 (t32 p.2.2.2.1)))).2.2.1 (t8 (t8 (t32 (t32 p.2.2.2.1)))).2.2.2.1 (t8 (t8 (t32 (t32 p.2.2.2.1)))).2.2.2.2.1 (t8 (t8 (t32 (t32 p.2.2.2.1)))).2.2.2.2.2.1 (t8 (t32 p.2)).2.2.2.1 (t8 (t32 p.2)).2.2.2.2.1 (t8 (t32 p.2)).2.2.2.2.2.1)))) (t8 (t32 p.2)).2.2.2.2.2.2.1 (t8 (t8 (t8 (t32 (t32 p.2.2.2.1))))).2.2.1),(Reply.mk p.2.2.2.2.1.1 p.2.2.2.2.1.2.1 (Lease.mk p.2.2.2.2.1.2.2.1 p.2.2.2.2.1.2.2.2.1 p.2.2.2.2.1.2.2.2.2.1 p.2.2.2.2.1.2.2.2.2.2.1 (t8 (t32 p.2)).2.2.2.2.2.2.2.1 (t8 (t8 (t32 p.2))).1 (t8 (t8 (t32 p.2))).2.1)),p.2.2.2.2.2.1)) (fun (x:Int×Desk×Cmd×Desk×Reply×Desk)=>(((),((),((),(x.1,())))),(x.2.1,(x.2.2.1,(((),((),((),((),((),((),((),((),((),((),((),((),((),((),((),((),((),((),((),((),((),((),((),(x.2.2.2.1.dev.a0.epoch,(x.2.2.2.1.dev.a0.req,(x.2.2.2.1.dev.a0.reply.err,(x.2.2.2.1.dev.a0.reply.n,(x.2.2.2.1.dev.a0.reply.lease.device,(x.2.2.2.1.dev.a0.reply.lease.epoch,(x.2.2.2.1.dev.a0.reply.lease.until_,(x.2.2.2.1.dev.a0.reply.lease.last,((),((),((),(x.2.2.2.1.dev.a1.epoch,(x.2.2.2.1.dev.a1.req,(x.2.2.2.1.dev.a1.reply.err,(x.2.2.2.1.dev.a1.reply.n,(x.2.2.2.1.dev.a1.reply.lease.device,(x.2.2.2.1.dev.a1.reply.lease.epoch,(x.2.2.2.1.dev.a1.reply.lease.until_,(x.2.2.2.1.dev.a1.reply.lease.last,((),((),((),(x.2.2.2.1.dev.a2.epoch,(x.2.2.2.1.dev.a2.req,(x.2.2.2.1.dev.a2.reply.err,(x.2.2.2.1.dev.a2.reply.n,(x.2.2.2.1.dev.a2.reply.lease.device,(x.2.2.2.1.dev.a2.reply.lease.epoch,(x.2.2.2.1.dev.a2.reply.lease.until_,(x.2.2.2.1.dev.a2.reply.lease.last,((),((),((),(x.2.2.2.1.dev.a3.epoch,(x.2.2.2.1.dev.a3.req,(x.2.2.2.1.dev.a3.reply.err,(x.2.2.2.1.dev.a3.reply.n,(x.2.2.2.1.dev.a3.reply.lease.device,(x.2.2.2.1.dev.a3.reply.lease.epoch,(x.2.2.2.1.dev.a3.reply.lease.until_,(x.2.2.2.1.dev.a3.reply.lease.last,((),((),((),(x.2.2.2.1.dev.a4.epoch,(x.2.2.2.1.dev.a4.req,(x.2.2.2.1.dev.a4.reply.err,(x.2.2.2.1.dev.a4.reply.n,(x.2.2.2.1.dev.a4.reply.lease.device,(x.2.2.2.1.dev.a4.reply.lease.epoch,(x.2.2.2.1.dev.a4.reply.lease.until_,(x.2.2.2.1.dev.a4.reply.lease.last,((),((),((),(x.2.2.2.1.dev.a5.epoch,(x.2.2.2.1.dev.a5.req,(x.2.2.2.1.dev.a5.reply.err,(x.2.2.2.1.dev.a5.reply.n,(x.2.2.2.1.dev.a5.reply.lease.device,(x.2.2.2.1.dev.a5.reply.lease.epoch,(x.2.2.2.1.dev.a5.reply.lease.until_,(x.2.2.2.1.dev.a5.reply.lease.last,((),((),((),((),(x.2.2.2.1.now,()))))))))))))))))))))))))))))))))))))))))))))))))))))))))))))))))))))))))))))))))))))))))))),((x.2.2.2.2.1.err,(x.2.2.2.2.1.n,(x.2.2.2.2.1.lease.device,(x.2.2.2.2.1.lease.epoch,(x.2.2.2.2.1.lease.until_,(x.2.2.2.2.1.lease.last,((),((),((),()))))))))),(x.2.2.2.2.2,(x.2.2.2.1.book.counters,(x.2.2.2.1.book.free,(x.2.2.2.1.book.leases,(x.2.2.2.1.book.bound,(x.2.2.2.1.colls.a0.v,(x.2.2.2.1.colls.a0.regs,(x.2.2.2.1.colls.a0.elems,(x.2.2.2.1.colls.a0.gone,(x.2.2.2.1.colls.a0.sums,(x.2.2.2.1.colls.a0.binds,(x.2.2.2.1.colls.a1.v,(x.2.2.2.1.colls.a1.regs,(x.2.2.2.1.colls.a1.elems,(x.2.2.2.1.colls.a1.gone,(x.2.2.2.1.colls.a1.sums,(x.2.2.2.1.colls.a1.binds,(x.2.2.2.1.colls.a2.v,(x.2.2.2.1.colls.a2.regs,(x.2.2.2.1.colls.a2.elems,(x.2.2.2.1.colls.a2.gone,(x.2.2.2.1.colls.a2.sums,(x.2.2.2.1.colls.a2.binds,(x.2.2.2.1.log,(x.2.2.2.1.dev.a0.reply.lease.slices,(x.2.2.2.1.dev.a0.reply.lease.ids,(x.2.2.2.1.dev.a0.reply.lease.used,(x.2.2.2.1.dev.a1.reply.lease.slices,(x.2.2.2.1.dev.a1.reply.lease.ids,(x.2.2.2.1.dev.a1.reply.lease.used,(x.2.2.2.1.dev.a2.reply.lease.slices,(x.2.2.2.1.dev.a2.reply.lease.ids,(x.2.2.2.1.dev.a2.reply.lease.used,(x.2.2.2.1.dev.a3.reply.lease.slices,(x.2.2.2.1.dev.a3.reply.lease.ids,(x.2.2.2.1.dev.a3.reply.lease.used,(x.2.2.2.1.dev.a4.reply.lease.slices,(x.2.2.2.1.dev.a4.reply.lease.ids,(x.2.2.2.1.dev.a4.reply.lease.used,(x.2.2.2.1.dev.a5.reply.lease.slices,(x.2.2.2.1.dev.a5.reply.lease.ids,(x.2.2.2.1.dev.a5.reply.lease.used,(x.2.2.2.1.lost,(x.2.2.2.2.1.lease.slices,(x.2.2.2.2.1.lease.ids,(x.2.2.2.2.1.lease.used,())))))))))))))))))))))))))))))))))))))))))))))))))))) (fun _=>rfl)
def co1_L59_6:kT (Int×Desk×Cmd×Desk×Reply×Desk×(List Counter)×(List Range)×(List Lease)×(List Int)×(List Entry)×(List Reg)×(List Elem)×(List Entry)×(List Sum)×(List Bind)×(List Entry)×(List Reg)×(List Elem)×(List Entry)×(List Sum)×(List Bind)×(List Entry)×(List Reg)×(List Elem)×(List Entry)×(List Sum)×(List Bind)×(List Op)×(List Slice)×(List Range)×(List Int)×(List Slice)×(List Range)×(List Int)×(List Slice)×(List Range)×(List Int)×(List Slice)×(List Range)×(List Int)×(List Slice)×(List Range)×(List Int)×(List Slice)×(List Range)×(List Int)×(List Entry)×(List Slice)×(List Range)×(List Int)):=kO (kS 100 (kC (kP 2 0) (kC (kP 3 0) (kC (kP 4 0) (kC kI kN)))) (kC (Cod.var 0 50 cc_Desk) (kC (Cod.var 1 56 cc_Cmd) (kC (Cod.var 2 50 cc_Desk) (kC (Cod.var 3 45 cc_Reply) (kC (Cod.var 4 50 cc_Desk) (kC (kR 5 65 j_lCounter) (kC (kR 6 153 j_lRange) (kC (kR 7 43 j_lLease) (kC (kR 8 3 j_lInt) (kC (kR 9 66 j_lEntry) (kC (kR 10 142 j_lReg) (kC (kR 11 145 j_lElem) (kC (kR 12 59 j_lEntry) (kC (kR 13 129 j_lSum) (kC (kR 14 149 j_lBind) (kC (kR 15 66 j_lEntry) (kC (kR 16 142 j_lReg) (kC (kR 17 145 j_lElem) (kC (kR 18 59 j_lEntry) (kC (kR 19 129 j_lSum) (kC (kR 20 149 j_lBind) (kC (kR 21 66 j_lEntry) (kC (kR 22 142 j_lReg) (kC (kR 23 145 j_lElem) (kC (kR 24 59 j_lEntry) (kC (kR 25 129 j_lSum) (kC (kR 26 149 j_lBind) (kC (kR 27 61 j_lOp) (kC (kR 28 133 j_lSlice) (kC (kR 29 153 j_lRange) (kC (kR 30 3 j_lInt) (kC (kR 31 133 j_lSlice) (kC (kR 32 153 j_lRange) (kC (kR 33 3 j_lInt) (kC (kR 34 133 j_lSlice) (kC (kR 35 153 j_lRange) (kC (kR 36 3 j_lInt) (kC (kR 37 133 j_lSlice) (kC (kR 38 153 j_lRange) (kC (kR 39 3 j_lInt) (kC (kR 40 133 j_lSlice) (kC (kR 41 153 j_lRange) (kC (kR 42 3 j_lInt) (kC (kR 43 133 j_lSlice) (kC (kR 44 153 j_lRange) (kC (kR 45 3 j_lInt) (kC (kR 46 66 j_lEntry) (kC (kR 47 133 j_lSlice) (kC (kR 48 153 j_lRange) (kC (kR 49 3 j_lInt) kN))))))))))))))))))))))))))))))))))))))))))))))))))) (fun p=>(p.1.2.2.2.1,p.2.1,p.2.2.1,p.2.2.2.1,p.2.2.2.2.1,p.2.2.2.2.2.1,p.2.2.2.2.2.2.1,p.2.2.2.2.2.2.2.1,p.2.2.2.2.2.2.2.2.1,(t8 p.2).1,(t8 p.2).2.1,(t8 p.2).2.2.1,(t8 p.2).2.2.2.1,(t8 p.2).2.2.2.2.1,(t8 p.2).2.2.2.2.2.1,(t8 p.2).2.2.2.2.2.2.1,(t8 p.2).2.2.2.2.2.2.2.1,(t8 (t8 p.2)).1,(t8 (t8 p.2)).2.1,(t8 (t8 p.2)).2.2.1,(t8 (t8 p.2)).2.2.2.1,(t8 (t8 p.2)).2.2.2.2.1,(t8 (t8 p.2)).2.2.2.2.2.1,(t8 (t8 p.2)).2.2.2.2.2.2.1,(t8 (t8 p.2)).2.2.2.2.2.2.2.1,(t8 (t8 (t8 p.2))).1,(t8 (t8 (t8 p.2))).2.1,(t8 (t8 (t8 p.2))).2.2.1,(t8 (t8 (t8 p.2))).2.2.2.1,(t8 (t8 (t8 p.2))).2.2.2.2.1,(t8 (t8 (t8 p.2))).2.2.2.2.2.1,(t8 (t8 (t8 p.2))).2.2.2.2.2.2.1,(t8 (t8 (t8 p.2))).2.2.2.2.2.2.2.1,(t32 p.2).1,(t32 p.2).2.1,(t32 p.2).2.2.1,(t32 p.2).2.2.2.1,(t32 p.2).2.2.2.2.1,(t32 p.2).2.2.2.2.2.1,(t32 p.2).2.2.2.2.2.2.1,(t32 p.2).2.2.2.2.2.2.2.1,(t8 (t32 p.2)).1,(t8 (t32 p.2)).2.1,(t8 (t32 p.2)).2.2.1,(t8 (t32 p.2)).2.2.2.1,(t8 (t32 p.2)).2.2.2.2.1,(t8 (t32 p.2)).2.2.2.2.2.1,(t8 (t32 p.2)).2.2.2.2.2.2.1,(t8 (t32 p.2)).2.2.2.2.2.2.2.1,(t8 (t8 (t32 p.2))).1,(t8 (t8 (t32 p.2))).2.1)) (fun (x:Int×Desk×Cmd×Desk×Reply×Desk×(List Counter)×(List Range)×(List Lease)×(List Int)×(List Entry)×(List Reg)×(List Elem)×(List Entry)×(List Sum)×(List Bind)×(List Entry)×(List Reg)×(List Elem)×(List Entry)×(List Sum)×(List Bind)×(List Entry)×(List Reg)×(List Elem)×(List Entry)×(List Sum)×(List Bind)×(List Op)×(List Slice)×(List Range)×(List Int)×(List Slice)×(List Range)×(List Int)×(List Slice)×(List Range)×(List Int)×(List Slice)×(List Range)×(List Int)×(List Slice)×(List Range)×(List Int)×(List Slice)×(List Range)×(List Int)×(List Entry)×(List Slice)×(List Range)×(List Int))=>(((),((),((),(x.1,())))),(x.2.1,(x.2.2.1,(x.2.2.2.1,(x.2.2.2.2.1,(x.2.2.2.2.2.1,(x.2.2.2.2.2.2.1,(x.2.2.2.2.2.2.2.1,(x.2.2.2.2.2.2.2.2.1,(x.2.2.2.2.2.2.2.2.2.1,(x.2.2.2.2.2.2.2.2.2.2.1,(x.2.2.2.2.2.2.2.2.2.2.2.1,(x.2.2.2.2.2.2.2.2.2.2.2.2.1,(x.2.2.2.2.2.2.2.2.2.2.2.2.2.1,(x.2.2.2.2.2.2.2.2.2.2.2.2.2.2.1,(x.2.2.2.2.2.2.2.2.2.2.2.2.2.2.2.1,(x.2.2.2.2.2.2.2.2.2.2.2.2.2.2.2.2.1,(x.2.2.2.2.2.2.2.2.2.2.2.2.2.2.2.2.2.1,(x.2.2.2.2.2.2.2.2.2.2.2.2.2.2.2.2.2.2.1,(x.2.2.2.2.2.2.2.2.2.2.2.2.2.2.2.2.2.2.2.1,(x.2.2.2.2.2.2.2.2.2.2.2.2.2.2.2.2.2.2.2.2.1,(x.2.2.2.2.2.2.2.2.2.2.2.2.2.2.2.2.2.2.2.2.2.1,(x.2.2.2.2.2.2.2.2.2.2.2.2.2.2.2.2.2.2.2.2.2.2.1,(x.2.2.2.2.2.2.2.2.2.2.2.2.2.2.2.2.2.2.2.2.2.2.2.1,(x.2.2.2.2.2.2.2.2.2.2.2.2.2.2.2.2.2.2.2.2.2.2.2.2.1,(x.2.2.2.2.2.2.2.2.2.2.2.2.2.2.2.2.2.2.2.2.2.2.2.2.2.1,(x.2.2.2.2.2.2.2.2.2.2.2.2.2.2.2.2.2.2.2.2.2.2.2.2.2.2.1,(x.2.2.2.2.2.2.2.2.2.2.2.2.2.2.2.2.2.2.2.2.2.2.2.2.2.2.2.1,(x.2.2.2.2.2.2.2.2.2.2.2.2.2.2.2.2.2.2.2.2.2.2.2.2.2.2.2.2.1,(x.2.2.2.2.2.2.2.2.2.2.2.2.2.2.2.2.2.2.2.2.2.2.2.2.2.2.2.2.2.1,(x.2.2.2.2.2.2.2.2.2.2.2.2.2.2.2.2.2.2.2.2.2.2.2.2.2.2.2.2.2.2.1,(x.2.2.2.2.2.2.2.2.2.2.2.2.2.2.2.2.2.2.2.2.2.2.2.2.2.2.2.2.2.2.2.1,(x.2.2.2.2.2.2.2.2.2.2.2.2.2.2.2.2.2.2.2.2.2.2.2.2.2.2.2.2.2.2.2.2.1,(x.2.2.2.2.2.2.2.2.2.2.2.2.2.2.2.2.2.2.2.2.2.2.2.2.2.2.2.2.2.2.2.2.2.1,(x.2.2.2.2.2.2.2.2.2.2.2.2.2.2.2.2.2.2.2.2.2.2.2.2.2.2.2.2.2.2.2.2.2.2.1,(x.2.2.2.2.2.2.2.2.2.2.2.2.2.2.2.2.2.2.2.2.2.2.2.2.2.2.2.2.2.2.2.2.2.2.2.1,(x.2.2.2.2.2.2.2.2.2.2.2.2.2.2.2.2.2.2.2.2.2.2.2.2.2.2.2.2.2.2.2.2.2.2.2.2.1,(x.2.2.2.2.2.2.2.2.2.2.2.2.2.2.2.2.2.2.2.2.2.2.2.2.2.2.2.2.2.2.2.2.2.2.2.2.2.1,(x.2.2.2.2.2.2.2.2.2.2.2.2.2.2.2.2.2.2.2.2.2.2.2.2.2.2.2.2.2.2.2.2.2.2.2.2.2.2.1,(x.2.2.2.2.2.2.2.2.2.2.2.2.2.2.2.2.2.2.2.2.2.2.2.2.2.2.2.2.2.2.2.2.2.2.2.2.2.2.2.1,(x.2.2.2.2.2.2.2.2.2.2.2.2.2.2.2.2.2.2.2.2.2.2.2.2.2.2.2.2.2.2.2.2.2.2.2.2.2.2.2.2.1,(x.2.2.2.2.2.2.2.2.2.2.2.2.2.2.2.2.2.2.2.2.2.2.2.2.2.2.2.2.2.2.2.2.2.2.2.2.2.2.2.2.2.1,(x.2.2.2.2.2.2.2.2.2.2.2.2.2.2.2.2.2.2.2.2.2.2.2.2.2.2.2.2.2.2.2.2.2.2.2.2.2.2.2.2.2.2.1,(x.2.2.2.2.2.2.2.2.2.2.2.2.2.2.2.2.2.2.2.2.2.2.2.2.2.2.2.2.2.2.2.2.2.2.2.2.2.2.2.2.2.2.2.1,(x.2.2.2.2.2.2.2.2.2.2.2.2.2.2.2.2.2.2.2.2.2.2.2.2.2.2.2.2.2.2.2.2.2.2.2.2.2.2.2.2.2.2.2.2.1,(x.2.2.2.2.2.2.2.2.2.2.2.2.2.2.2.2.2.2.2.2.2.2.2.2.2.2.2.2.2.2.2.2.2.2.2.2.2.2.2.2.2.2.2.2.2.1,(x.2.2.2.2.2.2.2.2.2.2.2.2.2.2.2.2.2.2.2.2.2.2.2.2.2.2.2.2.2.2.2.2.2.2.2.2.2.2.2.2.2.2.2.2.2.2.1,(x.2.2.2.2.2.2.2.2.2.2.2.2.2.2.2.2.2.2.2.2.2.2.2.2.2.2.2.2.2.2.2.2.2.2.2.2.2.2.2.2.2.2.2.2.2.2.2.1,(x.2.2.2.2.2.2.2.2.2.2.2.2.2.2.2.2.2.2.2.2.2.2.2.2.2.2.2.2.2.2.2.2.2.2.2.2.2.2.2.2.2.2.2.2.2.2.2.2.1,(x.2.2.2.2.2.2.2.2.2.2.2.2.2.2.2.2.2.2.2.2.2.2.2.2.2.2.2.2.2.2.2.2.2.2.2.2.2.2.2.2.2.2.2.2.2.2.2.2.2.1,(x.2.2.2.2.2.2.2.2.2.2.2.2.2.2.2.2.2.2.2.2.2.2.2.2.2.2.2.2.2.2.2.2.2.2.2.2.2.2.2.2.2.2.2.2.2.2.2.2.2.2,())))))))))))))))))))))))))))))))))))))))))))))))))))) (fun _=>rfl)
def sl_L59_6:SFn TL:=SFn.two ch_L59_6.dec (fun p=>L59_6 p.1 p.2.1 p.2.2.1 p.2.2.2.1 p.2.2.2.2.1 p.2.2.2.2.2.1 p.2.2.2.2.2.2) (.exit 0) .ret co0_L59_6.enc co1_L59_6.enc
def cs_lL59_6:cL:=[(34,df_ref9Check),(57,df_ref13_no),(101,df_ref13_include)]
def v_L59_6:Env:=envOf tab sl sh [] [(34,.pure),(57,.keep),(101,.keep)]
theorem v_L59_6_ok:EnvOK PR (mkD cs_lL59_6 sZ) v_L59_6:=envOK_of base aN (aC (oD ok_ref9Check rfl) (aC (oD ok_ref13_no rfl) (aC (oD ok_ref13_include rfl) aN)))
theorem run_L59_6 (x:tY26):Out.run (mkO cs_lL59_6 sZ) (evRound v_L59_6 12 20 fd59.an q_L59_6 (loopIn (loopsOf fd59.body) 6) (ch_L59_6.enc x)) (back2 ch_L59_6 co0_L59_6 co1_L59_6 (.exit 0) .ret)=stp_L59_6 x:=by kernel_rfl
theorem ok_L59_6:LoopOK PR (oneS sl_L59_6) nt59 q_L59_6 (loopIn (loopsOf fd59.body) 6) :=
  loop_two v_L59_6_ok (loops:=12) (k:=20) (an:=fd59.an) (by kernel_rfl) (FnSt.subl rfl st59.keys (aC (.inl (by kernel_rfl)) aN)) ch_L59_6 co0_L59_6 co1_L59_6 (.exit 0) .ret rfl rfl stp_L59_6 _ run_L59_6 (fun x y h=>⟨_,h⟩) (fun _=>below_iff.1 rfl)
def ref13_merge (d1:Desk)(c1:Cmd):Option (Desk×Reply) :=
 cond (decide ((c1.ops.length:Int) > 20))
 (ob (ref13_no 4) fun r0 =>
 some (d1,r0))
 (ob (ref13Included d1 c1.device c1.epoch) fun r1 =>
 ob (L59_6 r1 0 d1 c1 (Desk.mk (Book.mk [] [] [] []) (A3Coll.mk (Coll.mk [] [] [] [] [] []) (Coll.mk [] [] [] [] [] []) (Coll.mk [] [] [] [] [] [])) [] (A6Device.mk (Device.mk 0 0 (Reply.mk 0 0 (Lease.mk 0 0 0 0 [] [] []))) (Device.mk 0 0 (Reply.mk 0 0 (Lease.mk 0 0 0 0 [] [] []))) (Device.mk 0 0 (Reply.mk 0 0 (Lease.mk 0 0 0 0 [] [] []))) (Device.mk 0 0 (Reply.mk 0 0 (Lease.mk 0 0 0 0 [] [] []))) (Device.mk 0 0 (Reply.mk 0 0 (Lease.mk 0 0 0 0 [] [] []))) (Device.mk 0 0 (Reply.mk 0 0 (Lease.mk 0 0 0 0 [] [] [])))) [] 0) (Reply.mk 0 0 (Lease.mk 0 0 0 0 [] [] [])) d1) fun y2 =>
 two y2 (fun a3 =>
 some (a3.2.2.2.2.2,(Reply.mk 0 a3.1 (Lease.mk 0 0 0 0 [] [] [])))) (fun b4 =>
 some (b4.2.2.2.1,b4.2.2.2.2.1)))
def un_ref13_merge (p:Desk×Cmd):Option (Desk×Reply):=ref13_merge p.1 p.2
def df_ref13_merge:DFn TL:=DFn.of (DA.cons (DT.agg dc_Desk) (DA.one (DT.agg dc_Cmd))) un_ref13_merge (DA.cons (DT.agg dc_Desk) (DA.one (DT.agg dc_Reply)))
theorem run_ref13_merge:DRun [(57,df_ref13_no),(54,df_ref13Included)] [(159006,sl_L59_6)] (envOf tab sl sh [(59,fd59)] [(57,.keep),(54,.pure)]) 59 (DA.cons (DT.agg dc_Desk) (DA.one (DT.agg dc_Cmd))) un_ref13_merge (DA.cons (DT.agg dc_Desk) (DA.one (DT.agg dc_Reply))):=fun _=>by kernel_rfl
theorem ok_ref13_merge:DOK PR 59 .keep df_ref13_merge:=dok run_ref13_merge (envOK_of base (aC (st59.okl rfl (aC (lC ok_L59_6 rfl) aN)) aN) (aC (oD ok_ref13_no rfl) (aC (oD ok_ref13Included rfl) aN))) (.inl rfl) st59.enters
abbrev tY27:=Int×Int×Book×Book×Lease
def step_L102_6 (i1:Int)(i2:Int)(bx1:Book)(bx2:Book)(lx1:Lease):Option ((tY27)⊕(Int×Book×Book×Lease)) :=
 cond (decide (i2 < (lx1.slices.length:Int)))
 (cond (decide (0≤i2))
 (ob (lx1.slices[i2.toNat]?) fun e0 =>
 ob (ref12_place bx1 e0.key) fun r1 =>
 cond (decide (r1≥0))
 (cond (decide (0≤r1))
 (cond (decide (r1 < (bx1.counters.length:Int)))
 (ob (bx1.counters[r1.toNat]?) fun e2 =>
 cond (decide (0≤i2))
 (ob (lx1.slices[i2.toNat]?) fun e3 =>
 cond (decide (0≤i2))
 (ob (lx1.slices[i2.toNat]?) fun e4 =>
 cond (decide (0≤r1))
 (cond (decide (r1 < (bx1.counters.length:Int)))
 (ob (bx1.counters[r1.toNat]?) fun e5 =>
 cond (decide (0≤r1))
 (cond (decide (r1 < ((bx1.counters.set r1.toNat (Counter.mk e5.key e5.coll e5.lo e5.hi e5.start (w64 ((w64 (e2.up_+e3.up_)) - e4.usedUp)) e5.down_)).length:Int)))
 (ob ((bx1.counters.set r1.toNat (Counter.mk e5.key e5.coll e5.lo e5.hi e5.start (w64 ((w64 (e2.up_+e3.up_)) - e4.usedUp)) e5.down_))[r1.toNat]?) fun e6 =>
 cond (decide (0≤i2))
 (ob (lx1.slices[i2.toNat]?) fun e7 =>
 cond (decide (0≤i2))
 (ob (lx1.slices[i2.toNat]?) fun e8 =>
 cond (decide (0≤r1))
 (cond (decide (r1 < ((bx1.counters.set r1.toNat (Counter.mk e5.key e5.coll e5.lo e5.hi e5.start (w64 ((w64 (e2.up_+e3.up_)) - e4.usedUp)) e5.down_)).length:Int)))
 (ob ((bx1.counters.set r1.toNat (Counter.mk e5.key e5.coll e5.lo e5.hi e5.start (w64 ((w64 (e2.up_+e3.up_)) - e4.usedUp)) e5.down_))[r1.toNat]?) fun e9 =>
 some (.inl (i1,(w64 (i2+1)),(Book.mk ((bx1.counters.set r1.toNat (Counter.mk e5.key e5.coll e5.lo e5.hi e5.start (w64 ((w64 (e2.up_+e3.up_)) - e4.usedUp)) e5.down_)).set r1.toNat (Counter.mk e9.key e9.coll e9.lo e9.hi e9.start e9.up_ (w64 ((w64 (e6.down_+e7.down_)) - e8.usedDown)))) bx1.free bx1.leases bx1.bound),bx2,lx1)))
 none)
 none)
 none)
 none)
 none)
 none)
 none)
 none)
 none)
 none)
 none)
 none)
 (some (.inl (i1,(w64 (i2+1)),bx1,bx2,lx1))))
 none)
 (some (.inr (i1,bx1,bx2,lx1)))
def stp_L102_6 (p:tY27):Option ((tY27)⊕(Int×Book×Book×Lease)):=step_L102_6 p.1 p.2.1 p.2.2.1 p.2.2.2.1 p.2.2.2.2
def L102_6 (i1:Int)(i2:Int)(bx1:Book)(bx2:Book)(lx1:Lease):Option (Int×Book×Book×Lease):=iterO stp_L102_6 (1099511627776) (i1,i2,bx1,bx2,lx1)
def ch_L102_6:kT (tY27):=kO (kS 8 (kC kI (kC (kP 0 0) (kC (kP 1 0) (kC (kP 2 0) (kC kI kN))))) (kC (Cod.var 0 29 (kC (kA 3) (kC (kG j_lRange) (kC (kG j_lLease) (kC (kG j_lInt) kN))))) (kC (Cod.var 1 29 (kC (kA 4) (kC (kA 5) (kC (kA 6) (kC (kA 7) kN))))) (kC (Cod.var 2 43 cc_Lease) (kC (kR 3 65 j_lCounter) (kC (kR 4 65 j_lCounter) (kC (kR 5 153 j_lRange) (kC (kR 6 43 j_lLease) (kC (kR 7 3 j_lInt) kN))))))))) (fun ((z0,_,_,_,z1,_),(_,z2,z3,z4,_),_,z5,z6,z7,z8,z9,z10,_)=>(z0,z1,(Book.mk z6 z2 z3 z4),(Book.mk z7 z8 z9 z10),z5)) (fun (x:tY27)=>((x.1,((),((),((),(x.2.1,()))))),(((),(x.2.2.1.free,(x.2.2.1.leases,(x.2.2.1.bound,())))),(((),((),((),((),())))),(x.2.2.2.2,(x.2.2.1.counters,(x.2.2.2.1.counters,(x.2.2.2.1.free,(x.2.2.2.1.leases,(x.2.2.2.1.bound,())))))))))) (fun _=>rfl)
def co0_L102_6:kT (Int×Book×Book×Lease):=kO (kS 16 (kC kI (kC (kP 0 0) (kC (kP 1 0) (kC (kP 2 0) kN)))) (kC (Cod.var 0 29 (kC (kA 3) (kC (kG j_lRange) (kC (kG j_lLease) (kC (kG j_lInt) kN))))) (kC (Cod.var 1 29 (kC (kA 4) (kC (kA 5) (kC (kA 6) (kC (kA 7) kN))))) (kC (Cod.var 2 43 cc_Lease) (kC (kR 3 65 j_lCounter) (kC (kR 4 65 j_lCounter) (kC (kR 5 153 j_lRange) (kC (kR 6 43 j_lLease) (kC (kR 7 3 j_lInt) kN))))))))) (fun ((z0,_),(_,z1,z2,z3,_),_,z4,z5,z6,z7,z8,z9,_)=>(z0,(Book.mk z5 z1 z2 z3),(Book.mk z6 z7 z8 z9),z4)) (fun (x:Int×Book×Book×Lease)=>((x.1,((),((),((),())))),(((),(x.2.1.free,(x.2.1.leases,(x.2.1.bound,())))),(((),((),((),((),())))),(x.2.2.2,(x.2.1.counters,(x.2.2.1.counters,(x.2.2.1.free,(x.2.2.1.leases,(x.2.2.1.bound,())))))))))) (fun _=>rfl)
def sl_L102_6:SFn TL:=SFn.one ch_L102_6.dec (fun p=>L102_6 p.1 p.2.1 p.2.2.1 p.2.2.2.1 p.2.2.2.2) (.exit 0) co0_L102_6.enc
def cs_lL102_6:cL:=[(44,df_ref12_place)]
def v_L102_6:Env:=envOf tab sl sh [] [(44,.pure)]
theorem v_L102_6_ok:EnvOK PR (mkD cs_lL102_6 sZ) v_L102_6:=envOK_of base aN (aC (oD ok_ref12_place rfl) aN)
theorem run_L102_6 (x:tY27):Out.run (mkO cs_lL102_6 sZ) (evRound v_L102_6 12 20 fd102.an q_L102_6 (loopIn (loopsOf fd102.body) 6) (ch_L102_6.enc x)) (back ch_L102_6 co0_L102_6 fun e=>exE e (.exit 0))=stp_L102_6 x:=by kernel_rfl
theorem ok_L102_6:LoopOK PR (oneS sl_L102_6) nt102 q_L102_6 (loopIn (loopsOf fd102.body) 6) :=
  loop_one v_L102_6_ok (loops:=12) (k:=20) (an:=fd102.an) (by kernel_rfl) (FnSt.subl rfl st102.keys (aC (.inl (by kernel_rfl)) (aC (.inl (by kernel_rfl)) (aC (.inl (by kernel_rfl)) aN)))) ch_L102_6 co0_L102_6 (.exit 0) rfl stp_L102_6 _ run_L102_6 (fun x y h=>⟨_,h⟩) (fun _=>below_iff.1 rfl)
end
end Go.Proofs.YtcjpeijiaojeiaaGreat
