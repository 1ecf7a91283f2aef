/- By program (gen.py): the functions in their typed form. -/
import Derived.Test.YthhfjodcgibhfaaGreatF0
import Derived.Test.YthhfjodcgibhfaaGreatLb
namespace Go.Proofs.YthhfjodcgibhfaaGreat
open Go Go.Ev
set_option maxRecDepth 1000000
noncomputable section
abbrev tY18:=Int×(List Op)×Int×Int×Coll×Coll
def step_L21_5 (i1:Int)(l1:List Op)(i2:Int)(i3:Int)(c1:Coll)(c2:Coll):Option ((tY18)⊕(Coll×Coll)) :=
 cond (decide (i3 < i2))
 (cond (decide (0≤i3))
 (ob (l1[i3.toNat]?) fun e0 =>
 cond (e0.coll != i1)
 (some (.inl (i1,l1,i2,(w64 (i3+1)),c1,c2)))
 (ob (apply_ c2 e0) fun r1 =>
 cond (r1.2 == 0)
 (some (.inl (i1,l1,i2,(w64 (i3+1)),c1,r1.1)))
 (some (.inl (i1,l1,i2,(w64 (i3+1)),c1,c2)))))
 none)
 (some (.inr (c1,c2)))
def stp_L21_5 (p:tY18):Option ((tY18)⊕(Coll×Coll)):=step_L21_5 p.1 p.2.1 p.2.2.1 p.2.2.2.1 p.2.2.2.2.1 p.2.2.2.2.2
def L21_5 (i1:Int)(l1:List Op)(i2:Int)(i3:Int)(c1:Coll)(c2:Coll):Option (Coll×Coll):=iterO stp_L21_5 ((i2 - i3).toNat+2) (i1,l1,i2,i3,c1,c2)
def ch_L21_5:kT (tY18):=kO (kS 8 (kC kI (kC (kP 0 0) (kC (kP 1 0) (kC (kF j_lOp) (kC kI (kC kI kN)))))) (kC (Cod.var 0 36 (kC (kA 2) (kC (kA 3) (kC (kA 4) (kC (kA 5) (kC (kA 6) (kC (kA 7) kN))))))) (kC (Cod.var 1 36 cc_Coll) (kC (kR 2 112 j_lDot) (kC (kR 3 103 j_lReg) (kC (kR 4 100 j_lElem) (kC (kR 5 48 j_lDot) (kC (kR 6 118 j_lSum) (kC (kR 7 121 j_lBind) kN))))))))) (fun ((z0,_,_,z1,z2,z3,_),_,z4,z5,z6,z7,z8,z9,z10,_)=>(z0,z1,z2,z3,(Coll.mk z5 z6 z7 z8 z9 z10),z4)) (fun (x:tY18)=>((x.1,((),((),(x.2.1,(x.2.2.1,(x.2.2.2.1,())))))),(((),((),((),((),((),((),())))))),(x.2.2.2.2.2,(x.2.2.2.2.1.v,(x.2.2.2.2.1.regs,(x.2.2.2.2.1.elems,(x.2.2.2.2.1.gone,(x.2.2.2.2.1.sums,(x.2.2.2.2.1.binds,())))))))))) (fun _=>rfl)
def co0_L21_5:kT (Coll×Coll):=kO (kS 16 (kC (kP 0 0) (kC (kP 1 0) kN)) (kC (Cod.var 0 36 (kC (kA 2) (kC (kA 3) (kC (kA 4) (kC (kA 5) (kC (kA 6) (kC (kA 7) kN))))))) (kC (Cod.var 1 36 cc_Coll) (kC (kR 2 112 j_lDot) (kC (kR 3 103 j_lReg) (kC (kR 4 100 j_lElem) (kC (kR 5 48 j_lDot) (kC (kR 6 118 j_lSum) (kC (kR 7 121 j_lBind) kN))))))))) (fun (_,_,z0,z1,z2,z3,z4,z5,z6,_)=>((Coll.mk z1 z2 z3 z4 z5 z6),z0)) (fun (x:Coll×Coll)=>(((),((),())),(((),((),((),((),((),((),())))))),(x.2,(x.1.v,(x.1.regs,(x.1.elems,(x.1.gone,(x.1.sums,(x.1.binds,())))))))))) (fun _=>rfl)
def sl_L21_5:SFn TL:=SFn.one ch_L21_5.dec (fun p=>L21_5 p.1 p.2.1 p.2.2.1 p.2.2.2.1 p.2.2.2.2.1 p.2.2.2.2.2) (.exit 0) co0_L21_5.enc
def cs_lL21_5:cL:=[(26,df_apply_)]
def v_L21_5:Env:=envOf tab sl sh [] [(26,.keep)]
theorem v_L21_5_ok:EnvOK PR (mkD cs_lL21_5 sZ) v_L21_5:=envOK_of base aN (aC (oD ok_apply_ rfl) aN)
theorem run_L21_5 (x:tY18):Out.run (mkO cs_lL21_5 sZ) (evRound v_L21_5 12 20 fd21.an q_L21_5 (loopIn (loopsOf fd21.body) 5) (ch_L21_5.enc x)) (back ch_L21_5 co0_L21_5 fun e=>exE e (.exit 0))=stp_L21_5 x:=by kernel_rfl
theorem ok_L21_5:LoopOK PR (oneS sl_L21_5) nt21 q_L21_5 (loopIn (loopsOf fd21.body) 5) :=
  loop_one v_L21_5_ok (loops:=12) (k:=20) (an:=fd21.an) (by kernel_rfl) (FnSt.subl rfl st21.keys (aC (.inl (by kernel_rfl)) aN)) ch_L21_5 co0_L21_5 (.exit 0) rfl stp_L21_5 _ run_L21_5 (fun x y h=>⟨_,h⟩) (fun _=>below_iff.1 rfl)
def view (sx1:State)(i1:Int):Option Coll :=
 cond (cond (decide (i1 < 0)) true (decide (i1≥3)))
 (some (Coll.mk [] [] [] [] [] []))
 (cond (decide (i1=0))
 (ob (L21_5 i1 sx1.pending (sx1.pending.length:Int) 0 (Coll.mk [] [] [] [] [] []) sx1.colls.a0) fun y0 =>
 ob (collection y0.2) fun y1 =>
 some y1)
 (cond (decide (i1=1))
 (ob (L21_5 i1 sx1.pending (sx1.pending.length:Int) 0 (Coll.mk [] [] [] [] [] []) sx1.colls.a1) fun y2 =>
 ob (collection y2.2) fun y3 =>
 some y3)
 (cond (decide (i1=2))
 (ob (L21_5 i1 sx1.pending (sx1.pending.length:Int) 0 (Coll.mk [] [] [] [] [] []) sx1.colls.a2) fun y4 =>
 ob (collection y4.2) fun y5 =>
 some y5)
 none)))
def un_view (p:State×Int):Option Coll:=view p.1 p.2
def df_view:DFn TL:=DFn.of (DA.cons (DT.agg dc_State) (DA.one dI)) un_view (DA.one (DT.agg dc_Coll))
theorem run_view:DRun [] [(44,sf_collection),(121005,sl_L21_5)] (envOf tab sl sh [(21,fd21)] [(44,.sum)]) 21 (DA.cons (DT.agg dc_State) (DA.one dI)) un_view (DA.one (DT.agg dc_Coll)):=fun _=>by kernel_rfl
theorem ok_view:DOK PR 21 .keep df_view:=dok run_view (envOK_of base (aC (st21.okl rfl (aC (lC ok_L21_5 rfl) aN)) aN) (aC (okS rfl ok_collection) aN)) (.inl rfl) st21.enters
def do_ (sx1:State)(o1:Op):Option (State×Int) :=
 cond (sx1.epoch == 0)
 (ob (localOwn sx1) fun y0 =>
 some (y0,2))
 (cond (sx1.fenced)
 (ob (localOwn sx1) fun y1 =>
 some (y1,16))
 (cond (decide ((sx1.pending.length:Int)≥200))
 (ob (localOwn sx1) fun y2 =>
 some (y2,17))
 (cond (decide (sx1.seq≥1073741824))
 (ob (localOwn sx1) fun y3 =>
 some (y3,11))
 (cond (cond (o1.kind == 3) (cond (decide (o1.coll≥0)) (decide (o1.coll < 3)) false) false)
 (ob (view sx1 o1.coll) fun r4 =>
 ob (collDots r4 o1.key o1.text) fun r5 =>
 cond (decide (0≤(min2 (r5.length:Int) 8)))
 (cond (decide ((min2 (r5.length:Int) 8)=(min2 (r5.length:Int) 8)))
 (cond (decide ((min2 (r5.length:Int) 8)≤(r5.length:Int)))
 (cond (fits ((r5.take (((min2 (r5.length:Int) 8)).toNat)).length))
 (ob (opsCheck (Op.mk (Dot.mk sx1.device sx1.epoch (w64 (sx1.seq+1))) o1.coll sx1.ver o1.kind o1.key o1.text o1.n sx1.now (r5.take (((min2 (r5.length:Int) 8)).toNat)))) fun r6 =>
 cond (r6 != 0)
 (ob (localOwn sx1) fun y7 =>
 some (y7,r6))
 (cond (cond (o1.kind != 4) (o1.kind != 5) false)
 (ob (localOwn sx1) fun y9 =>
 cond (fits ((y9.pending++[(Op.mk (Dot.mk sx1.device sx1.epoch (w64 (sx1.seq+1))) o1.coll sx1.ver o1.kind o1.key o1.text o1.n sx1.now (r5.take (((min2 (r5.length:Int) 8)).toNat)))]).length))
 (ob (localOwn (State.mk y9.device y9.epoch sx1.lease y9.ends (w64 (y9.seq+1)) y9.sent (y9.pending++[(Op.mk (Dot.mk sx1.device sx1.epoch (w64 (sx1.seq+1))) o1.coll sx1.ver o1.kind o1.key o1.text o1.n sx1.now (r5.take (((min2 (r5.length:Int) 8)).toNat)))]) y9.colls y9.at_ y9.ver y9.subs y9.req y9.asked y9.cmd y9.fenced y9.now)) fun y10 =>
 some (y10,0))
 none)
 (cond (!(sx1.lease.epoch != 0))
 (ob (localOwn sx1) fun y11 =>
 some (y11,14))
 (cond (cond (decide (sx1.now≥sx1.ends)) true (sx1.lease.last != (-1)))
 (ob (localOwn sx1) fun y12 =>
 some (y12,15))
 (ob (spend sx1.lease (Op.mk (Dot.mk sx1.device sx1.epoch (w64 (sx1.seq+1))) o1.coll sx1.ver o1.kind o1.key o1.text o1.n sx1.now (r5.take (((min2 (r5.length:Int) 8)).toNat)))) fun r8 =>
 cond (r8.2 != 0)
 (ob (localOwn sx1) fun y13 =>
 some (y13,r8.2))
 (ob (localOwn sx1) fun y14 =>
 cond (fits ((y14.pending++[(Op.mk (Dot.mk sx1.device sx1.epoch (w64 (sx1.seq+1))) o1.coll sx1.ver o1.kind o1.key o1.text o1.n sx1.now (r5.take (((min2 (r5.length:Int) 8)).toNat)))]).length))
 (ob (localOwn (State.mk y14.device y14.epoch r8.1 y14.ends (w64 (y14.seq+1)) y14.sent (y14.pending++[(Op.mk (Dot.mk sx1.device sx1.epoch (w64 (sx1.seq+1))) o1.coll sx1.ver o1.kind o1.key o1.text o1.n sx1.now (r5.take (((min2 (r5.length:Int) 8)).toNat)))]) y14.colls y14.at_ y14.ver y14.subs y14.req y14.asked y14.cmd y14.fenced y14.now)) fun y15 =>
 some (y15,0))
 none))))))
 none)
 none)
 none)
 none)
 (ob (opsCheck (Op.mk (Dot.mk sx1.device sx1.epoch (w64 (sx1.seq+1))) o1.coll sx1.ver o1.kind o1.key o1.text o1.n sx1.now [])) fun r16 =>
 cond (r16 != 0)
 (ob (localOwn sx1) fun y17 =>
 some (y17,r16))
 (cond (cond (o1.kind != 4) (o1.kind != 5) false)
 (ob (localOwn sx1) fun y19 =>
 cond (fits ((y19.pending++[(Op.mk (Dot.mk sx1.device sx1.epoch (w64 (sx1.seq+1))) o1.coll sx1.ver o1.kind o1.key o1.text o1.n sx1.now [])]).length))
 (ob (localOwn (State.mk y19.device y19.epoch sx1.lease y19.ends (w64 (y19.seq+1)) y19.sent (y19.pending++[(Op.mk (Dot.mk sx1.device sx1.epoch (w64 (sx1.seq+1))) o1.coll sx1.ver o1.kind o1.key o1.text o1.n sx1.now [])]) y19.colls y19.at_ y19.ver y19.subs y19.req y19.asked y19.cmd y19.fenced y19.now)) fun y20 =>
 some (y20,0))
 none)
 (cond (!(sx1.lease.epoch != 0))
 (ob (localOwn sx1) fun y21 =>
 some (y21,14))
 (cond (cond (decide (sx1.now≥sx1.ends)) true (sx1.lease.last != (-1)))
 (ob (localOwn sx1) fun y22 =>
 some (y22,15))
 (ob (spend sx1.lease (Op.mk (Dot.mk sx1.device sx1.epoch (w64 (sx1.seq+1))) o1.coll sx1.ver o1.kind o1.key o1.text o1.n sx1.now [])) fun r18 =>
 cond (r18.2 != 0)
 (ob (localOwn sx1) fun y23 =>
 some (y23,r18.2))
 (ob (localOwn sx1) fun y24 =>
 cond (fits ((y24.pending++[(Op.mk (Dot.mk sx1.device sx1.epoch (w64 (sx1.seq+1))) o1.coll sx1.ver o1.kind o1.key o1.text o1.n sx1.now [])]).length))
 (ob (localOwn (State.mk y24.device y24.epoch r18.1 y24.ends (w64 (y24.seq+1)) y24.sent (y24.pending++[(Op.mk (Dot.mk sx1.device sx1.epoch (w64 (sx1.seq+1))) o1.coll sx1.ver o1.kind o1.key o1.text o1.n sx1.now [])]) y24.colls y24.at_ y24.ver y24.subs y24.req y24.asked y24.cmd y24.fenced y24.now)) fun y25 =>
 some (y25,0))
 none))))))))))
def un_do_ (p:State×Op):Option (State×Int):=do_ p.1 p.2
def df_do_:DFn TL:=DFn.of (DA.cons (DT.agg dc_State) (DA.one (DT.agg dc_Op))) un_do_ (DA.cons (DT.agg dc_State) (DA.one dI))
theorem run_do_:DRun [(21,df_view),(40,df_collDots),(42,df_opsCheck),(75,df_spend)] [(24,sf_localOwn)] (envOf tab sl sh [(18,fd18),(43,fd43),(66,fd66)] [(24,.sum),(21,.keep),(40,.keep),(41,(.cln 48)),(42,.pure),(75,.keep)]) 18 (DA.cons (DT.agg dc_State) (DA.one (DT.agg dc_Op))) un_do_ (DA.cons (DT.agg dc_State) (DA.one dI)):=fun _=>by kernel_rfl
theorem ok_do_:DOK PR 18 .keep df_do_:=dok run_do_ (envOK_of base (aC (st18.okl rfl aN) (aC (st43.okl rfl aN) (aC (st66.okl rfl aN) aN))) (aC (okS rfl ok_localOwn) (aC (oD ok_view rfl) (aC (oD ok_collDots rfl) (aC (okCln okI_41) (aC (oD ok_opsCheck rfl) (aC (oD ok_spend rfl) aN))))))) (.inl rfl) st18.enters
abbrev tY19:=(List Op)×Int×Int×Int×Op
def step_L27b_2 (l1:List Op)(i1:Int)(i2:Int)(i3:Int)(o1:Op):Option ((tY19)⊕(((Int×Op×(List Op))⊕(Int×Op×(List Op))))) :=
 cond (decide (i3 < i2))
 (cond (decide (0≤i3))
 (cond (decide (i3 < (l1.length:Int)))
 (ob (l1[i3.toNat]?) fun e0 =>
 cond (cond (e0.dot.device == o1.dot.device) (cond (e0.dot.epoch == o1.dot.epoch) (cond (e0.dot.seq == o1.dot.seq) true false) false) false)
 (some (.inr (.inr (i3,o1,l1))))
 (some (.inl (l1,i1,i2,(w64 (i3+1)),o1))))
 none)
 none)
 (some (.inr (.inl (i1,o1,l1))))
def stp_L27b_2 (p:tY19):Option ((tY19)⊕(((Int×Op×(List Op))⊕(Int×Op×(List Op))))):=step_L27b_2 p.1 p.2.1 p.2.2.1 p.2.2.2.1 p.2.2.2.2
def L27b_2 (l1:List Op)(i1:Int)(i2:Int)(i3:Int)(o1:Op):Option (((Int×Op×(List Op))⊕(Int×Op×(List Op)))):=iterO stp_L27b_2 ((i2 - i3).toNat+2) (l1,i1,i2,i3,o1)
def ch_L27b_2:kT (tY19):=kO (kS 2 (kC (Cod.xs (Cod.sc (kA 0))) (kC (Cod.xs (Cod.sc (Cod.clo 28 [] [(1,0)]))) (kC kI (kC kI (kC kI kN))))) (kC (kR 0 50 j_lOp) (kC (Cod.var 1 50 cc_Op) kN))) (fun ((_,_,z0,z1,z2,_),z3,z4,_)=>(z3,z0,z1,z2,z4)) (fun (x:tY19)=>(((),((),(x.2.1,(x.2.2.1,(x.2.2.2.1,()))))),(x.1,(x.2.2.2.2,())))) (fun _=>rfl)
def co0_L27b_2:kT (Int×Op×(List Op)):=kO (kS 4 (kC kI kN) (kC (kR 0 50 j_lOp) (kC (Cod.var 1 50 cc_Op) kN))) (fun p=>(p.1.1,p.2.2.1,p.2.1)) (fun (x:Int×Op×(List Op))=>((x.1,()),(x.2.2,(x.2.1,())))) (fun _=>rfl)
def sl_L27b_2:SFn TL:=SFn.two ch_L27b_2.dec (fun p=>L27b_2 p.1 p.2.1 p.2.2.1 p.2.2.2.1 p.2.2.2.2) (.exit 0) .ret co0_L27b_2.enc co0_L27b_2.enc
def v_L27b_2:Env:=envOf tab sl sh [(28,fd28)] []
theorem v_L27b_2_ok:EnvOK PR (mkD cZ sZ) v_L27b_2:=envOK_of base (aC (st28.okl rfl aN) aN) aN
theorem run_L27b_2 (x:tY19):Out.run (mkO cZ sZ) (evRound v_L27b_2 12 20 fd27b.an q_L27b_2 (loopIn (loopsOf fd27b.body) 2) (ch_L27b_2.enc x)) (back2 ch_L27b_2 co0_L27b_2 co0_L27b_2 (.exit 0) .ret)=stp_L27b_2 x:=by kernel_rfl
theorem ok_L27b_2:LoopOK PR (oneS sl_L27b_2) nt27 q_L27b_2 (loopIn (loopsOf fd27b.body) 2) :=
  loop_two v_L27b_2_ok (loops:=12) (k:=20) (an:=fd27b.an) (by kernel_rfl) (FnSt.subl rfl st27b.keys (aC (.inl (by kernel_rfl)) aN)) ch_L27b_2 co0_L27b_2 co0_L27b_2 (.exit 0) .ret rfl rfl stp_L27b_2 _ run_L27b_2 (fun x y h=>⟨_,h⟩) (fun _=>below_iff.1 rfl)
abbrev tY20:=Int×Int×(List Op)×Int×Int×State×State×State
def step_L12_7 (i1:Int)(i2:Int)(l1:List Op)(i3:Int)(i4:Int)(sx1:State)(sx2:State)(sx3:State):Option ((tY20)⊕(((Int×Int×State×State×State)⊕(Int×Int×State×State×State×(List Slice)×(List Range)×(List Int)×(List Op)×(List Bool)×(List Want)×(List Op))))) :=
 cond (decide (i4 < i3))
 (cond (decide (0≤i4))
 (ob (l1[i4.toNat]?) fun e0 =>
 cond (decide (e0.coll≥0))
 (cond (decide (e0.coll < (sx3.subs.length:Int)))
 (cond (decide (0≤e0.coll))
 (cond (decide (e0.coll < (sx3.subs.length:Int)))
 (ob (sx3.subs[e0.coll.toNat]?) fun e1 =>
 cond (!e1)
 (ob (localOwn sx1) fun y2 =>
 some (.inr (.inr (i1,1,sx1,y2,sx3,sx2.lease.slices,sx2.lease.ids,sx2.lease.used,sx2.pending,sx2.subs,sx2.cmd.wants,sx2.cmd.ops))))
 (cond (decide (e0.coll≥3))
 (ob (localOwn sx1) fun y3 =>
 some (.inr (.inr (i1,1,sx1,y3,sx3,sx2.lease.slices,sx2.lease.ids,sx2.lease.used,sx2.pending,sx2.subs,sx2.cmd.wants,sx2.cmd.ops))))
 (cond (decide (e0.ver > sx3.ver))
 (ob (localOwn sx1) fun y6 =>
 some (.inr (.inr (i1,13,sx1,y6,sx3,sx2.lease.slices,sx2.lease.ids,sx2.lease.used,sx2.pending,sx2.subs,sx2.cmd.wants,sx2.cmd.ops))))
 (cond (decide (e0.coll=0))
 (ob (apply_ sx3.colls.a0 e0) fun r7 =>
 cond (r7.2 != 0)
 (ob (localOwn sx1) fun y10 =>
 some (.inr (.inr (i1,r7.2,sx1,y10,sx3,sx2.lease.slices,sx2.lease.ids,sx2.lease.used,sx2.pending,sx2.subs,sx2.cmd.wants,sx2.cmd.ops))))
 (cond (decide (e0.coll=0))
 (ob (L27b_2 sx3.pending 0 (sx3.pending.length:Int) 0 e0) fun y11 =>
 two y11 (fun a12 =>
 some (.inl (i1,i2,l1,i3,(w64 (i4+1)),sx1,sx2,(State.mk sx3.device sx3.epoch sx3.lease sx3.ends sx3.seq sx3.sent a12.2.2 (A3Coll.mk r7.1 sx3.colls.a1 sx3.colls.a2) sx3.at_ sx3.ver sx3.subs sx3.req sx3.asked sx3.cmd sx3.fenced sx3.now)))) (fun b13 =>
 cond (decide (b13.1≥0))
 (cond (decide (0≤b13.1))
 (cond (decide (b13.1≤(w64 (b13.1+1))))
 (cond (decide ((w64 (b13.1+1))≤(b13.2.2.length:Int)))
 (cond (fits b13.2.2.length)
 (some (.inl (i1,i2,l1,i3,(w64 (i4+1)),sx1,sx2,(State.mk sx3.device sx3.epoch sx3.lease sx3.ends sx3.seq (max2 sx3.sent b13.2.1.dot.seq) ((b13.2.2.take b13.1.toNat)++((b13.2.2.take b13.2.2.length).drop (((w64 (b13.1+1))).toNat))) (A3Coll.mk r7.1 sx3.colls.a1 sx3.colls.a2) sx3.at_ sx3.ver sx3.subs sx3.req sx3.asked sx3.cmd sx3.fenced sx3.now))))
 none)
 none)
 none)
 none)
 (some (.inl (i1,i2,l1,i3,(w64 (i4+1)),sx1,sx2,(State.mk sx3.device sx3.epoch sx3.lease sx3.ends sx3.seq sx3.sent b13.2.2 (A3Coll.mk r7.1 sx3.colls.a1 sx3.colls.a2) sx3.at_ sx3.ver sx3.subs sx3.req sx3.asked sx3.cmd sx3.fenced sx3.now))))))
 (cond (decide (e0.coll=1))
 (ob (L27b_2 sx3.pending 0 (sx3.pending.length:Int) 0 e0) fun y14 =>
 two y14 (fun a15 =>
 some (.inl (i1,i2,l1,i3,(w64 (i4+1)),sx1,sx2,(State.mk sx3.device sx3.epoch sx3.lease sx3.ends sx3.seq sx3.sent a15.2.2 (A3Coll.mk sx3.colls.a0 r7.1 sx3.colls.a2) sx3.at_ sx3.ver sx3.subs sx3.req sx3.asked sx3.cmd sx3.fenced sx3.now)))) (fun b16 =>
 cond (decide (b16.1≥0))
 (cond (decide (0≤b16.1))
 (cond (decide (b16.1≤(w64 (b16.1+1))))
 (cond (decide ((w64 (b16.1+1))≤(b16.2.2.length:Int)))
 (cond (fits b16.2.2.length)
 (some (.inl (i1,i2,l1,i3,(w64 (i4+1)),sx1,sx2,(State.mk sx3.device sx3.epoch sx3.lease sx3.ends sx3.seq (max2 sx3.sent b16.2.1.dot.seq) ((b16.2.2.take b16.1.toNat)++((b16.2.2.take b16.2.2.length).drop (((w64 (b16.1+1))).toNat))) (A3Coll.mk sx3.colls.a0 r7.1 sx3.colls.a2) sx3.at_ sx3.ver sx3.subs sx3.req sx3.asked sx3.cmd sx3.fenced sx3.now))))
 none)
 none)
 none)
 none)
 (some (.inl (i1,i2,l1,i3,(w64 (i4+1)),sx1,sx2,(State.mk sx3.device sx3.epoch sx3.lease sx3.ends sx3.seq sx3.sent b16.2.2 (A3Coll.mk sx3.colls.a0 r7.1 sx3.colls.a2) sx3.at_ sx3.ver sx3.subs sx3.req sx3.asked sx3.cmd sx3.fenced sx3.now))))))
 (cond (decide (e0.coll=2))
 (ob (L27b_2 sx3.pending 0 (sx3.pending.length:Int) 0 e0) fun y17 =>
 two y17 (fun a18 =>
 some (.inl (i1,i2,l1,i3,(w64 (i4+1)),sx1,sx2,(State.mk sx3.device sx3.epoch sx3.lease sx3.ends sx3.seq sx3.sent a18.2.2 (A3Coll.mk sx3.colls.a0 sx3.colls.a1 r7.1) sx3.at_ sx3.ver sx3.subs sx3.req sx3.asked sx3.cmd sx3.fenced sx3.now)))) (fun b19 =>
 cond (decide (b19.1≥0))
 (cond (decide (0≤b19.1))
 (cond (decide (b19.1≤(w64 (b19.1+1))))
 (cond (decide ((w64 (b19.1+1))≤(b19.2.2.length:Int)))
 (cond (fits b19.2.2.length)
 (some (.inl (i1,i2,l1,i3,(w64 (i4+1)),sx1,sx2,(State.mk sx3.device sx3.epoch sx3.lease sx3.ends sx3.seq (max2 sx3.sent b19.2.1.dot.seq) ((b19.2.2.take b19.1.toNat)++((b19.2.2.take b19.2.2.length).drop (((w64 (b19.1+1))).toNat))) (A3Coll.mk sx3.colls.a0 sx3.colls.a1 r7.1) sx3.at_ sx3.ver sx3.subs sx3.req sx3.asked sx3.cmd sx3.fenced sx3.now))))
 none)
 none)
 none)
 none)
 (some (.inl (i1,i2,l1,i3,(w64 (i4+1)),sx1,sx2,(State.mk sx3.device sx3.epoch sx3.lease sx3.ends sx3.seq sx3.sent b19.2.2 (A3Coll.mk sx3.colls.a0 sx3.colls.a1 r7.1) sx3.at_ sx3.ver sx3.subs sx3.req sx3.asked sx3.cmd sx3.fenced sx3.now))))))
 none))))
 (cond (decide (e0.coll=1))
 (ob (apply_ sx3.colls.a1 e0) fun r8 =>
 cond (r8.2 != 0)
 (ob (localOwn sx1) fun y20 =>
 some (.inr (.inr (i1,r8.2,sx1,y20,sx3,sx2.lease.slices,sx2.lease.ids,sx2.lease.used,sx2.pending,sx2.subs,sx2.cmd.wants,sx2.cmd.ops))))
 (cond (decide (e0.coll=0))
 (ob (L27b_2 sx3.pending 0 (sx3.pending.length:Int) 0 e0) fun y21 =>
 two y21 (fun a22 =>
 some (.inl (i1,i2,l1,i3,(w64 (i4+1)),sx1,sx2,(State.mk sx3.device sx3.epoch sx3.lease sx3.ends sx3.seq sx3.sent a22.2.2 (A3Coll.mk r8.1 sx3.colls.a1 sx3.colls.a2) sx3.at_ sx3.ver sx3.subs sx3.req sx3.asked sx3.cmd sx3.fenced sx3.now)))) (fun b23 =>
 cond (decide (b23.1≥0))
 (cond (decide (0≤b23.1))
 (cond (decide (b23.1≤(w64 (b23.1+1))))
 (cond (decide ((w64 (b23.1+1))≤(b23.2.2.length:Int)))
 (cond (fits b23.2.2.length)
 (some (.inl (i1,i2,l1,i3,(w64 (i4+1)),sx1,sx2,(State.mk sx3.device sx3.epoch sx3.lease sx3.ends sx3.seq (max2 sx3.sent b23.2.1.dot.seq) ((b23.2.2.take b23.1.toNat)++((b23.2.2.take b23.2.2.length).drop (((w64 (b23.1+1))).toNat))) (A3Coll.mk r8.1 sx3.colls.a1 sx3.colls.a2) sx3.at_ sx3.ver sx3.subs sx3.req sx3.asked sx3.cmd sx3.fenced sx3.now))))
 none)
 none)
 none)
 none)
 (some (.inl (i1,i2,l1,i3,(w64 (i4+1)),sx1,sx2,(State.mk sx3.device sx3.epoch sx3.lease sx3.ends sx3.seq sx3.sent b23.2.2 (A3Coll.mk r8.1 sx3.colls.a1 sx3.colls.a2) sx3.at_ sx3.ver sx3.subs sx3.req sx3.asked sx3.cmd sx3.fenced sx3.now))))))
 (cond (decide (e0.coll=1))
 (ob (L27b_2 sx3.pending 0 (sx3.pending.length:Int) 0 e0) fun y24 =>
 two y24 (fun a25 =>
 some (.inl (i1,i2,l1,i3,(w64 (i4+1)),sx1,sx2,(State.mk sx3.device sx3.epoch sx3.lease sx3.ends sx3.seq sx3.sent a25.2.2 (A3Coll.mk sx3.colls.a0 r8.1 sx3.colls.a2) sx3.at_ sx3.ver sx3.subs sx3.req sx3.asked sx3.cmd sx3.fenced sx3.now)))) (fun b26 =>
 cond (decide (b26.1≥0))
 (cond (decide (0≤b26.1))
 (cond (decide (b26.1≤(w64 (b26.1+1))))
 (cond (decide ((w64 (b26.1+1))≤(b26.2.2.length:Int)))
 (cond (fits b26.2.2.length)
 (some (.inl (i1,i2,l1,i3,(w64 (i4+1)),sx1,sx2,(State.mk sx3.device sx3.epoch sx3.lease sx3.ends sx3.seq (max2 sx3.sent b26.2.1.dot.seq) ((b26.2.2.take b26.1.toNat)++((b26.2.2.take b26.2.2.length).drop (((w64 (b26.1+1))).toNat))) (A3Coll.mk sx3.colls.a0 r8.1 sx3.colls.a2) sx3.at_ sx3.ver sx3.subs sx3.req sx3.asked sx3.cmd sx3.fenced sx3.now))))
 none)
 none)
 none)
 none)
 (some (.inl (i1,i2,l1,i3,(w64 (i4+1)),sx1,sx2,(State.mk sx3.device sx3.epoch sx3.lease sx3.ends sx3.seq sx3.sent b26.2.2 (A3Coll.mk sx3.colls.a0 r8.1 sx3.colls.a2) sx3.at_ sx3.ver sx3.subs sx3.req sx3.asked sx3.cmd sx3.fenced sx3.now))))))
 (cond (decide (e0.coll=2))
 (ob (L27b_2 sx3.pending 0 (sx3.pending.length:Int) 0 e0) fun y27 =>
 two y27 (fun a28 =>
 some (.inl (i1,i2,l1,i3,(w64 (i4+1)),sx1,sx2,(State.mk sx3.device sx3.epoch sx3.lease sx3.ends sx3.seq sx3.sent a28.2.2 (A3Coll.mk sx3.colls.a0 sx3.colls.a1 r8.1) sx3.at_ sx3.ver sx3.subs sx3.req sx3.asked sx3.cmd sx3.fenced sx3.now)))) (fun b29 =>
 cond (decide (b29.1≥0))
 (cond (decide (0≤b29.1))
 (cond (decide (b29.1≤(w64 (b29.1+1))))
 (cond (decide ((w64 (b29.1+1))≤(b29.2.2.length:Int)))
 (cond (fits b29.2.2.length)
 (some (.inl (i1,i2,l1,i3,(w64 (i4+1)),sx1,sx2,(State.mk sx3.device sx3.epoch sx3.lease sx3.ends sx3.seq (max2 sx3.sent b29.2.1.dot.seq) ((b29.2.2.take b29.1.toNat)++((b29.2.2.take b29.2.2.length).drop (((w64 (b29.1+1))).toNat))) (A3Coll.mk sx3.colls.a0 sx3.colls.a1 r8.1) sx3.at_ sx3.ver sx3.subs sx3.req sx3.asked sx3.cmd sx3.fenced sx3.now))))
 none)
 none)
 none)
 none)
 (some (.inl (i1,i2,l1,i3,(w64 (i4+1)),sx1,sx2,(State.mk sx3.device sx3.epoch sx3.lease sx3.ends sx3.seq sx3.sent b29.2.2 (A3Coll.mk sx3.colls.a0 sx3.colls.a1 r8.1) sx3.at_ sx3.ver sx3.subs sx3.req sx3.asked sx3.cmd sx3.fenced sx3.now))))))
 none))))
 (cond (decide (e0.coll=2))
 (ob (apply_ sx3.colls.a2 e0) fun r9 =>
 cond (r9.2 != 0)
 (ob (localOwn sx1) fun y30 =>
 some (.inr (.inr (i1,r9.2,sx1,y30,sx3,sx2.lease.slices,sx2.lease.ids,sx2.lease.used,sx2.pending,sx2.subs,sx2.cmd.wants,sx2.cmd.ops))))
 (cond (decide (e0.coll=0))
 (ob (L27b_2 sx3.pending 0 (sx3.pending.length:Int) 0 e0) fun y31 =>
 two y31 (fun a32 =>
 some (.inl (i1,i2,l1,i3,(w64 (i4+1)),sx1,sx2,(State.mk sx3.device sx3.epoch sx3.lease sx3.ends sx3.seq sx3.sent a32.2.2 (A3Coll.mk r9.1 sx3.colls.a1 sx3.colls.a2) sx3.at_ sx3.ver sx3.subs sx3.req sx3.asked sx3.cmd sx3.fenced sx3.now)))) (fun b33 =>
 cond (decide (b33.1≥0))
 (cond (decide (0≤b33.1))
 (cond (decide (b33.1≤(w64 (b33.1+1))))
 (cond (decide ((w64 (b33.1+1))≤(b33.2.2.length:Int)))
 (cond (fits b33.2.2.length)
 (some (.inl (i1,i2,l1,i3,(w64 (i4+1)),sx1,sx2,(State.mk sx3.device sx3.epoch sx3.lease sx3.ends sx3.seq (max2 sx3.sent b33.2.1.dot.seq) ((b33.2.2.take b33.1.toNat)++((b33.2.2.take b33.2.2.length).drop (((w64 (b33.1+1))).toNat))) (A3Coll.mk r9.1 sx3.colls.a1 sx3.colls.a2) sx3.at_ sx3.ver sx3.subs sx3.req sx3.asked sx3.cmd sx3.fenced sx3.now))))
 none)
 none)
 none)
 none)
 (some (.inl (i1,i2,l1,i3,(w64 (i4+1)),sx1,sx2,(State.mk sx3.device sx3.epoch sx3.lease sx3.ends sx3.seq sx3.sent b33.2.2 (A3Coll.mk r9.1 sx3.colls.a1 sx3.colls.a2) sx3.at_ sx3.ver sx3.subs sx3.req sx3.asked sx3.cmd sx3.fenced sx3.now))))))
 (cond (decide (e0.coll=1))
 (ob (L27b_2 sx3.pending 0 (sx3.pending.length:Int) 0 e0) fun y34 =>
 two y34 (fun a35 =>
 some (.inl (i1,i2,l1,i3,(w64 (i4+1)),sx1,sx2,(State.mk sx3.device sx3.epoch sx3.lease sx3.ends sx3.seq sx3.sent a35.2.2 (A3Coll.mk sx3.colls.a0 r9.1 sx3.colls.a2) sx3.at_ sx3.ver sx3.subs sx3.req sx3.asked sx3.cmd sx3.fenced sx3.now)))) (fun b36 =>
 cond (decide (b36.1≥0))
 (cond (decide (0≤b36.1))
 (cond (decide (b36.1≤(w64 (b36.1+1))))
 (cond (decide ((w64 (b36.1+1))≤(b36.2.2.length:Int)))
 (cond (fits b36.2.2.length)
 (some (.inl (i1,i2,l1,i3,(w64 (i4+1)),sx1,sx2,(State.mk sx3.device sx3.epoch sx3.lease sx3.ends sx3.seq (max2 sx3.sent b36.2.1.dot.seq) ((b36.2.2.take b36.1.toNat)++((b36.2.2.take b36.2.2.length).drop (((w64 (b36.1+1))).toNat))) (A3Coll.mk sx3.colls.a0 r9.1 sx3.colls.a2) sx3.at_ sx3.ver sx3.subs sx3.req sx3.asked sx3.cmd sx3.fenced sx3.now))))
 none)
 none)
 none)
 none)
 (some (.inl (i1,i2,l1,i3,(w64 (i4+1)),sx1,sx2,(State.mk sx3.device sx3.epoch sx3.lease sx3.ends sx3.seq sx3.sent b36.2.2 (A3Coll.mk sx3.colls.a0 r9.1 sx3.colls.a2) sx3.at_ sx3.ver sx3.subs sx3.req sx3.asked sx3.cmd sx3.fenced sx3.now))))))
 (cond (decide (e0.coll=2))
 (ob (L27b_2 sx3.pending 0 (sx3.pending.length:Int) 0 e0) fun y37 =>
 two y37 (fun a38 =>
 some (.inl (i1,i2,l1,i3,(w64 (i4+1)),sx1,sx2,(State.mk sx3.device sx3.epoch sx3.lease sx3.ends sx3.seq sx3.sent a38.2.2 (A3Coll.mk sx3.colls.a0 sx3.colls.a1 r9.1) sx3.at_ sx3.ver sx3.subs sx3.req sx3.asked sx3.cmd sx3.fenced sx3.now)))) (fun b39 =>
 cond (decide (b39.1≥0))
 (cond (decide (0≤b39.1))
 (cond (decide (b39.1≤(w64 (b39.1+1))))
 (cond (decide ((w64 (b39.1+1))≤(b39.2.2.length:Int)))
 (cond (fits b39.2.2.length)
 (some (.inl (i1,i2,l1,i3,(w64 (i4+1)),sx1,sx2,(State.mk sx3.device sx3.epoch sx3.lease sx3.ends sx3.seq (max2 sx3.sent b39.2.1.dot.seq) ((b39.2.2.take b39.1.toNat)++((b39.2.2.take b39.2.2.length).drop (((w64 (b39.1+1))).toNat))) (A3Coll.mk sx3.colls.a0 sx3.colls.a1 r9.1) sx3.at_ sx3.ver sx3.subs sx3.req sx3.asked sx3.cmd sx3.fenced sx3.now))))
 none)
 none)
 none)
 none)
 (some (.inl (i1,i2,l1,i3,(w64 (i4+1)),sx1,sx2,(State.mk sx3.device sx3.epoch sx3.lease sx3.ends sx3.seq sx3.sent b39.2.2 (A3Coll.mk sx3.colls.a0 sx3.colls.a1 r9.1) sx3.at_ sx3.ver sx3.subs sx3.req sx3.asked sx3.cmd sx3.fenced sx3.now))))))
 none))))
 none))))))
 none)
 none)
 (ob (localOwn sx1) fun y4 =>
 some (.inr (.inr (i1,1,sx1,y4,sx3,sx2.lease.slices,sx2.lease.ids,sx2.lease.used,sx2.pending,sx2.subs,sx2.cmd.wants,sx2.cmd.ops)))))
 (ob (localOwn sx1) fun y5 =>
 some (.inr (.inr (i1,1,sx1,y5,sx3,sx2.lease.slices,sx2.lease.ids,sx2.lease.used,sx2.pending,sx2.subs,sx2.cmd.wants,sx2.cmd.ops)))))
 none)
 (some (.inr (.inl (i1,i2,sx1,sx2,sx3))))
def stp_L12_7 (p:tY20):Option ((tY20)⊕(((Int×Int×State×State×State)⊕(Int×Int×State×State×State×(List Slice)×(List Range)×(List Int)×(List Op)×(List Bool)×(List Want)×(List Op))))):=step_L12_7 p.1 p.2.1 p.2.2.1 p.2.2.2.1 p.2.2.2.2.1 p.2.2.2.2.2.1 p.2.2.2.2.2.2.1 p.2.2.2.2.2.2.2
def L12_7 (i1:Int)(i2:Int)(l1:List Op)(i3:Int)(i4:Int)(sx1:State)(sx2:State)(sx3:State):Option (((Int×Int×State×State×State)⊕(Int×Int×State×State×State×(List Slice)×(List Range)×(List Int)×(List Op)×(List Bool)×(List Want)×(List Op)))):=iterO stp_L12_7 ((i3 - i4).toNat+2) (i1,i2,l1,i3,i4,sx1,sx2,sx3)
def ch_L12_7:kT (tY20):=kO (kS 16 (kC kI (kC (kP 0 0) (kC (kP 1 0) (kC kI (kC (kP 2 0) (kC (kF j_lOp) (kC kI (kC kI kN)))))))) (kC (Cod.var 0 43 cc_State) (kC (Cod.var 1 43 (kC kJ (kC kJ (kC kJ (kC kJ (kC kJ (kC kJ (kC (kA 3) (kC (kA 4) (kC (kA 5) (kC kJ (kC kJ (kC kJ (kC (kA 6) (kC (kG j_lDot) (kC (kG j_lReg) (kC (kG j_lElem) (kC (kG j_lDot) (kC (kG j_lSum) (kC (kG j_lBind) (kC (kG j_lDot) (kC (kG j_lReg) (kC (kG j_lElem) (kC (kG j_lDot) (kC (kG j_lSum) (kC (kG j_lBind) (kC (kG j_lDot) (kC (kG j_lReg) (kC (kG j_lElem) (kC (kG j_lDot) (kC (kG j_lSum) (kC (kG j_lBind) (kC kJ (kC kJ (kC (kA 7) (kC kJ (kC kJ (kC kJ (kC kJ (kC kJ (kC kJ (kC kJ (kC (kA 8) (kC (kA 9) (kC kD (kC kJ kN)))))))))))))))))))))))))))))))))))))))))))))) (kC (Cod.var 2 43 (kC kJ (kC kJ (kC kJ (kC kJ (kC kJ (kC kJ (kC (kA 10) (kC (kA 11) (kC (kA 12) (kC kJ (kC kJ (kC kJ (kC (kA 13) (kC (kG j_lDot) (kC (kG j_lReg) (kC (kG j_lElem) (kC (kG j_lDot) (kC (kG j_lSum) (kC (kG j_lBind) (kC (kG j_lDot) (kC (kG j_lReg) (kC (kG j_lElem) (kC (kG j_lDot) (kC (kG j_lSum) (kC (kG j_lBind) (kC (kG j_lDot) (kC (kG j_lReg) (kC (kG j_lElem) (kC (kG j_lDot) (kC (kG j_lSum) (kC (kG j_lBind) (kC kJ (kC kJ (kC (kA 14) (kC kJ (kC kJ (kC kJ (kC kJ (kC kJ (kC kJ (kC kJ (kC (kA 15) (kC (kG j_lOp) (kC kD (kC kJ kN)))))))))))))))))))))))))))))))))))))))))))))) (kC (kR 3 62 j_lSlice) (kC (kR 4 98 j_lRange) (kC (kR 5 3 j_lInt) (kC (kR 6 50 j_lOp) (kC (kR 7 4 j_lBool) (kC (kR 8 89 j_lWant) (kC (kR 9 50 j_lOp) (kC (kR 10 62 j_lSlice) (kC (kR 11 98 j_lRange) (kC (kR 12 3 j_lInt) (kC (kR 13 50 j_lOp) (kC (kR 14 4 j_lBool) (kC (kR 15 89 j_lWant) kN))))))))))))))))) (fun p=>(p.1.1,p.1.2.2.2.1,p.1.2.2.2.2.2.1,p.1.2.2.2.2.2.2.1,p.1.2.2.2.2.2.2.2.1,p.2.1,(State.mk p.2.2.1.1 p.2.2.1.2.1 (Lease.mk p.2.2.1.2.2.1 p.2.2.1.2.2.2.1 p.2.2.1.2.2.2.2.1 p.2.2.1.2.2.2.2.2.1 p.2.2.2.2.1 p.2.2.2.2.2.1 p.2.2.2.2.2.2.1) (t8 p.2.2.1).2.1 (t8 p.2.2.1).2.2.1 (t8 p.2.2.1).2.2.2.1 p.2.2.2.2.2.2.2.1 (A3Coll.mk (Coll.mk (t8 p.2.2.1).2.2.2.2.2.1 (t8 p.2.2.1).2.2.2.2.2.2.1 (t8 p.2.2.1).2.2.2.2.2.2.2.1 (t8 (t8 p.2.2.1)).1 (t8 (t8 p.2.2.1)).2.1 (t8 (t8 p.2.2.1)).2.2.1) (Coll.mk (t8 (t8 p.2.2.1)).2.2.2.1 (t8 (t8 p.2.2.1)).2.2.2.2.1 (t8 (t8 p.2.2.1)).2.2.2.2.2.1 (t8 (t8 p.2.2.1)).2.2.2.2.2.2.1 (t8 (t8 p.2.2.1)).2.2.2.2.2.2.2.1 (t8 (t8 (t8 p.2.2.1))).1) (Coll.mk (t8 (t8 (t8 p.2.2.1))).2.1 (t8 (t8 (t8 p.2.2.1))).2.2.1 (t8 (t8 (t8 p.2.2.1))).2.2.2.1 (t8 (t8 (t8 p.2.2.1))).2.2.2.2.1 (t8 (t8 (t8 p.2.2.1))).2.2.2.2.2.1 (t8 (t8 (t8 p.2.2.1))).2.2.2.2.2.2.1)) (t8 (t8 (t8 p.2.2.1))).2.2.2.2.2.2.2.1 (t32 p.2.2.1).1 p.2.2.2.2.2.2.2.2.1 (t32 p.2.2.1).2.2.1 (t32 p.2.2.1).2.2.2.1 (Cmd.mk (t32 p.2.2.1).2.2.2.2.1 (t32 p.2.2.1).2.2.2.2.2.1 (t32 p.2.2.1).2.2.2.2.2.2.1 (t32 p.2.2.1).2.2.2.2.2.2.2.1 (t8 (t32 p.2.2.1)).1 (t8 p.2).1 (t8 p.2).2.1) (t8 (t32 p.2.2.1)).2.2.2.1 (t8 (t32 p.2.2.1)).2.2.2.2.1),(State.mk p.2.2.2.1.1 p.2.2.2.1.2.1 (Lease.mk p.2.2.2.1.2.2.1 p.2.2.2.1.2.2.2.1 p.2.2.2.1.2.2.2.2.1 p.2.2.2.1.2.2.2.2.2.1 (t8 p.2).2.2.1 (t8 p.2).2.2.2.1 (t8 p.2).2.2.2.2.1) (t8 p.2.2.2.1).2.1 (t8 p.2.2.2.1).2.2.1 (t8 p.2.2.2.1).2.2.2.1 (t8 p.2).2.2.2.2.2.1 (A3Coll.mk (Coll.mk (t8 p.2.2.2.1).2.2.2.2.2.1 (t8 p.2.2.2.1).2.2.2.2.2.2.1 (t8 p.2.2.2.1).2.2.2.2.2.2.2.1 (t8 (t8 p.2.2.2.1)).1 (t8 (t8 p.2.2.2.1)).2.1 (t8 (t8 p.2.2.2.1)).2.2.1) (Coll.mk (t8 (t8 p.2.2.2.1)).2.2.2.1 (t8 (t8 p.2.2.2.1)).2.2.2.2.1 (t8 (t8 p.2.2.2.1)).2.2.2.2.2.1 (t8 (t8 p.2.2.2.1)).2.2.2.2.2.2.1 (t8 (t8 p.2.2.2.1)).2.2.2.2.2.2.2.1 (t8 (t8 (t8 p.2.2.2.1))).1) (Coll.mk (t8 (t8 (t8 p.2.2.2.1))).2.1 (t8 (t8 (t8 p.2.2.2.1))).2.2.1 (t8 (t8 (t8 p.2.2.2.1))).2.2.2.1 (t8 (t8 (t8 p.2.2.2.1))).2.2.2.2.1 (t8 (t8 (t8 p.2.2.2.1))).2.2.2.2.2.1 (t8 (t8 (t8 p.2.2.2.1))).2.2.2.2.2.2.1)) (t8 (t8 (t8 p.2.2.2.1))).2.2.2.2.2.2.2.1 (t32 p.2.2.2.1).1 (t8 p.2).2.2.2.2.2.2.1 (t32 p.2.2.2.1).2.2.1 (t32 p.2.2.2.1).2.2.2.1 (Cmd.mk (t32 p.2.2.2.1).2.2.2.2.1 (t32 p.2.2.2.1).2.2.2.2.2.1 (t32 p.2.2.2.1).2.2.2.2.2.2.1 (t32 p.2.2.2.1).2.2.2.2.2.2.2.1 (t8 (t32 p.2.2.2.1)).1 (t8 p.2).2.2.2.2.2.2.2.1 (t8 (t32 p.2.2.2.1)).2.2.1) (t8 (t32 p.2.2.2.1)).2.2.2.1 (t8 (t32 p.2.2.2.1)).2.2.2.2.1))) (fun (x:tY20)=>((x.1,((),((),(x.2.1,((),(x.2.2.1,(x.2.2.2.1,(x.2.2.2.2.1,())))))))),(x.2.2.2.2.2.1,((x.2.2.2.2.2.2.1.device,(x.2.2.2.2.2.2.1.epoch,(x.2.2.2.2.2.2.1.lease.device,(x.2.2.2.2.2.2.1.lease.epoch,(x.2.2.2.2.2.2.1.lease.until_,(x.2.2.2.2.2.2.1.lease.last,((),((),((),(x.2.2.2.2.2.2.1.ends,(x.2.2.2.2.2.2.1.seq,(x.2.2.2.2.2.2.1.sent,((),(x.2.2.2.2.2.2.1.colls.a0.v,(x.2.2.2.2.2.2.1.colls.a0.regs,(x.2.2.2.2.2.2.1.colls.a0.elems,(x.2.2.2.2.2.2.1.colls.a0.gone,(x.2.2.2.2.2.2.1.colls.a0.sums,(x.2.2.2.2.2.2.1.colls.a0.binds,(x.2.2.2.2.2.2.1.colls.a1.v,(x.2.2.2.2.2.2.1.colls.a1.regs,(x.2.2.2.2.2.2.1.colls.a1.elems,(x.2.2.2.2.2.2.1.colls.a1.gone,(x.2.2.2.2.2.2.1.colls.a1.sums,(x.2.2.2.2.2.2.1.colls.a1.binds,(x.2.2.2.2.2.2.1.colls.a2.v,(x.2.2.2.2.2.2.1.colls.a2.regs,(x.2.2.2.2.2.2.1.colls.a2.elems,(x.2.2.2.2.2.2.1.colls.a2.gone,(x.2.2.2.2.2.2.1.colls.a2.sums,(x.2.2.2.2.2.2.1.colls.a2.binds,(x.2.2.2.2.2.2.1.at_,(x.2.2.2.2.2.2.1.ver,((),(x.2.2.2.2.2.2.1.req,(x.2.2.2.2.2.2.1.asked,(x.2.2.2.2.2.2.1.cmd.kind,(x.2.2.2.2.2.2.1.cmd.device,(x.2.2.2.2.2.2.1.cmd.epoch,(x.2.2.2.2.2.2.1.cmd.req,(x.2.2.2.2.2.2.1.cmd.n,((),((),(x.2.2.2.2.2.2.1.fenced,(x.2.2.2.2.2.2.1.now,()))))))))))))))))))))))))))))))))))))))))))))),((x.2.2.2.2.2.2.2.device,(x.2.2.2.2.2.2.2.epoch,(x.2.2.2.2.2.2.2.lease.device,(x.2.2.2.2.2.2.2.lease.epoch,(x.2.2.2.2.2.2.2.lease.until_,(x.2.2.2.2.2.2.2.lease.last,((),((),((),(x.2.2.2.2.2.2.2.ends,(x.2.2.2.2.2.2.2.seq,(x.2.2.2.2.2.2.2.sent,((),(x.2.2.2.2.2.2.2.colls.a0.v,(x.2.2.2.2.2.2.2.colls.a0.regs,(x.2.2.2.2.2.2.2.colls.a0.elems,(x.2.2.2.2.2.2.2.colls.a0.gone,(x.2.2.2.2.2.2.2.colls.a0.sums,(x.2.2.2.2.2.2.2.colls.a0.binds,(x.2.2.2.2.2.2.2.colls.a1.v,(x.2.2.2.2.2.2.2.colls.a1.regs,(x.2.2.2.2.2.2.2.colls.a1.elems,(x.2.2.2.2.2.2.2.colls.a1.gone,(x.2.2.2.2.2.2.2.colls.a1.sums,(x.2.2.2.2.2.2.2.colls.a1.binds,(x.2.2.2.2.2.2.2.colls.a2.v,(x.2.2.2.2.2.2.2.colls.a2.regs,(x.2.2.2.2.2.2.2.colls.a2.elems,(x.2.2.2.2.2.2.2.colls.a2.gone,(x.2.2.2.2.2.2.2.colls.a2.sums,(x.2.2.2.2.2.2.2.colls.a2.binds,(x.2.2.2.2.2.2.2.at_,(x.2.2.2.2.2.2.2.ver,((),(x.2.2.2.2.2.2.2.req,(x.2.2.2.2.2.2.2.asked,(x.2.2.2.2.2.2.2.cmd.kind,(x.2.2.2.2.2.2.2.cmd.device,(x.2.2.2.2.2.2.2.cmd.epoch,(x.2.2.2.2.2.2.2.cmd.req,(x.2.2.2.2.2.2.2.cmd.n,((),(x.2.2.2.2.2.2.2.cmd.ops,(x.2.2.2.2.2.2.2.fenced,(x.2.2.2.2.2.2.2.now,()))))))))))))))))))))))))))))))))))))))))))))),(x.2.2.2.2.2.2.1.lease.slices,(x.2.2.2.2.2.2.1.lease.ids,(x.2.2.2.2.2.2.1.lease.used,(x.2.2.2.2.2.2.1.pending,(x.2.2.2.2.2.2.1.subs,(x.2.2.2.2.2.2.1.cmd.wants,(x.2.2.2.2.2.2.1.cmd.ops,(x.2.2.2.2.2.2.2.lease.slices,(x.2.2.2.2.2.2.2.lease.ids,(x.2.2.2.2.2.2.2.lease.used,(x.2.2.2.2.2.2.2.pending,(x.2.2.2.2.2.2.2.subs,(x.2.2.2.2.2.2.2.cmd.wants,())))))))))))))))))) (fun _=>rfl)
def co0_L12_7:kT (Int×Int×State×State×State):=kO (kS 32 (kC kI (kC (kP 1 0) (kC kI (kC (kP 2 0) kN)))) (kC (Cod.var 0 43 cc_State) (kC (Cod.var 1 43 (kC kJ (kC kJ (kC kJ (kC kJ (kC kJ (kC kJ (kC (kA 3) (kC (kA 4) (kC (kA 5) (kC kJ (kC kJ (kC kJ (kC (kA 6) (kC (kG j_lDot) (kC (kG j_lReg) (kC (kG j_lElem) (kC (kG j_lDot) (kC (kG j_lSum) (kC (kG j_lBind) (kC (kG j_lDot) (kC (kG j_lReg) (kC (kG j_lElem) (kC (kG j_lDot) (kC (kG j_lSum) (kC (kG j_lBind) (kC (kG j_lDot) (kC (kG j_lReg) (kC (kG j_lElem) (kC (kG j_lDot) (kC (kG j_lSum) (kC (kG j_lBind) (kC kJ (kC kJ (kC (kA 7) (kC kJ (kC kJ (kC kJ (kC kJ (kC kJ (kC kJ (kC kJ (kC (kA 8) (kC (kA 9) (kC kD (kC kJ kN)))))))))))))))))))))))))))))))))))))))))))))) (kC (Cod.var 2 43 (kC kJ (kC kJ (kC kJ (kC kJ (kC kJ (kC kJ (kC (kA 10) (kC (kA 11) (kC (kA 12) (kC kJ (kC kJ (kC kJ (kC (kA 31) (kC (kG j_lDot) (kC (kG j_lReg) (kC (kG j_lElem) (kC (kG j_lDot) (kC (kG j_lSum) (kC (kG j_lBind) (kC (kG j_lDot) (kC (kG j_lReg) (kC (kG j_lElem) (kC (kG j_lDot) (kC (kG j_lSum) (kC (kG j_lBind) (kC (kG j_lDot) (kC (kG j_lReg) (kC (kG j_lElem) (kC (kG j_lDot) (kC (kG j_lSum) (kC (kG j_lBind) (kC kJ (kC kJ (kC (kA 14) (kC kJ (kC kJ (kC kJ (kC kJ (kC kJ (kC kJ (kC kJ (kC (kA 15) (kC (kG j_lOp) (kC kD (kC kJ kN)))))))))))))))))))))))))))))))))))))))))))))) (kC (kR 3 62 j_lSlice) (kC (kR 4 98 j_lRange) (kC (kR 5 3 j_lInt) (kC (kR 6 50 j_lOp) (kC (kR 7 4 j_lBool) (kC (kR 8 89 j_lWant) (kC (kR 9 50 j_lOp) (kC (kR 10 62 j_lSlice) (kC (kR 11 98 j_lRange) (kC (kR 12 3 j_lInt) (kC (kR 14 4 j_lBool) (kC (kR 15 89 j_lWant) (kC (kR 31 50 j_lOp) kN))))))))))))))))) (fun p=>(p.1.1,p.1.2.2.1,p.2.1,(State.mk p.2.2.1.1 p.2.2.1.2.1 (Lease.mk p.2.2.1.2.2.1 p.2.2.1.2.2.2.1 p.2.2.1.2.2.2.2.1 p.2.2.1.2.2.2.2.2.1 p.2.2.2.2.1 p.2.2.2.2.2.1 p.2.2.2.2.2.2.1) (t8 p.2.2.1).2.1 (t8 p.2.2.1).2.2.1 (t8 p.2.2.1).2.2.2.1 p.2.2.2.2.2.2.2.1 (A3Coll.mk (Coll.mk (t8 p.2.2.1).2.2.2.2.2.1 (t8 p.2.2.1).2.2.2.2.2.2.1 (t8 p.2.2.1).2.2.2.2.2.2.2.1 (t8 (t8 p.2.2.1)).1 (t8 (t8 p.2.2.1)).2.1 (t8 (t8 p.2.2.1)).2.2.1) (Coll.mk (t8 (t8 p.2.2.1)).2.2.2.1 (t8 (t8 p.2.2.1)).2.2.2.2.1 (t8 (t8 p.2.2.1)).2.2.2.2.2.1 (t8 (t8 p.2.2.1)).2.2.2.2.2.2.1 (t8 (t8 p.2.2.1)).2.2.2.2.2.2.2.1 (t8 (t8 (t8 p.2.2.1))).1) (Coll.mk (t8 (t8 (t8 p.2.2.1))).2.1 (t8 (t8 (t8 p.2.2.1))).2.2.1 (t8 (t8 (t8 p.2.2.1))).2.2.2.1 (t8 (t8 (t8 p.2.2.1))).2.2.2.2.1 (t8 (t8 (t8 p.2.2.1))).2.2.2.2.2.1 (t8 (t8 (t8 p.2.2.1))).2.2.2.2.2.2.1)) (t8 (t8 (t8 p.2.2.1))).2.2.2.2.2.2.2.1 (t32 p.2.2.1).1 p.2.2.2.2.2.2.2.2.1 (t32 p.2.2.1).2.2.1 (t32 p.2.2.1).2.2.2.1 (Cmd.mk (t32 p.2.2.1).2.2.2.2.1 (t32 p.2.2.1).2.2.2.2.2.1 (t32 p.2.2.1).2.2.2.2.2.2.1 (t32 p.2.2.1).2.2.2.2.2.2.2.1 (t8 (t32 p.2.2.1)).1 (t8 p.2).1 (t8 p.2).2.1) (t8 (t32 p.2.2.1)).2.2.2.1 (t8 (t32 p.2.2.1)).2.2.2.2.1),(State.mk p.2.2.2.1.1 p.2.2.2.1.2.1 (Lease.mk p.2.2.2.1.2.2.1 p.2.2.2.1.2.2.2.1 p.2.2.2.1.2.2.2.2.1 p.2.2.2.1.2.2.2.2.2.1 (t8 p.2).2.2.1 (t8 p.2).2.2.2.1 (t8 p.2).2.2.2.2.1) (t8 p.2.2.2.1).2.1 (t8 p.2.2.2.1).2.2.1 (t8 p.2.2.2.1).2.2.2.1 (t8 p.2).2.2.2.2.2.2.2.1 (A3Coll.mk (Coll.mk (t8 p.2.2.2.1).2.2.2.2.2.1 (t8 p.2.2.2.1).2.2.2.2.2.2.1 (t8 p.2.2.2.1).2.2.2.2.2.2.2.1 (t8 (t8 p.2.2.2.1)).1 (t8 (t8 p.2.2.2.1)).2.1 (t8 (t8 p.2.2.2.1)).2.2.1) (Coll.mk (t8 (t8 p.2.2.2.1)).2.2.2.1 (t8 (t8 p.2.2.2.1)).2.2.2.2.1 (t8 (t8 p.2.2.2.1)).2.2.2.2.2.1 (t8 (t8 p.2.2.2.1)).2.2.2.2.2.2.1 (t8 (t8 p.2.2.2.1)).2.2.2.2.2.2.2.1 (t8 (t8 (t8 p.2.2.2.1))).1) (Coll.mk (t8 (t8 (t8 p.2.2.2.1))).2.1 (t8 (t8 (t8 p.2.2.2.1))).2.2.1 (t8 (t8 (t8 p.2.2.2.1))).2.2.2.1 (t8 (t8 (t8 p.2.2.2.1))).2.2.2.2.1 (t8 (t8 (t8 p.2.2.2.1))).2.2.2.2.2.1 (t8 (t8 (t8 p.2.2.2.1))).2.2.2.2.2.2.1)) (t8 (t8 (t8 p.2.2.2.1))).2.2.2.2.2.2.2.1 (t32 p.2.2.2.1).1 (t8 p.2).2.2.2.2.2.1 (t32 p.2.2.2.1).2.2.1 (t32 p.2.2.2.1).2.2.2.1 (Cmd.mk (t32 p.2.2.2.1).2.2.2.2.1 (t32 p.2.2.2.1).2.2.2.2.2.1 (t32 p.2.2.2.1).2.2.2.2.2.2.1 (t32 p.2.2.2.1).2.2.2.2.2.2.2.1 (t8 (t32 p.2.2.2.1)).1 (t8 p.2).2.2.2.2.2.2.1 (t8 (t32 p.2.2.2.1)).2.2.1) (t8 (t32 p.2.2.2.1)).2.2.2.1 (t8 (t32 p.2.2.2.1)).2.2.2.2.1))) (fun (x:Int×Int×State×State×State)=>((x.1,((),(x.2.1,((),())))),(x.2.2.1,((x.2.2.2.1.device,(x.2.2.2.1.epoch,(x.2.2.2.1.lease.device,(x.2.2.2.1.lease.epoch,(x.2.2.2.1.lease.until_,(x.2.2.2.1.lease.last,((),((),((),(x.2.2.2.1.ends,(x.2.2.2.1.seq,(x.2.2.2.1.sent,((),(x.2.2.2.1.colls.a0.v,(x.2.2.2.1.colls.a0.regs,(x.2.2.2.1.colls.a0.elems,(x.2.2.2.1.colls.a0.gone,(x.2.2.2.1.colls.a0.sums,(x.2.2.2.1.colls.a0.binds,(x.2.2.2.1.colls.a1.v,(x.2.2.2.1.colls.a1.regs,(x.2.2.2.1.colls.a1.elems,(x.2.2.2.1.colls.a1.gone,(x.2.2.2.1.colls.a1.sums,(x.2.2.2.1.colls.a1.binds,(x.2.2.2.1.colls.a2.v,(x.2.2.2.1.colls.a2.regs,(x.2.2.2.1.colls.a2.elems,(x.2.2.2.1.colls.a2.gone,(x.2.2.2.1.colls.a2.sums,(x.2.2.2.1.colls.a2.binds,(x.2.2.2.1.at_,(x.2.2.2.1.ver,((),(x.2.2.2.1.req,(x.2.2.2.1.asked,(x.2.2.2.1.cmd.kind,(x.2.2.2.1.cmd.device,(x.2.2.2.1.cmd.epoch,(x.2.2.2.1.cmd.req,(x.2.2.2.1.cmd.n,((),((),(x.2.2.2.1.fenced,(x.2.2.2.1.now,()))))))))))))))))))))))))))))))))))))))))))))),((x.2.2.2.2.device,(x.2.2.2.2.epoch,(x.2.2.2.2.lease.device,(x.2.2.2.2.lease.epoch,(x.2.2.2.2.lease.until_,(x.2.2.2.2.lease.last,((),((),((),(x.2.2.2.2.ends,(x.2.2.2.2.seq,(x.2.2.2.2.sent,((),(x.2.2.2.2.colls.a0.v,(x.2.2.2.2.colls.a0.regs,(x.2.2.2.2.colls.a0.elems,(x.2.2.2.2.colls.a0.gone,(x.2.2.2.2.colls.a0.sums,(x.2.2.2.2.colls.a0.binds,(x.2.2.2.2.colls.a1.v,(x.2.2.2.2.colls.a1.regs,(x.2.2.2.2.colls.a1.elems,(x.2.2.2.2.colls.a1.gone,(x.2.2.2.2.colls.a1.sums,(x.2.2.2.2.colls.a1.binds,(x.2.2.2.2.colls.a2.v,(x.2.2.2.2.colls.a2.regs,(x.2.2.2.2.colls.a2.elems,(x.2.2.2.2.colls.a2.gone,(x.2.2.2.2.colls.a2.sums,(x.2.2.2.2.colls.a2.binds,(x.2.2.2.2.at_,(x.2.2.2.2.ver,((),(x.2.2.2.2.req,(x.2.2.2.2.asked,(x.2.2.2.2.cmd.kind,(x.2.2.2.2.cmd.device,(x.2.2.2.2.cmd.epoch,(x.2.2.2.2.cmd.req,(x.2.2.2.2.cmd.n,((),(x.2.2.2.2.cmd.ops,(x.2.2.2.2.fenced,(x.2.2.2.2.now,()))))))))))))))))))))))))))))))))))))))))))))),(x.2.2.2.1.lease.slices,(x.2.2.2.1.lease.ids,(x.2.2.2.1.lease.used,(x.2.2.2.1.pending,(x.2.2.2.1.subs,(x.2.2.2.1.cmd.wants,(x.2.2.2.1.cmd.ops,(x.2.2.2.2.lease.slices,(x.2.2.2.2.lease.ids,(x.2.2.2.2.lease.used,(x.2.2.2.2.subs,(x.2.2.2.2.cmd.wants,(x.2.2.2.2.pending,())))))))))))))))))) (fun _=>rfl)
def co1_L12_7:kT (Int×Int×State×State×State×(List Slice)×(List Range)×(List Int)×(List Op)×(List Bool)×(List Want)×(List Op)):=kO (kS 56 (kC kI (kC (kP 1 0) (kC kI (kC (kP 2 0) kN)))) (kC (Cod.var 0 43 cc_State) (kC (Cod.var 1 43 (kC kJ (kC kJ (kC kJ (kC kJ (kC kJ (kC kJ (kC (kA 31) (kC (kA 32) (kC (kA 33) (kC kJ (kC kJ (kC kJ (kC (kA 34) (kC (kA 35) (kC (kA 36) (kC (kA 37) (kC (kA 38) (kC (kA 39) (kC (kA 40) (kC (kA 41) (kC (kA 42) (kC (kA 43) (kC (kA 44) (kC (kA 45) (kC (kA 46) (kC (kA 47) (kC (kA 48) (kC (kA 49) (kC (kA 50) (kC (kA 51) (kC (kA 52) (kC kJ (kC kJ (kC (kA 53) (kC kJ (kC kJ (kC kJ (kC kJ (kC kJ (kC kJ (kC kJ (kC (kA 54) (kC (kG j_lOp) (kC kD (kC kJ kN)))))))))))))))))))))))))))))))))))))))))))))) (kC (Cod.var 2 43 (kC kJ (kC kJ (kC kJ (kC kJ (kC kJ (kC kJ (kC (kA 10) (kC (kA 11) (kC (kA 12) (kC kJ (kC kJ (kC kJ (kC (kA 55) (kC (kG j_lDot) (kC (kG j_lReg) (kC (kG j_lElem) (kC (kG j_lDot) (kC (kG j_lSum) (kC (kG j_lBind) (kC (kG j_lDot) (kC (kG j_lReg) (kC (kG j_lElem) (kC (kG j_lDot) (kC (kG j_lSum) (kC (kG j_lBind) (kC (kG j_lDot) (kC (kG j_lReg) (kC (kG j_lElem) (kC (kG j_lDot) (kC (kG j_lSum) (kC (kG j_lBind) (kC kJ (kC kJ (kC (kA 14) (kC kJ (kC kJ (kC kJ (kC kJ (kC kJ (kC kJ (kC kJ (kC (kA 15) (kC (kG j_lOp) (kC kD (kC kJ kN)))))))))))))))))))))))))))))))))))))))))))))) (kC (kR 3 62 j_lSlice) (kC (kR 4 98 j_lRange) (kC (kR 5 3 j_lInt) (kC (kR 6 50 j_lOp) (kC (kR 7 4 j_lBool) (kC (kR 8 89 j_lWant) (kC (kR 9 50 j_lOp) (kC (kR 10 62 j_lSlice) (kC (kR 11 98 j_lRange) (kC (kR 12 3 j_lInt) (kC (kR 14 4 j_lBool) (kC (kR 15 89 j_lWant) (kC (kR 31 62 j_lSlice) (kC (kR 32 98 j_lRange) (kC (kR 33 3 j_lInt) (kC (kR 34 50 j_lOp) (kC (kR 35 112 j_lDot) (kC (kR 36 103 j_lReg) (kC (kR 37 100 j_lElem) (kC (kR 38 48 j_lDot) (kC (kR 39 118 j_lSum) (kC (kR 40 121 j_lBind) (kC (kR 41 112 j_lDot) (kC (kR 42 103 j_lReg) (kC (kR 43 100 j_lElem) (kC (kR 44 48 j_lDot) (kC (kR 45 118 j_lSum) (kC (kR 46 121 j_lBind) (kC (kR 47 112 j_lDot) (kC (kR 48 103 j_lReg) (kC (kR 49 100 j_lElem) (kC (kR 50 48 j_lDot) (kC (kR 51 118 j_lSum) (kC (kR 52 121 j_lBind) (kC (kR 53 4 j_lBool) (kC (kR 54 89 j_lWant) (kC (kR 55 50 j_lOp) kN))))))))))))))))))))))))))))))))))))))))) (fun p=>(p.1.1,p.1.2.2.1,p.2.1,(State.mk p.2.2.1.1 p.2.2.1.2.1 (Lease.mk p.2.2.1.2.2.1 p.2.2.1.2.2.2.1 p.2.2.1.2.2.2.2.1 p.2.2.1.2.2.2.2.2.1 (t8 p.2).2.2.2.2.2.2.2.1 (t8 (t8 p.2)).1 (t8 (t8 p.2)).2.1) (t8 p.2.2.1).2.1 (t8 p.2.2.1).2.2.1 (t8 p.2.2.1).2.2.2.1 (t8 (t8 p.2)).2.2.1 (A3Coll.mk (Coll.mk (t8 (t8 p.2)).2.2.2.1 (t8 (t8 p.2)).2.2.2.2.1 (t8 (t8 p.2)).2.2.2.2.2.1 (t8 (t8 p.2)).2.2.2.2.2.2.1 (t8 (t8 p.2)).2.2.2.2.2.2.2.1 (t8 (t8 (t8 p.2))).1) (Coll.mk (t8 (t8 (t8 p.2))).2.1 (t8 (t8 (t8 p.2))).2.2.1 (t8 (t8 (t8 p.2))).2.2.2.1 (t8 (t8 (t8 p.2))).2.2.2.2.1 (t8 (t8 (t8 p.2))).2.2.2.2.2.1 (t8 (t8 (t8 p.2))).2.2.2.2.2.2.1) (Coll.mk (t8 (t8 (t8 p.2))).2.2.2.2.2.2.2.1 (t32 p.2).1 (t32 p.2).2.1 (t32 p.2).2.2.1 (t32 p.2).2.2.2.1 (t32 p.2).2.2.2.2.1)) (t8 (t8 (t8 p.2.2.1))).2.2.2.2.2.2.2.1 (t32 p.2.2.1).1 (t32 p.2).2.2.2.2.2.1 (t32 p.2.2.1).2.2.1 (t32 p.2.2.1).2.2.2.1 (Cmd.mk (t32 p.2.2.1).2.2.2.2.1 (t32 p.2.2.1).2.2.2.2.2.1 (t32 p.2.2.1).2.2.2.2.2.2.1 (t32 p.2.2.1).2.2.2.2.2.2.2.1 (t8 (t32 p.2.2.1)).1 (t32 p.2).2.2.2.2.2.2.1 (t8 (t32 p.2.2.1)).2.2.1) (t8 (t32 p.2.2.1)).2.2.2.1 (t8 (t32 p.2.2.1)).2.2.2.2.1),(State.mk p.2.2.2.1.1 p.2.2.2.1.2.1 (Lease.mk p.2.2.2.1.2.2.1 p.2.2.2.1.2.2.2.1 p.2.2.2.1.2.2.2.2.1 p.2.2.2.1.2.2.2.2.2.1 (t8 p.2).2.2.1 (t8 p.2).2.2.2.1 (t8 p.2).2.2.2.2.1) (t8 p.2.2.2.1).2.1 (t8 p.2.2.2.1).2.2.1 (t8 p.2.2.2.1).2.2.2.1 (t32 p.2).2.2.2.2.2.2.2.1 (A3Coll.mk (Coll.mk (t8 p.2.2.2.1).2.2.2.2.2.1 (t8 p.2.2.2.1).2.2.2.2.2.2.1 (t8 p.2.2.2.1).2.2.2.2.2.2.2.1 (t8 (t8 p.2.2.2.1)).1 (t8 (t8 p.2.2.2.1)).2.1 (t8 (t8 p.2.2.2.1)).2.2.1) (Coll.mk (t8 (t8 p.2.2.2.1)).2.2.2.1 (t8 (t8 p.2.2.2.1)).2.2.2.2.1 (t8 (t8 p.2.2.2.1)).2.2.2.2.2.1 (t8 (t8 p.2.2.2.1)).2.2.2.2.2.2.1 (t8 (t8 p.2.2.2.1)).2.2.2.2.2.2.2.1 (t8 (t8 (t8 p.2.2.2.1))).1) (Coll.mk (t8 (t8 (t8 p.2.2.2.1))).2.1 (t8 (t8 (t8 p.2.2.2.1))).2.2.1 (t8 (t8 (t8 p.2.2.2.1))).2.2.2.1 (t8 (t8 (t8 p.2.2.2.1))).2.2.2.2.1 (t8 (t8 (t8 p.2.2.2.1))).2.2.2.2.2.1 (t8 (t8 (t8 p.2.2.2.1))).2.2.2.2.2.2.1)) (t8 (t8 (t8 p.2.2.2.1))).2.2.2.2.2.2.2.1 (t32 p.2.2.2.1).1 (t8 p.2).2.2.2.2.2.1 (t32 p.2.2.2.1).2.2.1 (t32 p.2.2.2.1).2.2.2.1 (Cmd.mk (t32 p.2.2.2.1).2.2.2.2.1 (t32 p.2.2.2.1).2.2.2.2.2.1 (t32 p.2.2.2.1).2.2.2.2.2.2.1 (t32 p.2.2.2.1).2.2.2.2.2.2.2.1 (t8 (t32 p.2.2.2.1)).1 (t8 p.2).2.2.2.2.2.2.1 (t8 (t32 p.2.2.2.1)).2.2.1) (t8 (t32 p.2.2.2.1)).2.2.2.1 (t8 (t32 p.2.2.2.1)).2.2.2.2.1),p.2.2.2.2.1,p.2.2.2.2.2.1,p.2.2.2.2.2.2.1,p.2.2.2.2.2.2.2.1,p.2.2.2.2.2.2.2.2.1,(t8 p.2).1,(t8 p.2).2.1)) (fun (x:Int×Int×State×State×State×(List Slice)×(List Range)×(List Int)×(List Op)×(List Bool)×(List Want)×(List Op))=>((x.1,((),(x.2.1,((),())))),(x.2.2.1,((x.2.2.2.1.device,(x.2.2.2.1.epoch,(x.2.2.2.1.lease.device,(x.2.2.2.1.lease.epoch,(x.2.2.2.1.lease.until_,(x.2.2.2.1.lease.last,((),((),((),(x.2.2.2.1.ends,(x.2.2.2.1.seq,(x.2.2.2.1.sent,((),((),((),((),((),((),((),((),((),((),((),((),((),((),((),((),((),((),((),(x.2.2.2.1.at_,(x.2.2.2.1.ver,((),(x.2.2.2.1.req,(x.2.2.2.1.asked,(x.2.2.2.1.cmd.kind,(x.2.2.2.1.cmd.device,(x.2.2.2.1.cmd.epoch,(x.2.2.2.1.cmd.req,(x.2.2.2.1.cmd.n,((),(x.2.2.2.1.cmd.ops,(x.2.2.2.1.fenced,(x.2.2.2.1.now,()))))))))))))))))))))))))))))))))))))))))))))),((x.2.2.2.2.1.device,(x.2.2.2.2.1.epoch,(x.2.2.2.2.1.lease.device,(x.2.2.2.2.1.lease.epoch,(x.2.2.2.2.1.lease.until_,(x.2.2.2.2.1.lease.last,((),((),((),(x.2.2.2.2.1.ends,(x.2.2.2.2.1.seq,(x.2.2.2.2.1.sent,((),(x.2.2.2.2.1.colls.a0.v,(x.2.2.2.2.1.colls.a0.regs,(x.2.2.2.2.1.colls.a0.elems,(x.2.2.2.2.1.colls.a0.gone,(x.2.2.2.2.1.colls.a0.sums,(x.2.2.2.2.1.colls.a0.binds,(x.2.2.2.2.1.colls.a1.v,(x.2.2.2.2.1.colls.a1.regs,(x.2.2.2.2.1.colls.a1.elems,(x.2.2.2.2.1.colls.a1.gone,(x.2.2.2.2.1.colls.a1.sums,(x.2.2.2.2.1.colls.a1.binds,(x.2.2.2.2.1.colls.a2.v,(x.2.2.2.2.1.colls.a2.regs,(x.2.2.2.2.1.colls.a2.elems,(x.2.2.2.2.1.colls.a2.gone,(x.2.2.2.2.1.colls.a2.sums,(x.2.2.2.2.1.colls.a2.binds,(x.2.2.2.2.1.at_,(x.2.2.2.2.1.ver,((),(x.2.2.2.2.1.req,(x.2.2.2.2.1.asked,(x.2.2.2.2.1.cmd.kind,(x.2.2.2.2.1.cmd.device,(x.2.2.2.2.1.cmd.epoch,(x.2.2.2.2.1.cmd.req,(x.2.2.2.2.1.cmd.n,((),(x.2.2.2.2.1.cmd.ops,(x.2.2.2.2.1.fenced,(x.2.2.2.2.1.now,()))))))))))))))))))))))))))))))))))))))))))))),(x.2.2.2.2.2.1,(x.2.2.2.2.2.2.1,(x.2.2.2.2.2.2.2.1,(x.2.2.2.2.2.2.2.2.1,(x.2.2.2.2.2.2.2.2.2.1,(x.2.2.2.2.2.2.2.2.2.2.1,(x.2.2.2.2.2.2.2.2.2.2.2,(x.2.2.2.2.1.lease.slices,(x.2.2.2.2.1.lease.ids,(x.2.2.2.2.1.lease.used,(x.2.2.2.2.1.subs,(x.2.2.2.2.1.cmd.wants,(x.2.2.2.1.lease.slices,(x.2.2.2.1.lease.ids,(x.2.2.2.1.lease.used,(x.2.2.2.1.pending,(x.2.2.2.1.colls.a0.v,(x.2.2.2.1.colls.a0.regs,(x.2.2.2.1.colls.a0.elems,(x.2.2.2.1.colls.a0.gone,(x.2.2.2.1.colls.a0.sums,(x.2.2.2.1.colls.a0.binds,(x.2.2.2.1.colls.a1.v,(x.2.2.2.1.colls.a1.regs,(x.2.2.2.1.colls.a1.elems,(x.2.2.2.1.colls.a1.gone,(x.2.2.2.1.colls.a1.sums,(x.2.2.2.1.colls.a1.binds,(x.2.2.2.1.colls.a2.v,(x.2.2.2.1.colls.a2.regs,(x.2.2.2.1.colls.a2.elems,(x.2.2.2.1.colls.a2.gone,(x.2.2.2.1.colls.a2.sums,(x.2.2.2.1.colls.a2.binds,(x.2.2.2.1.subs,(x.2.2.2.1.cmd.wants,(x.2.2.2.2.1.pending,())))))))))))))))))))))))))))))))))))))))))) (fun _=>rfl)
def sl_L12_7:SFn TL:=SFn.two ch_L12_7.dec (fun p=>L12_7 p.1 p.2.1 p.2.2.1 p.2.2.2.1 p.2.2.2.2.1 p.2.2.2.2.2.1 p.2.2.2.2.2.2.1 p.2.2.2.2.2.2.2) (.exit 1) .ret co0_L12_7.enc co1_L12_7.enc
def cs_lL12_7:cL:=[(26,df_apply_)]
def ss_lL12_7:sL:=[(24,sf_localOwn),(20127002,sl_L27b_2)]
def v_L12_7:Env:=envOf tab sl sh [(25,fd25),(27,fd27b)] [(24,.sum),(26,.keep),(29,(.del 50))]
theorem v_L12_7_ok:EnvOK PR (mkD cs_lL12_7 ss_lL12_7) v_L12_7:=envOK_of base (aC (st25.okl rfl aN) (aC (st27b.okl rfl (aC (lC ok_L27b_2 rfl) aN)) aN)) (aC (okS rfl ok_localOwn) (aC (oD ok_apply_ rfl) (aC (okDel okI_29) aN)))
theorem run_L12_7 (x:tY20):Out.run (mkO cs_lL12_7 ss_lL12_7) (evRound v_L12_7 12 20 fd12.an q_L12_7 (loopIn (loopsOf fd12.body) 7) (ch_L12_7.enc x)) (back2 ch_L12_7 co0_L12_7 co1_L12_7 (.exit 1) .ret)=stp_L12_7 x:=by kernel_rfl
theorem ok_L12_7:LoopOK PR (oneS sl_L12_7) nt12 q_L12_7 (loopIn (loopsOf fd12.body) 7) :=
  loop_two v_L12_7_ok (loops:=12) (k:=20) (an:=fd12.an) (by kernel_rfl) (FnSt.subl rfl st12.keys (aC (.inl (by kernel_rfl)) aN)) ch_L12_7 co0_L12_7 co1_L12_7 (.exit 1) .ret rfl rfl stp_L12_7 _ run_L12_7 (fun x y h=>⟨_,h⟩) (fun _=>below_iff.1 rfl)
def delta (sx1:State)(i1:Int)(i2:Int)(l1:List Op):Option (State×Int) :=
 cond (i1 != sx1.at_)
 (ob (localOwn sx1) fun y0 =>
 some (y0,2))
 (cond (decide (i2 < i1))
 (ob (localOwn sx1) fun y1 =>
 some (y1,1))
 (ob (localOwn sx1) fun y2 =>
 ob (L12_7 i2 0 l1 (l1.length:Int) 0 sx1 (State.mk 0 0 (Lease.mk 0 0 0 0 [] [] []) 0 0 0 [] (A3Coll.mk (Coll.mk [] [] [] [] [] []) (Coll.mk [] [] [] [] [] []) (Coll.mk [] [] [] [] [] [])) 0 0 [] 0 0 (Cmd.mk 0 0 0 0 0 [] []) false 0) y2) fun y3 =>
 two y3 (fun a4 =>
 ob (localOwn (State.mk a4.2.2.2.2.device a4.2.2.2.2.epoch a4.2.2.2.2.lease a4.2.2.2.2.ends a4.2.2.2.2.seq a4.2.2.2.2.sent a4.2.2.2.2.pending a4.2.2.2.2.colls a4.1 a4.2.2.2.2.ver a4.2.2.2.2.subs a4.2.2.2.2.req a4.2.2.2.2.asked a4.2.2.2.2.cmd a4.2.2.2.2.fenced a4.2.2.2.2.now)) fun y6 =>
 some (y6,0)) (fun b5 =>
 some (b5.2.2.2.1,b5.2.1))))
def un_delta (p:State×Int×Int×(List Op)):Option (State×Int):=delta p.1 p.2.1 p.2.2.1 p.2.2.2
def df_delta:DFn TL:=DFn.of (DA.cons (DT.agg dc_State) (DA.cons dI (DA.cons dI (DA.one (DT.one di_lOp))))) un_delta (DA.cons (DT.agg dc_State) (DA.one dI))
theorem run_delta:DRun [] [(24,sf_localOwn),(112007,sl_L12_7)] (envOf tab sl sh [(12,fd12)] [(24,.sum)]) 12 (DA.cons (DT.agg dc_State) (DA.cons dI (DA.cons dI (DA.one (DT.one di_lOp))))) un_delta (DA.cons (DT.agg dc_State) (DA.one dI)):=fun _=>by kernel_rfl
theorem ok_delta:DOK PR 12 .keep df_delta:=dok run_delta (envOK_of base (aC (st12.okl rfl (aC (lC ok_L12_7 rfl) aN)) aN) (aC (okS rfl ok_localOwn) aN)) (.inl rfl) st12.enters
def known  : Option Bool :=
 ob (localNew 2 3 [true,true,true]) fun r0 =>
 ob (do_ r0.1 (Op.mk (Dot.mk 0 0 0) 0 0 1 s_k s_empty 0 0 [])) fun r1 =>
 some (cond (r0.2 == 0) (cond (r0.1.device == 2) (cond (r0.1.ver == 3) (r1.2 == 2) false) false) false)
def un_known (_:Unit):Option Bool:=known
def df_known:DFn TL:=DFn.of (DA.nil) un_known (DA.one dB)
theorem run_known:DRun [(11,df_localNew),(18,df_do_)] [] (envOf tab sl sh [(10,fd10)] [(11,.keep),(18,.keep)]) 10 (DA.nil) un_known (DA.one dB):=fun _=>by kernel_rfl
theorem ok_known:DOK PR 10 .pure df_known:=dok run_known (envOK_of base (aC (st10.okl rfl aN) aN) (aC (oD ok_localNew rfl) (aC (oD ok_do_ rfl) aN))) (.inr rfl) st10.enters
def within (i1:Int)(i2:Int):Option Int :=
 cond (decide (i2=0))
 none
 (some (cond (decide ((i1.tmod i2) < 0)) (w64 ((i1.tmod i2)+i2)) (i1.tmod i2)))
def un_within (p:Int×Int):Option Int:=within p.1 p.2
def df_within:DFn TL:=DFn.of (DA.cons dI (DA.one dI)) un_within (DA.one dI)
theorem run_within:DRun [] [] (envOf tab sl sh [(13,fd13)] []) 13 (DA.cons dI (DA.one dI)) un_within (DA.one dI):=fun _=>by kernel_rfl
theorem ok_within:DOK PR 13 .pure df_within:=dok run_within (envOK_of base (aC (st13.okl rfl aN) aN) aN) (.inr rfl) st13.enters
def ready  : Option State :=
 ob (localNew 1 3 [true,true,false]) fun r0 =>
 ob (begin_ r0.1 (Cmd.mk 1 0 0 0 0 [] [])) fun r1 =>
 ob (reply r1.1 1 (Reply.mk 0 1 (Lease.mk 0 0 0 0 [] [] []))) fun r2 =>
 ob (begin_ r2.1 (Cmd.mk 2 0 0 0 30 [(Want.mk s_a 4 3 5)] [])) fun r3 =>
 ob (reply r3.1 2 (Reply.mk 0 0 (Lease.mk 1 1 99 (-1) [(Slice.mk s_a 4 3 0 0)] [(Range.mk 0 5)] []))) fun r4 =>
 some r4.1
def un_ready (_:Unit):Option State:=ready
def df_ready:DFn TL:=DFn.of (DA.nil) un_ready (DA.one (DT.agg dc_State))
theorem run_ready:DRun [(11,df_localNew),(15,df_begin_),(16,df_reply)] [] (envOf tab sl sh [(19,fd19)] [(11,.keep),(15,.keep),(16,.keep)]) 19 (DA.nil) un_ready (DA.one (DT.agg dc_State)):=fun _=>by kernel_rfl
theorem ok_ready:DOK PR 19 .keep df_ready:=dok run_ready (envOK_of base (aC (st19.okl rfl aN) aN) (aC (oD ok_localNew rfl) (aC (oD ok_begin_ rfl) (aC (oD ok_reply rfl) aN)))) (.inl rfl) st19.enters
abbrev tY21:=(List Int)×Int×Bool×Int×Int×State
def step_L8_6 (l1:List Int)(i1:Int)(b1:Bool)(i2:Int)(i3:Int)(sx1:State):Option ((tY21)⊕(((Int×Bool×Int×State)⊕(Int×Bool×Int×State)))) :=
 cond (cond (decide (i3 < (l1.length:Int))) (decide (i3 < 12)) false)
 (cond (decide (0≤i3))
 (ob (l1[i3.toNat]?) fun e0 =>
 ob (within e0 3) fun r1 =>
 ob (do_ sx1 (Op.mk (Dot.mk 0 0 0) r1 0 2 s_k s_t 0 0 [])) fun r2 =>
 cond (r2.2 != 0)
 (some (.inr (.inr (i1,false,i2,sx1))))
 (some (.inl (l1,i1,b1,(w64 (i2+1)),(w64 (i3+1)),r2.1))))
 none)
 (some (.inr (.inl (i1,b1,i2,sx1))))
def stp_L8_6 (p:tY21):Option ((tY21)⊕(((Int×Bool×Int×State)⊕(Int×Bool×Int×State)))):=step_L8_6 p.1 p.2.1 p.2.2.1 p.2.2.2.1 p.2.2.2.2.1 p.2.2.2.2.2
def L8_6 (l1:List Int)(i1:Int)(b1:Bool)(i2:Int)(i3:Int)(sx1:State):Option (((Int×Bool×Int×State)⊕(Int×Bool×Int×State))):=iterO stp_L8_6 (((l1.length:Int) - i3).toNat+2) (l1,i1,b1,i2,i3,sx1)
def ch_L8_6:kT (tY21):=kO (kS 1 (kC (kF j_lInt) (kC kI (kC kB (kC (kP 0 0) (kC kI (kC kI kN)))))) (kC (Cod.var 0 43 cc_State) kN)) (fun ((z0,z1,z2,_,z3,z4,_),z5,_)=>(z0,z1,z2,z3,z4,z5)) (fun (x:tY21)=>((x.1,(x.2.1,(x.2.2.1,((),(x.2.2.2.1,(x.2.2.2.2.1,())))))),(x.2.2.2.2.2,()))) (fun _=>rfl)
def co0_L8_6:kT (Int×Bool×Int×State):=kO (kS 2 (kC kI (kC kB (kC (kP 0 0) (kC kI kN)))) (kC (Cod.var 0 43 cc_State) kN)) (fun p=>(p.1.1,p.1.2.1,p.1.2.2.2.1,p.2.1)) (fun (x:Int×Bool×Int×State)=>((x.1,(x.2.1,((),(x.2.2.1,())))),(x.2.2.2,()))) (fun _=>rfl)
def sl_L8_6:SFn TL:=SFn.two ch_L8_6.dec (fun p=>L8_6 p.1 p.2.1 p.2.2.1 p.2.2.2.1 p.2.2.2.2.1 p.2.2.2.2.2) (.exit 0) .ret co0_L8_6.enc co0_L8_6.enc
def cs_lL8_6:cL:=[(13,df_within),(18,df_do_)]
def v_L8_6:Env:=envOf tab sl sh [] [(13,.pure),(18,.keep)]
theorem v_L8_6_ok:EnvOK PR (mkD cs_lL8_6 sZ) v_L8_6:=envOK_of base aN (aC (oD ok_within rfl) (aC (oD ok_do_ rfl) aN))
theorem run_L8_6 (x:tY21):Out.run (mkO cs_lL8_6 sZ) (evRound v_L8_6 12 20 fd8.an q_L8_6 (loopIn (loopsOf fd8.body) 6) (ch_L8_6.enc x)) (back2 ch_L8_6 co0_L8_6 co0_L8_6 (.exit 0) .ret)=stp_L8_6 x:=by kernel_rfl
theorem ok_L8_6:LoopOK PR (oneS sl_L8_6) nt8 q_L8_6 (loopIn (loopsOf fd8.body) 6) :=
  loop_two v_L8_6_ok (loops:=12) (k:=20) (an:=fd8.an) (by kernel_rfl) (FnSt.subl rfl st8.keys (aC (.inl (by kernel_rfl)) (aC (.inl (by kernel_rfl)) (aC (.inl (by kernel_rfl)) (aC (.inl (by kernel_rfl)) aN))))) ch_L8_6 co0_L8_6 co0_L8_6 (.exit 0) .ret rfl rfl stp_L8_6 _ run_L8_6 (fun x y h=>⟨_,h⟩) (fun _=>below_iff.1 rfl)
abbrev tY22:=Int×Bool×Int×(List Op)×Int×Int×Int×State
abbrev tY23:=Int×Bool×Int×(List Op)×Int×Int×State
def step_L8_18 (i1:Int)(b1:Bool)(i2:Int)(l1:List Op)(i3:Int)(i4:Int)(i5:Int)(sx1:State):Option ((tY22)⊕(tY23)) :=
 cond (decide (i5 < i2))
 (cond (decide (i5≥i1))
 (some (.inl (i1,b1,i2,l1,i3,(w64 (i4+1)),(w64 (i5+1)),sx1)))
 (cond (decide (0≤i5))
 (ob (l1[i5.toNat]?) fun e0 =>
 some (.inl (i1,b1,i2,l1,i3,(cond (e0.coll != 2) (w64 (i4+1)) i4),(w64 (i5+1)),sx1)))
 none))
 (some (.inr (i1,b1,i2,l1,i3,i4,sx1)))
def stp_L8_18 (p:tY22):Option ((tY22)⊕(tY23)):=step_L8_18 p.1 p.2.1 p.2.2.1 p.2.2.2.1 p.2.2.2.2.1 p.2.2.2.2.2.1 p.2.2.2.2.2.2.1 p.2.2.2.2.2.2.2
def L8_18 (i1:Int)(b1:Bool)(i2:Int)(l1:List Op)(i3:Int)(i4:Int)(i5:Int)(sx1:State):Option tY23:=iterO stp_L8_18 ((i2 - i5).toNat+2) (i1,b1,i2,l1,i3,i4,i5,sx1)
def ch_L8_18:kT (tY22):=kO (kS 1 (kC kI (kC kB (kC (kP 0 0) (kC kI (kC (kF j_lOp) (kC kI (kC kI (kC kI kN)))))))) (kC (Cod.var 0 43 cc_State) kN)) (fun ((z0,z1,_,z2,z3,z4,z5,z6,_),z7,_)=>(z0,z1,z2,z3,z4,z5,z6,z7)) (fun (x:tY22)=>((x.1,(x.2.1,((),(x.2.2.1,(x.2.2.2.1,(x.2.2.2.2.1,(x.2.2.2.2.2.1,(x.2.2.2.2.2.2.1,())))))))),(x.2.2.2.2.2.2.2,()))) (fun _=>rfl)
def co0_L8_18:kT (tY23):=kO (kS 2 (kC kI (kC kB (kC (kP 0 0) (kC kI (kC (kF j_lOp) (kC kI (kC kI kN))))))) (kC (Cod.var 0 43 cc_State) kN)) (fun ((z0,z1,_,z2,z3,z4,z5,_),z6,_)=>(z0,z1,z2,z3,z4,z5,z6)) (fun (x:tY23)=>((x.1,(x.2.1,((),(x.2.2.1,(x.2.2.2.1,(x.2.2.2.2.1,(x.2.2.2.2.2.1,()))))))),(x.2.2.2.2.2.2,()))) (fun _=>rfl)
def sl_L8_18:SFn TL:=SFn.one ch_L8_18.dec (fun p=>L8_18 p.1 p.2.1 p.2.2.1 p.2.2.2.1 p.2.2.2.2.1 p.2.2.2.2.2.1 p.2.2.2.2.2.2.1 p.2.2.2.2.2.2.2) (.exit 2) co0_L8_18.enc
def v_L8_18:Env:=envOf tab sl sh [] []
theorem v_L8_18_ok:EnvOK PR (mkD cZ sZ) v_L8_18:=envOK_of base aN aN
theorem run_L8_18 (x:tY22):Out.run (mkO cZ sZ) (evRound v_L8_18 12 20 fd8.an q_L8_18 (loopIn (loopsOf fd8.body) 18) (ch_L8_18.enc x)) (back ch_L8_18 co0_L8_18 fun e=>exE e (.exit 2))=stp_L8_18 x:=by kernel_rfl
theorem ok_L8_18:LoopOK PR (oneS sl_L8_18) nt8 q_L8_18 (loopIn (loopsOf fd8.body) 18) :=
  loop_one v_L8_18_ok (loops:=12) (k:=20) (an:=fd8.an) (by kernel_rfl) (FnSt.subl rfl st8.keys (aC (.inl (by kernel_rfl)) (aC (.inl (by kernel_rfl)) (aC (.inl (by kernel_rfl)) (aC (.inl (by kernel_rfl)) aN))))) ch_L8_18 co0_L8_18 (.exit 2) rfl stp_L8_18 _ run_L8_18 (fun x y h=>⟨_,h⟩) (fun _=>below_iff.1 rfl)
def step_L8_26 (i1:Int)(b1:Bool)(i2:Int)(l1:List Op)(i3:Int)(i4:Int)(sx1:State):Option ((tY23)⊕(((Int×Bool×State)⊕(Int×Bool×State)))) :=
 cond (decide (i4 < i2))
 (cond (decide (0≤i4))
 (ob (l1[i4.toNat]?) fun e0 =>
 cond (e0.coll == 2)
 (some (.inl (i1,b1,i2,l1,i3,(w64 (i4+1)),sx1)))
 (cond (decide (0≤i4))
 (cond (decide (i4≤(w64 (i4+1))))
 (cond (decide ((w64 (i4+1))≤(l1.length:Int)))
 (ob (delta sx1 i3 (w64 (i3+1)) ((l1.take (((w64 (i4+1))).toNat)).drop i4.toNat)) fun r1 =>
 cond (cond (r1.2 != 0) true (cond ((r1.1.pending.length:Int) != (w64 ((sx1.pending.length:Int) - 1))) true (decide (r1.1.sent < sx1.sent))))
 (some (.inr (.inr (i1,false,sx1))))
 (some (.inl (i1,b1,i2,l1,(w64 (i3+1)),(w64 (i4+1)),r1.1))))
 none)
 none)
 none))
 none)
 (some (.inr (.inl (i1,b1,sx1))))
def stp_L8_26 (p:tY23):Option ((tY23)⊕(((Int×Bool×State)⊕(Int×Bool×State)))):=step_L8_26 p.1 p.2.1 p.2.2.1 p.2.2.2.1 p.2.2.2.2.1 p.2.2.2.2.2.1 p.2.2.2.2.2.2
def L8_26 (i1:Int)(b1:Bool)(i2:Int)(l1:List Op)(i3:Int)(i4:Int)(sx1:State):Option (((Int×Bool×State)⊕(Int×Bool×State))):=iterO stp_L8_26 ((i2 - i4).toNat+2) (i1,b1,i2,l1,i3,i4,sx1)
def ch_L8_26:kT (tY23):=kO (kS 1 (kC kI (kC kB (kC (kP 0 0) (kC kI (kC (kF j_lOp) (kC kI (kC kI kN))))))) (kC (Cod.var 0 43 cc_State) kN)) (fun ((z0,z1,_,z2,z3,z4,z5,_),z6,_)=>(z0,z1,z2,z3,z4,z5,z6)) (fun (x:tY23)=>((x.1,(x.2.1,((),(x.2.2.1,(x.2.2.2.1,(x.2.2.2.2.1,(x.2.2.2.2.2.1,()))))))),(x.2.2.2.2.2.2,()))) (fun _=>rfl)
def co0_L8_26:kT (Int×Bool×State):=kO (kS 2 (kC kI (kC kB (kC (kP 0 0) kN))) (kC (Cod.var 0 43 cc_State) kN)) (fun p=>(p.1.1,p.1.2.1,p.2.1)) (fun (x:Int×Bool×State)=>((x.1,(x.2.1,((),()))),(x.2.2,()))) (fun _=>rfl)
def sl_L8_26:SFn TL:=SFn.two ch_L8_26.dec (fun p=>L8_26 p.1 p.2.1 p.2.2.1 p.2.2.2.1 p.2.2.2.2.1 p.2.2.2.2.2.1 p.2.2.2.2.2.2) (.exit 4) .ret co0_L8_26.enc co0_L8_26.enc
def cs_lL8_26:cL:=[(12,df_delta)]
def v_L8_26:Env:=envOf tab sl sh [] [(12,.keep)]
theorem v_L8_26_ok:EnvOK PR (mkD cs_lL8_26 sZ) v_L8_26:=envOK_of base aN (aC (oD ok_delta rfl) aN)
theorem run_L8_26 (x:tY23):Out.run (mkO cs_lL8_26 sZ) (evRound v_L8_26 12 20 fd8.an q_L8_26 (loopIn (loopsOf fd8.body) 26) (ch_L8_26.enc x)) (back2 ch_L8_26 co0_L8_26 co0_L8_26 (.exit 4) .ret)=stp_L8_26 x:=by kernel_rfl
theorem ok_L8_26:LoopOK PR (oneS sl_L8_26) nt8 q_L8_26 (loopIn (loopsOf fd8.body) 26) :=
  loop_two v_L8_26_ok (loops:=12) (k:=20) (an:=fd8.an) (by kernel_rfl) (FnSt.subl rfl st8.keys (aC (.inl (by kernel_rfl)) (aC (.inl (by kernel_rfl)) (aC (.inl (by kernel_rfl)) (aC (.inl (by kernel_rfl)) aN))))) ch_L8_26 co0_L8_26 co0_L8_26 (.exit 4) .ret rfl rfl stp_L8_26 _ run_L8_26 (fun x y h=>⟨_,h⟩) (fun _=>below_iff.1 rfl)
def step_L8_34 (i1:Int)(b1:Bool)(i2:Int)(sx1:State):Option ((Int×Bool×Int×State)⊕(((Bool×State)⊕(Bool×State)))) :=
 cond (decide (i2 < (sx1.pending.length:Int)))
 (cond (decide (0≤i2))
 (ob (sx1.pending[i2.toNat]?) fun e0 =>
 cond (e0.coll != 2)
 (some (.inr (.inr (false,sx1))))
 (cond (decide (0≤i2))
 (ob (sx1.pending[i2.toNat]?) fun e1 =>
 cond (decide (e1.dot.seq≤i1))
 (some (.inr (.inr (false,sx1))))
 (some (.inl (i1,b1,(w64 (i2+1)),sx1))))
 none))
 none)
 (some (.inr (.inl (b1,sx1))))
def stp_L8_34 (p:Int×Bool×Int×State):Option ((Int×Bool×Int×State)⊕(((Bool×State)⊕(Bool×State)))):=step_L8_34 p.1 p.2.1 p.2.2.1 p.2.2.2
def L8_34 (i1:Int)(b1:Bool)(i2:Int)(sx1:State):Option (((Bool×State)⊕(Bool×State))):=iterO stp_L8_34 (1099511627776) (i1,b1,i2,sx1)
def ch_L8_34:kT (Int×Bool×Int×State):=kO (kS 1 (kC kI (kC kB (kC (kP 0 0) (kC kI kN)))) (kC (Cod.var 0 43 cc_State) kN)) (fun p=>(p.1.1,p.1.2.1,p.1.2.2.2.1,p.2.1)) (fun (x:Int×Bool×Int×State)=>((x.1,(x.2.1,((),(x.2.2.1,())))),(x.2.2.2,()))) (fun _=>rfl)
def co0_L8_34:kT (Bool×State):=kO (kS 2 (kC kB kN) (kC (Cod.var 0 43 cc_State) kN)) (fun p=>(p.1.1,p.2.1)) (fun (x:Bool×State)=>((x.1,()),(x.2,()))) (fun _=>rfl)
def sl_L8_34:SFn TL:=SFn.two ch_L8_34.dec (fun p=>L8_34 p.1 p.2.1 p.2.2.1 p.2.2.2) (.exit 6) .ret co0_L8_34.enc co0_L8_34.enc
def v_L8_34:Env:=envOf tab sl sh [] []
theorem v_L8_34_ok:EnvOK PR (mkD cZ sZ) v_L8_34:=envOK_of base aN aN
theorem run_L8_34 (x:Int×Bool×Int×State):Out.run (mkO cZ sZ) (evRound v_L8_34 12 20 fd8.an q_L8_34 (loopIn (loopsOf fd8.body) 34) (ch_L8_34.enc x)) (back2 ch_L8_34 co0_L8_34 co0_L8_34 (.exit 6) .ret)=stp_L8_34 x:=by kernel_rfl
theorem ok_L8_34:LoopOK PR (oneS sl_L8_34) nt8 q_L8_34 (loopIn (loopsOf fd8.body) 34) :=
  loop_two v_L8_34_ok (loops:=12) (k:=20) (an:=fd8.an) (by kernel_rfl) (FnSt.subl rfl st8.keys (aC (.inl (by kernel_rfl)) (aC (.inl (by kernel_rfl)) (aC (.inl (by kernel_rfl)) (aC (.inl (by kernel_rfl)) aN))))) ch_L8_34 co0_L8_34 co0_L8_34 (.exit 6) .ret rfl rfl stp_L8_34 _ run_L8_34 (fun x y h=>⟨_,h⟩) (fun _=>below_iff.1 rfl)
def localShed (l1:List Int)(i1:Int):Option Bool :=
 ob (known) fun r0 =>
 cond (!r0)
 (some false)
 (ob (ready) fun r1 =>
 ob (L8_6 l1 i1 false 0 0 r1) fun y2 =>
 two y2 (fun a3 =>
 ob (within a3.1 (w64 (a3.2.2.1+1))) fun r5 =>
 ob (reply a3.2.2.2 0 (Reply.mk 0 r5 (Lease.mk 0 0 0 0 [] [] []))) fun r6 =>
 ob (L8_18 r5 a3.2.1 a3.2.2.1 a3.2.2.2.pending r6.2 0 0 r6.1) fun y7 =>
 cond (cond (y7.2.2.2.2.1 != 0) true (cond (y7.2.2.2.2.2.2.sent != y7.1) true ((y7.2.2.2.2.2.2.pending.length:Int) != y7.2.2.2.2.2.1)))
 (some false)
 (ob (L8_26 y7.1 y7.2.1 y7.2.2.1 y7.2.2.2.1 0 0 y7.2.2.2.2.2.2) fun y8 =>
 two y8 (fun a9 =>
 ob (L8_34 a9.1 a9.2.1 0 a9.2.2) fun y11 =>
 two y11 (fun _ =>
 some true) (fun b13 =>
 some b13.1)) (fun b10 =>
 some b10.2.1))) (fun b4 =>
 some b4.2.1))
def un_localShed (p:(List Int)×Int):Option Bool:=localShed p.1 p.2
def df_localShed:DFn TL:=DFn.of (DA.cons (DT.one di_lInt) (DA.one dI)) un_localShed (DA.one dB)
theorem run_localShed:DRun [(10,df_known),(19,df_ready),(13,df_within),(16,df_reply)] [(108006,sl_L8_6),(108018,sl_L8_18),(108026,sl_L8_26),(108034,sl_L8_34)] (envOf tab sl sh [(8,fd8)] [(10,.pure),(19,.keep),(13,.pure),(16,.keep)]) 8 (DA.cons (DT.one di_lInt) (DA.one dI)) un_localShed (DA.one dB):=fun _=>by kernel_rfl
theorem ok_localShed:DOK PR 8 .pure df_localShed:=dok run_localShed (envOK_of base (aC (st8.okl rfl (aC (lC ok_L8_6 rfl) (aC (lC ok_L8_18 rfl) (aC (lC ok_L8_26 rfl) (aC (lC ok_L8_34 rfl) aN))))) aN) (aC (oD ok_known rfl) (aC (oD ok_ready rfl) (aC (oD ok_within rfl) (aC (oD ok_reply rfl) aN))))) (.inr rfl) st8.enters
end
end Go.Proofs.YthhfjodcgibhfaaGreat
