/- By program (gen.py): the functions in their typed form. -/
import Derived.Test.YthhfjodcgibhfaaGreatF0
import Derived.Test.YthhfjodcgibhfaaGreatLb
namespace Go.Proofs.YthhfjodcgibhfaaGreat
open Go Go.Ev
set_option maxRecDepth 1000000
noncomputable section
def reply (sx1:State)(i1:Int)(rx1:Reply):Option (State×Int) :=
 cond (i1 == 0)
 (ob (localOwn sx1) fun y0 =>
 cond (y0.epoch == 0)
 (ob (localOwn y0) fun y9 =>
 some (y9,2))
 (cond (rx1.err == 16)
 (ob (localOwn (State.mk y0.device y0.epoch y0.lease y0.ends y0.seq y0.sent y0.pending y0.colls y0.at_ y0.ver y0.subs y0.req y0.asked y0.cmd true y0.now)) fun y10 =>
 some (y10,0))
 (cond (rx1.err != 0)
 (ob (localOwn y0) fun y11 =>
 some (y11,0))
 (cond (decide (rx1.n≤y0.seq))
 (ob (L27_2 0 (y0.pending.length:Int) 0 (State.mk y0.device y0.epoch y0.lease y0.ends y0.seq (max2 y0.sent rx1.n) y0.pending y0.colls y0.at_ y0.ver y0.subs y0.req y0.asked y0.cmd y0.fenced y0.now)) fun y1 =>
 two y1 (fun a2 =>
 ob (localOwn a2.2) fun y12 =>
 some (y12,0)) (fun b3 =>
 cond (b3.1 == (-1))
 (ob (localOwn b3.2) fun y13 =>
 some (y13,0))
 (ob (L70_5 b3.1 (w64 (b3.1+1)) b3.2) fun y4 =>
 cond (decide (0≤y4.1))
 (cond (decide (y4.1≤(y4.2.pending.length:Int)))
 (cond (decide ((y4.2.pending.length:Int)≤(y4.2.pending.length:Int)))
 (cond (decide (0≤y4.1))
 (cond (decide (y4.1≤((((y4.2.pending.take y4.1.toNat)++(List.replicate (((y4.2.pending.length:Int)).toNat - y4.1.toNat) (Op.mk (Dot.mk 0 0 0) 0 0 0 s_empty s_empty 0 0 [])))++((y4.2.pending.take y4.2.pending.length).drop (y4.1.toNat+(((y4.2.pending.length:Int)).toNat - y4.1.toNat)))).length:Int)))
 (ob (localOwn (State.mk y4.2.device y4.2.epoch y4.2.lease y4.2.ends y4.2.seq y4.2.sent ((((y4.2.pending.take y4.1.toNat)++(List.replicate (((y4.2.pending.length:Int)).toNat - y4.1.toNat) (Op.mk (Dot.mk 0 0 0) 0 0 0 s_empty s_empty 0 0 [])))++((y4.2.pending.take y4.2.pending.length).drop (y4.1.toNat+(((y4.2.pending.length:Int)).toNat - y4.1.toNat)))).take y4.1.toNat) y4.2.colls y4.2.at_ y4.2.ver y4.2.subs y4.2.req y4.2.asked y4.2.cmd y4.2.fenced y4.2.now)) fun y14 =>
 some (y14,0))
 none)
 none)
 none)
 none)
 none)))
 (ob (L27_2 0 (y0.pending.length:Int) 0 y0) fun y5 =>
 two y5 (fun a6 =>
 ob (localOwn a6.2) fun y15 =>
 some (y15,0)) (fun b7 =>
 cond (b7.1 == (-1))
 (ob (localOwn b7.2) fun y16 =>
 some (y16,0))
 (ob (L70_5 b7.1 (w64 (b7.1+1)) b7.2) fun y8 =>
 cond (decide (0≤y8.1))
 (cond (decide (y8.1≤(y8.2.pending.length:Int)))
 (cond (decide ((y8.2.pending.length:Int)≤(y8.2.pending.length:Int)))
 (cond (decide (0≤y8.1))
 (cond (decide (y8.1≤((((y8.2.pending.take y8.1.toNat)++(List.replicate (((y8.2.pending.length:Int)).toNat - y8.1.toNat) (Op.mk (Dot.mk 0 0 0) 0 0 0 s_empty s_empty 0 0 [])))++((y8.2.pending.take y8.2.pending.length).drop (y8.1.toNat+(((y8.2.pending.length:Int)).toNat - y8.1.toNat)))).length:Int)))
 (ob (localOwn (State.mk y8.2.device y8.2.epoch y8.2.lease y8.2.ends y8.2.seq y8.2.sent ((((y8.2.pending.take y8.1.toNat)++(List.replicate (((y8.2.pending.length:Int)).toNat - y8.1.toNat) (Op.mk (Dot.mk 0 0 0) 0 0 0 s_empty s_empty 0 0 [])))++((y8.2.pending.take y8.2.pending.length).drop (y8.1.toNat+(((y8.2.pending.length:Int)).toNat - y8.1.toNat)))).take y8.1.toNat) y8.2.colls y8.2.at_ y8.2.ver y8.2.subs y8.2.req y8.2.asked y8.2.cmd y8.2.fenced y8.2.now)) fun y17 =>
 some (y17,0))
 none)
 none)
 none)
 none)
 none)))))))
 (cond (cond (sx1.cmd.kind == 0) true (i1 != sx1.req))
 (ob (localOwn sx1) fun y18 =>
 some (y18,2))
 (ob (localOwn sx1) fun y19 =>
 ob (answered y19 rx1) fun r20 =>
 ob (localOwn r20) fun y21 =>
 some (y21,0)))
def un_reply (p:State×Int×Reply):Option (State×Int):=reply p.1 p.2.1 p.2.2
def df_reply:DFn TL:=DFn.of (DA.cons (DT.agg dc_State) (DA.cons dI (DA.one (DT.agg dc_Reply)))) un_reply (DA.cons (DT.agg dc_State) (DA.one dI))
theorem run_reply:DRun [(39,df_answered)] [(24,sf_localOwn),(170005,sl_L70_5),(127002,sl_L27_2)] (envOf tab sl sh [(16,fd16),(38,fd38),(70,fd70),(27,fd27)] [(24,.sum),(39,.keep)]) 16 (DA.cons (DT.agg dc_State) (DA.cons dI (DA.one (DT.agg dc_Reply)))) un_reply (DA.cons (DT.agg dc_State) (DA.one dI)):=fun _=>by kernel_rfl
theorem ok_reply:DOK PR 16 .keep df_reply:=dok run_reply (envOK_of base (aC (st16.okl rfl aN) (aC (st38.okl rfl aN) (aC (st70.okl rfl (aC (lC ok_L70_5 rfl) aN)) (aC (st27.okl rfl (aC (lC ok_L27_2 rfl) aN)) aN)))) (aC (okS rfl ok_localOwn) (aC (oD ok_answered rfl) aN))) (.inl rfl) st16.enters
def time (sx1:State)(i1:Int):Option (State×Int) :=
 cond (cond (decide (i1 < 0)) true (decide (i1 > 100)))
 (ob (localOwn sx1) fun y0 =>
 some (y0,1))
 (cond (decide ((w64 (sx1.now+i1)) > 1099511627776))
 (ob (localOwn sx1) fun y1 =>
 some (y1,11))
 (ob (localOwn sx1) fun y2 =>
 some ((State.mk y2.device y2.epoch y2.lease y2.ends y2.seq y2.sent y2.pending y2.colls y2.at_ y2.ver y2.subs y2.req y2.asked y2.cmd y2.fenced (w64 (y2.now+i1))),0)))
def un_time (p:State×Int):Option (State×Int):=time p.1 p.2
def df_time:DFn TL:=DFn.of (DA.cons (DT.agg dc_State) (DA.one dI)) un_time (DA.cons (DT.agg dc_State) (DA.one dI))
theorem run_time:DRun [] [(24,sf_localOwn)] (envOf tab sl sh [(17,fd17)] [(24,.sum)]) 17 (DA.cons (DT.agg dc_State) (DA.one dI)) un_time (DA.cons (DT.agg dc_State) (DA.one dI)):=fun _=>by kernel_rfl
theorem ok_time:DOK PR 17 .keep df_time:=dok run_time (envOK_of base (aC (st17.okl rfl aN) aN) (aC (okS rfl ok_localOwn) aN)) (.inl rfl) st17.enters
abbrev tY19:=Int×(List Op)×Int×Int×Coll×Coll
def step_L21_5 (i1:Int)(l1:List Op)(i2:Int)(i3:Int)(c1:Coll)(c2:Coll):Option ((tY19)⊕(Coll×Coll)) :=
 cond (decide (i3 < i2))
 (cond (decide (0≤i3))
 (ob (l1[i3.toNat]?) fun e0 =>
 cond (e0.coll != i1)
 (some (.inl (i1,l1,i2,(w64 (i3+1)),c1,c2)))
 (ob (apply_ c2 e0) fun r1 =>
 cond (r1.2 == 0)
 (some (.inl (i1,l1,i2,(w64 (i3+1)),c1,r1.1)))
 (some (.inl (i1,l1,i2,(w64 (i3+1)),c1,c2)))))
 none)
 (some (.inr (c1,c2)))
def stp_L21_5 (p:tY19):Option ((tY19)⊕(Coll×Coll)):=step_L21_5 p.1 p.2.1 p.2.2.1 p.2.2.2.1 p.2.2.2.2.1 p.2.2.2.2.2
def L21_5 (i1:Int)(l1:List Op)(i2:Int)(i3:Int)(c1:Coll)(c2:Coll):Option (Coll×Coll):=iterO stp_L21_5 ((i2 - i3).toNat+2) (i1,l1,i2,i3,c1,c2)
def ch_L21_5:kT (tY19):=kO (kS 8 (kC kI (kC (kP 0 0) (kC (kP 1 0) (kC (kF j_lOp) (kC kI (kC kI kN)))))) (kC (Cod.var 0 36 (kC (kA 2) (kC (kA 3) (kC (kA 4) (kC (kA 5) (kC (kA 6) (kC (kA 7) kN))))))) (kC (Cod.var 1 36 cc_Coll) (kC (kR 2 112 j_lDot) (kC (kR 3 103 j_lReg) (kC (kR 4 100 j_lElem) (kC (kR 5 48 j_lDot) (kC (kR 6 118 j_lSum) (kC (kR 7 121 j_lBind) kN))))))))) (fun ((z0,_,_,z1,z2,z3,_),_,z4,z5,z6,z7,z8,z9,z10,_)=>(z0,z1,z2,z3,(Coll.mk z5 z6 z7 z8 z9 z10),z4)) (fun (x:tY19)=>((x.1,((),((),(x.2.1,(x.2.2.1,(x.2.2.2.1,())))))),(((),((),((),((),((),((),())))))),(x.2.2.2.2.2,(x.2.2.2.2.1.v,(x.2.2.2.2.1.regs,(x.2.2.2.2.1.elems,(x.2.2.2.2.1.gone,(x.2.2.2.2.1.sums,(x.2.2.2.2.1.binds,())))))))))) (fun _=>rfl)
def co0_L21_5:kT (Coll×Coll):=kO (kS 16 (kC (kP 0 0) (kC (kP 1 0) kN)) (kC (Cod.var 0 36 (kC (kA 2) (kC (kA 3) (kC (kA 4) (kC (kA 5) (kC (kA 6) (kC (kA 7) kN))))))) (kC (Cod.var 1 36 cc_Coll) (kC (kR 2 112 j_lDot) (kC (kR 3 103 j_lReg) (kC (kR 4 100 j_lElem) (kC (kR 5 48 j_lDot) (kC (kR 6 118 j_lSum) (kC (kR 7 121 j_lBind) kN))))))))) (fun (_,_,z0,z1,z2,z3,z4,z5,z6,_)=>((Coll.mk z1 z2 z3 z4 z5 z6),z0)) (fun (x:Coll×Coll)=>(((),((),())),(((),((),((),((),((),((),())))))),(x.2,(x.1.v,(x.1.regs,(x.1.elems,(x.1.gone,(x.1.sums,(x.1.binds,())))))))))) (fun _=>rfl)
def sl_L21_5:SFn TL:=SFn.one ch_L21_5.dec (fun p=>L21_5 p.1 p.2.1 p.2.2.1 p.2.2.2.1 p.2.2.2.2.1 p.2.2.2.2.2) (.exit 0) co0_L21_5.enc
def cs_lL21_5:cL:=[(26,df_apply_)]
def v_L21_5:Env:=envOf tab sl sh [] [(26,.keep)]
theorem v_L21_5_ok:EnvOK PR (mkD cs_lL21_5 sZ) v_L21_5:=envOK_of base aN (aC (oD ok_apply_ rfl) aN)
theorem run_L21_5 (x:tY19):Out.run (mkO cs_lL21_5 sZ) (evRound v_L21_5 12 20 fd21.an q_L21_5 (loopIn (loopsOf fd21.body) 5) (ch_L21_5.enc x)) (back ch_L21_5 co0_L21_5 fun e=>exE e (.exit 0))=stp_L21_5 x:=by kernel_rfl
theorem ok_L21_5:LoopOK PR (oneS sl_L21_5) nt21 q_L21_5 (loopIn (loopsOf fd21.body) 5) :=
  loop_one v_L21_5_ok (loops:=12) (k:=20) (an:=fd21.an) (by kernel_rfl) (FnSt.subl rfl st21.keys (aC (.inl (by kernel_rfl)) aN)) ch_L21_5 co0_L21_5 (.exit 0) rfl stp_L21_5 _ run_L21_5 (fun x y h=>⟨_,h⟩) (fun _=>below_iff.1 rfl)
def view (sx1:State)(i1:Int):Option Coll :=
 cond (cond (decide (i1 < 0)) true (decide (i1≥3)))
 (some (Coll.mk [] [] [] [] [] []))
 (cond (decide (i1=0))
 (ob (L21_5 i1 sx1.pending (sx1.pending.length:Int) 0 (Coll.mk [] [] [] [] [] []) sx1.colls.a0) fun y0 =>
 ob (collection y0.2) fun y1 =>
 some y1)
 (cond (decide (i1=1))
 (ob (L21_5 i1 sx1.pending (sx1.pending.length:Int) 0 (Coll.mk [] [] [] [] [] []) sx1.colls.a1) fun y2 =>
 ob (collection y2.2) fun y3 =>
 some y3)
 (cond (decide (i1=2))
 (ob (L21_5 i1 sx1.pending (sx1.pending.length:Int) 0 (Coll.mk [] [] [] [] [] []) sx1.colls.a2) fun y4 =>
 ob (collection y4.2) fun y5 =>
 some y5)
 none)))
def un_view (p:State×Int):Option Coll:=view p.1 p.2
def df_view:DFn TL:=DFn.of (DA.cons (DT.agg dc_State) (DA.one dI)) un_view (DA.one (DT.agg dc_Coll))
theorem run_view:DRun [] [(44,sf_collection),(121005,sl_L21_5)] (envOf tab sl sh [(21,fd21)] [(44,.sum)]) 21 (DA.cons (DT.agg dc_State) (DA.one dI)) un_view (DA.one (DT.agg dc_Coll)):=fun _=>by kernel_rfl
theorem ok_view:DOK PR 21 .keep df_view:=dok run_view (envOK_of base (aC (st21.okl rfl (aC (lC ok_L21_5 rfl) aN)) aN) (aC (okS rfl ok_collection) aN)) (.inl rfl) st21.enters
def do_ (sx1:State)(o1:Op):Option (State×Int) :=
 cond (sx1.epoch == 0)
 (ob (localOwn sx1) fun y0 =>
 some (y0,2))
 (cond (sx1.fenced)
 (ob (localOwn sx1) fun y1 =>
 some (y1,16))
 (cond (decide ((sx1.pending.length:Int)≥200))
 (ob (localOwn sx1) fun y2 =>
 some (y2,17))
 (cond (decide (sx1.seq≥1073741824))
 (ob (localOwn sx1) fun y3 =>
 some (y3,11))
 (cond (cond (o1.kind == 3) (cond (decide (o1.coll≥0)) (decide (o1.coll < 3)) false) false)
 (ob (view sx1 o1.coll) fun r4 =>
 ob (collDots r4 o1.key o1.text) fun r5 =>
 cond (decide (0≤(min2 (r5.length:Int) 8)))
 (cond (decide ((min2 (r5.length:Int) 8)=(min2 (r5.length:Int) 8)))
 (cond (decide ((min2 (r5.length:Int) 8)≤(r5.length:Int)))
 (cond (fits ((r5.take (((min2 (r5.length:Int) 8)).toNat)).length))
 (ob (opsCheck (Op.mk (Dot.mk sx1.device sx1.epoch (w64 (sx1.seq+1))) o1.coll sx1.ver o1.kind o1.key o1.text o1.n sx1.now (r5.take (((min2 (r5.length:Int) 8)).toNat)))) fun r6 =>
 cond (r6 != 0)
 (ob (localOwn sx1) fun y7 =>
 some (y7,r6))
 (cond (cond (o1.kind != 4) (o1.kind != 5) false)
 (ob (localOwn sx1) fun y9 =>
 cond (fits ((y9.pending++[(Op.mk (Dot.mk sx1.device sx1.epoch (w64 (sx1.seq+1))) o1.coll sx1.ver o1.kind o1.key o1.text o1.n sx1.now (r5.take (((min2 (r5.length:Int) 8)).toNat)))]).length))
 (ob (localOwn (State.mk y9.device y9.epoch sx1.lease y9.ends (w64 (y9.seq+1)) y9.sent (y9.pending++[(Op.mk (Dot.mk sx1.device sx1.epoch (w64 (sx1.seq+1))) o1.coll sx1.ver o1.kind o1.key o1.text o1.n sx1.now (r5.take (((min2 (r5.length:Int) 8)).toNat)))]) y9.colls y9.at_ y9.ver y9.subs y9.req y9.asked y9.cmd y9.fenced y9.now)) fun y10 =>
 some (y10,0))
 none)
 (cond (!(sx1.lease.epoch != 0))
 (ob (localOwn sx1) fun y11 =>
 some (y11,14))
 (cond (cond (decide (sx1.now≥sx1.ends)) true (sx1.lease.last != (-1)))
 (ob (localOwn sx1) fun y12 =>
 some (y12,15))
 (ob (spend sx1.lease (Op.mk (Dot.mk sx1.device sx1.epoch (w64 (sx1.seq+1))) o1.coll sx1.ver o1.kind o1.key o1.text o1.n sx1.now (r5.take (((min2 (r5.length:Int) 8)).toNat)))) fun r8 =>
 cond (r8.2 != 0)
 (ob (localOwn sx1) fun y13 =>
 some (y13,r8.2))
 (ob (localOwn sx1) fun y14 =>
 cond (fits ((y14.pending++[(Op.mk (Dot.mk sx1.device sx1.epoch (w64 (sx1.seq+1))) o1.coll sx1.ver o1.kind o1.key o1.text o1.n sx1.now (r5.take (((min2 (r5.length:Int) 8)).toNat)))]).length))
 (ob (localOwn (State.mk y14.device y14.epoch r8.1 y14.ends (w64 (y14.seq+1)) y14.sent (y14.pending++[(Op.mk (Dot.mk sx1.device sx1.epoch (w64 (sx1.seq+1))) o1.coll sx1.ver o1.kind o1.key o1.text o1.n sx1.now (r5.take (((min2 (r5.length:Int) 8)).toNat)))]) y14.colls y14.at_ y14.ver y14.subs y14.req y14.asked y14.cmd y14.fenced y14.now)) fun y15 =>
 some (y15,0))
 none))))))
 none)
 none)
 none)
 none)
 (ob (opsCheck (Op.mk (Dot.mk sx1.device sx1.epoch (w64 (sx1.seq+1))) o1.coll sx1.ver o1.kind o1.key o1.text o1.n sx1.now [])) fun r16 =>
 cond (r16 != 0)
 (ob (localOwn sx1) fun y17 =>
 some (y17,r16))
 (cond (cond (o1.kind != 4) (o1.kind != 5) false)
 (ob (localOwn sx1) fun y19 =>
 cond (fits ((y19.pending++[(Op.mk (Dot.mk sx1.device sx1.epoch (w64 (sx1.seq+1))) o1.coll sx1.ver o1.kind o1.key o1.text o1.n sx1.now [])]).length))
 (ob (localOwn (State.mk y19.device y19.epoch sx1.lease y19.ends (w64 (y19.seq+1)) y19.sent (y19.pending++[(Op.mk (Dot.mk sx1.device sx1.epoch (w64 (sx1.seq+1))) o1.coll sx1.ver o1.kind o1.key o1.text o1.n sx1.now [])]) y19.colls y19.at_ y19.ver y19.subs y19.req y19.asked y19.cmd y19.fenced y19.now)) fun y20 =>
 some (y20,0))
 none)
 (cond (!(sx1.lease.epoch != 0))
 (ob (localOwn sx1) fun y21 =>
 some (y21,14))
 (cond (cond (decide (sx1.now≥sx1.ends)) true (sx1.lease.last != (-1)))
 (ob (localOwn sx1) fun y22 =>
 some (y22,15))
 (ob (spend sx1.lease (Op.mk (Dot.mk sx1.device sx1.epoch (w64 (sx1.seq+1))) o1.coll sx1.ver o1.kind o1.key o1.text o1.n sx1.now [])) fun r18 =>
 cond (r18.2 != 0)
 (ob (localOwn sx1) fun y23 =>
 some (y23,r18.2))
 (ob (localOwn sx1) fun y24 =>
 cond (fits ((y24.pending++[(Op.mk (Dot.mk sx1.device sx1.epoch (w64 (sx1.seq+1))) o1.coll sx1.ver o1.kind o1.key o1.text o1.n sx1.now [])]).length))
 (ob (localOwn (State.mk y24.device y24.epoch r18.1 y24.ends (w64 (y24.seq+1)) y24.sent (y24.pending++[(Op.mk (Dot.mk sx1.device sx1.epoch (w64 (sx1.seq+1))) o1.coll sx1.ver o1.kind o1.key o1.text o1.n sx1.now [])]) y24.colls y24.at_ y24.ver y24.subs y24.req y24.asked y24.cmd y24.fenced y24.now)) fun y25 =>
 some (y25,0))
 none))))))))))
def un_do_ (p:State×Op):Option (State×Int):=do_ p.1 p.2
def df_do_:DFn TL:=DFn.of (DA.cons (DT.agg dc_State) (DA.one (DT.agg dc_Op))) un_do_ (DA.cons (DT.agg dc_State) (DA.one dI))
theorem run_do_:DRun [(21,df_view),(40,df_collDots),(42,df_opsCheck),(75,df_spend)] [(24,sf_localOwn)] (envOf tab sl sh [(18,fd18),(43,fd43),(66,fd66)] [(24,.sum),(21,.keep),(40,.keep),(41,(.cln 48)),(42,.pure),(75,.keep)]) 18 (DA.cons (DT.agg dc_State) (DA.one (DT.agg dc_Op))) un_do_ (DA.cons (DT.agg dc_State) (DA.one dI)):=fun _=>by kernel_rfl
theorem ok_do_:DOK PR 18 .keep df_do_:=dok run_do_ (envOK_of base (aC (st18.okl rfl aN) (aC (st43.okl rfl aN) (aC (st66.okl rfl aN) aN))) (aC (okS rfl ok_localOwn) (aC (oD ok_view rfl) (aC (oD ok_collDots rfl) (aC (okCln okI_41) (aC (oD ok_opsCheck rfl) (aC (oD ok_spend rfl) aN))))))) (.inl rfl) st18.enters
def known  : Option Bool :=
 ob (localNew 2 3 [true,true,true]) fun r0 =>
 ob (do_ r0.1 (Op.mk (Dot.mk 0 0 0) 0 0 1 s_k s_empty 0 0 [])) fun r1 =>
 some (cond (r0.2 == 0) (cond (r0.1.device == 2) (cond (r0.1.ver == 3) (r1.2 == 2) false) false) false)
def un_known (_:Unit):Option Bool:=known
def df_known:DFn TL:=DFn.of (DA.nil) un_known (DA.one dB)
theorem run_known:DRun [(11,df_localNew),(18,df_do_)] [] (envOf tab sl sh [(10,fd10)] [(11,.keep),(18,.keep)]) 10 (DA.nil) un_known (DA.one dB):=fun _=>by kernel_rfl
theorem ok_known:DOK PR 10 .pure df_known:=dok run_known (envOK_of base (aC (st10.okl rfl aN) aN) (aC (oD ok_localNew rfl) (aC (oD ok_do_ rfl) aN))) (.inr rfl) st10.enters
def within (i1:Int)(i2:Int):Option Int :=
 cond (decide (i2=0))
 none
 (some (cond (decide ((i1.tmod i2) < 0)) (w64 ((i1.tmod i2)+i2)) (i1.tmod i2)))
def un_within (p:Int×Int):Option Int:=within p.1 p.2
def df_within:DFn TL:=DFn.of (DA.cons dI (DA.one dI)) un_within (DA.one dI)
theorem run_within:DRun [] [] (envOf tab sl sh [(13,fd13)] []) 13 (DA.cons dI (DA.one dI)) un_within (DA.one dI):=fun _=>by kernel_rfl
theorem ok_within:DOK PR 13 .pure df_within:=dok run_within (envOK_of base (aC (st13.okl rfl aN) aN) aN) (.inr rfl) st13.enters
def ready  : Option State :=
 ob (localNew 1 3 [true,true,false]) fun r0 =>
 ob (begin_ r0.1 (Cmd.mk 1 0 0 0 0 [] [])) fun r1 =>
 ob (reply r1.1 1 (Reply.mk 0 1 (Lease.mk 0 0 0 0 [] [] []))) fun r2 =>
 ob (begin_ r2.1 (Cmd.mk 2 0 0 0 30 [(Want.mk s_a 4 3 5)] [])) fun r3 =>
 ob (reply r3.1 2 (Reply.mk 0 0 (Lease.mk 1 1 99 (-1) [(Slice.mk s_a 4 3 0 0)] [(Range.mk 0 5)] []))) fun r4 =>
 some r4.1
def un_ready (_:Unit):Option State:=ready
def df_ready:DFn TL:=DFn.of (DA.nil) un_ready (DA.one (DT.agg dc_State))
theorem run_ready:DRun [(11,df_localNew),(15,df_begin_),(16,df_reply)] [] (envOf tab sl sh [(19,fd19)] [(11,.keep),(15,.keep),(16,.keep)]) 19 (DA.nil) un_ready (DA.one (DT.agg dc_State)):=fun _=>by kernel_rfl
theorem ok_ready:DOK PR 19 .keep df_ready:=dok run_ready (envOK_of base (aC (st19.okl rfl aN) aN) (aC (oD ok_localNew rfl) (aC (oD ok_begin_ rfl) (aC (oD ok_reply rfl) aN)))) (.inl rfl) st19.enters
abbrev tY20:=(List Int)×(List Bool)×Bool×Int×Int×Int×State
def step_L6_7 (l1:List Int)(l2:List Bool)(b1:Bool)(i1:Int)(i2:Int)(i3:Int)(sx1:State):Option ((tY20)⊕(((Bool×State)⊕(Bool×State)))) :=
 cond (cond (decide (i3 < (l1.length:Int))) (decide (i3 < 20)) false)
 (cond (decide (0≤i3))
 (ob (l1[i3.toNat]?) fun e0 =>
 ob (within e0 9) fun r1 =>
 ob (time sx1 r1) fun r2 =>
 cond (decide (i3 < (l2.length:Int)))
 (cond (decide (0≤i3))
 (ob (l2[i3.toNat]?) fun e3 =>
 cond (e3)
 (ob (do_ r2.1 (Op.mk (Dot.mk 5 9 77) 0 1 3 s_k s_t 0 99 [])) fun r4 =>
 cond (cond (r4.2 != 0) true ((r4.1.pending.length:Int) != (w64 (i3+1))))
 (some (.inr (.inr (false,r2.1))))
 (cond (decide (0≤i3))
 (ob (r4.1.pending[i3.toNat]?) fun e5 =>
 cond (cond (!(cond (e5.dot.device == 1) (cond (e5.dot.epoch == 1) (cond (e5.dot.seq == (w64 (i3+1))) true false) false) false)) true (cond (e5.ver != 3) true (e5.time != (w64 (i1+r1)))))
 (some (.inr (.inr (false,r2.1))))
 (cond (e3)
 (cond ((e5.dots.length:Int) != (min2 i2 8))
 (some (.inr (.inr (false,r2.1))))
 (ob (view r4.1 0) fun r6 =>
 ob (refDots r6 s_k s_t) fun r7 =>
 cond ((r7.length:Int) != (w64 (i2 - (e5.dots.length:Int))))
 (some (.inr (.inr (false,r4.1))))
 (some (.inl (l1,l2,b1,(w64 (i1+r1)),(w64 (i2 - (e5.dots.length:Int))),(w64 (i3+1)),r4.1)))))
 (cond ((e5.dots.length:Int) != 0)
 (some (.inr (.inr (false,r2.1))))
 (ob (view r4.1 0) fun r8 =>
 ob (refDots r8 s_k s_t) fun r9 =>
 cond ((r9.length:Int) != (w64 (i2+1)))
 (some (.inr (.inr (false,r4.1))))
 (some (.inl (l1,l2,b1,(w64 (i1+r1)),(w64 (i2+1)),(w64 (i3+1)),r4.1)))))))
 none))
 (ob (do_ r2.1 (Op.mk (Dot.mk 5 9 77) 0 1 2 s_k s_t 0 99 [])) fun r10 =>
 cond (cond (r10.2 != 0) true ((r10.1.pending.length:Int) != (w64 (i3+1))))
 (some (.inr (.inr (false,r2.1))))
 (cond (decide (0≤i3))
 (ob (r10.1.pending[i3.toNat]?) fun e11 =>
 cond (cond (!(cond (e11.dot.device == 1) (cond (e11.dot.epoch == 1) (cond (e11.dot.seq == (w64 (i3+1))) true false) false) false)) true (cond (e11.ver != 3) true (e11.time != (w64 (i1+r1)))))
 (some (.inr (.inr (false,r2.1))))
 (cond (e3)
 (cond ((e11.dots.length:Int) != (min2 i2 8))
 (some (.inr (.inr (false,r2.1))))
 (ob (view r10.1 0) fun r12 =>
 ob (refDots r12 s_k s_t) fun r13 =>
 cond ((r13.length:Int) != (w64 (i2 - (e11.dots.length:Int))))
 (some (.inr (.inr (false,r10.1))))
 (some (.inl (l1,l2,b1,(w64 (i1+r1)),(w64 (i2 - (e11.dots.length:Int))),(w64 (i3+1)),r10.1)))))
 (cond ((e11.dots.length:Int) != 0)
 (some (.inr (.inr (false,r2.1))))
 (ob (view r10.1 0) fun r14 =>
 ob (refDots r14 s_k s_t) fun r15 =>
 cond ((r15.length:Int) != (w64 (i2+1)))
 (some (.inr (.inr (false,r10.1))))
 (some (.inl (l1,l2,b1,(w64 (i1+r1)),(w64 (i2+1)),(w64 (i3+1)),r10.1)))))))
 none)))
 none)
 (ob (do_ r2.1 (Op.mk (Dot.mk 5 9 77) 0 1 2 s_k s_t 0 99 [])) fun r16 =>
 cond (cond (r16.2 != 0) true ((r16.1.pending.length:Int) != (w64 (i3+1))))
 (some (.inr (.inr (false,r2.1))))
 (cond (decide (0≤i3))
 (ob (r16.1.pending[i3.toNat]?) fun e17 =>
 cond (cond (!(cond (e17.dot.device == 1) (cond (e17.dot.epoch == 1) (cond (e17.dot.seq == (w64 (i3+1))) true false) false) false)) true (cond (e17.ver != 3) true (e17.time != (w64 (i1+r1)))))
 (some (.inr (.inr (false,r2.1))))
 (cond ((e17.dots.length:Int) != 0)
 (some (.inr (.inr (false,r2.1))))
 (ob (view r16.1 0) fun r18 =>
 ob (refDots r18 s_k s_t) fun r19 =>
 cond ((r19.length:Int) != (w64 (i2+1)))
 (some (.inr (.inr (false,r16.1))))
 (some (.inl (l1,l2,b1,(w64 (i1+r1)),(w64 (i2+1)),(w64 (i3+1)),r16.1))))))
 none)))
 none)
 (some (.inr (.inl (b1,sx1))))
def stp_L6_7 (p:tY20):Option ((tY20)⊕(((Bool×State)⊕(Bool×State)))):=step_L6_7 p.1 p.2.1 p.2.2.1 p.2.2.2.1 p.2.2.2.2.1 p.2.2.2.2.2.1 p.2.2.2.2.2.2
def L6_7 (l1:List Int)(l2:List Bool)(b1:Bool)(i1:Int)(i2:Int)(i3:Int)(sx1:State):Option (((Bool×State)⊕(Bool×State))):=iterO stp_L6_7 (((l1.length:Int) - i3).toNat+2) (l1,l2,b1,i1,i2,i3,sx1)
def ch_L6_7:kT (tY20):=kO (kS 1 (kC (kF j_lInt) (kC (kF j_lBool) (kC kB (kC (kP 0 0) (kC kI (kC kI (kC kI kN))))))) (kC (Cod.var 0 43 cc_State) kN)) (fun ((z0,z1,z2,_,z3,z4,z5,_),z6,_)=>(z0,z1,z2,z3,z4,z5,z6)) (fun (x:tY20)=>((x.1,(x.2.1,(x.2.2.1,((),(x.2.2.2.1,(x.2.2.2.2.1,(x.2.2.2.2.2.1,()))))))),(x.2.2.2.2.2.2,()))) (fun _=>rfl)
def co0_L6_7:kT (Bool×State):=kO (kS 2 (kC kB kN) (kC (Cod.var 0 43 cc_State) kN)) (fun p=>(p.1.1,p.2.1)) (fun (x:Bool×State)=>((x.1,()),(x.2,()))) (fun _=>rfl)
def sl_L6_7:SFn TL:=SFn.two ch_L6_7.dec (fun p=>L6_7 p.1 p.2.1 p.2.2.1 p.2.2.2.1 p.2.2.2.2.1 p.2.2.2.2.2.1 p.2.2.2.2.2.2) (.exit 0) .ret co0_L6_7.enc co0_L6_7.enc
def cs_lL6_7:cL:=[(13,df_within),(17,df_time),(18,df_do_),(21,df_view),(20,df_refDots)]
def v_L6_7:Env:=envOf tab sl sh [] [(13,.pure),(17,.keep),(18,.keep),(21,.keep),(20,.keep)]
theorem v_L6_7_ok:EnvOK PR (mkD cs_lL6_7 sZ) v_L6_7:=envOK_of base aN (aC (oD ok_within rfl) (aC (oD ok_time rfl) (aC (oD ok_do_ rfl) (aC (oD ok_view rfl) (aC (oD ok_refDots rfl) aN)))))
theorem run_L6_7 (x:tY20):Out.run (mkO cs_lL6_7 sZ) (evRound v_L6_7 12 20 fd6.an q_L6_7 (loopIn (loopsOf fd6.body) 7) (ch_L6_7.enc x)) (back2 ch_L6_7 co0_L6_7 co0_L6_7 (.exit 0) .ret)=stp_L6_7 x:=by kernel_rfl
theorem ok_L6_7:LoopOK PR (oneS sl_L6_7) nt6 q_L6_7 (loopIn (loopsOf fd6.body) 7) :=
  loop_two v_L6_7_ok (loops:=12) (k:=20) (an:=fd6.an) (by kernel_rfl) (FnSt.subl rfl st6.keys (aC (.inl (by kernel_rfl)) aN)) ch_L6_7 co0_L6_7 co0_L6_7 (.exit 0) .ret rfl rfl stp_L6_7 _ run_L6_7 (fun x y h=>⟨_,h⟩) (fun _=>below_iff.1 rfl)
def localOps (l1:List Int)(l2:List Bool):Option Bool :=
 ob (known) fun r0 =>
 cond (!r0)
 (some false)
 (ob (ready) fun r1 =>
 ob (L6_7 l1 l2 false 0 0 0 r1) fun y2 =>
 two y2 (fun _ =>
 some true) (fun b4 =>
 some b4.1))
def un_localOps (p:(List Int)×(List Bool)):Option Bool:=localOps p.1 p.2
def df_localOps:DFn TL:=DFn.of (DA.cons (DT.one di_lInt) (DA.one (DT.one di_lBool))) un_localOps (DA.one dB)
theorem run_localOps:DRun [(10,df_known),(19,df_ready)] [(106007,sl_L6_7)] (envOf tab sl sh [(6,fd6)] [(10,.pure),(19,.keep)]) 6 (DA.cons (DT.one di_lInt) (DA.one (DT.one di_lBool))) un_localOps (DA.one dB):=fun _=>by kernel_rfl
theorem ok_localOps:DOK PR 6 .pure df_localOps:=dok run_localOps (envOK_of base (aC (st6.okl rfl (aC (lC ok_L6_7 rfl) aN)) aN) (aC (oD ok_known rfl) (aC (oD ok_ready rfl) aN))) (.inr rfl) st6.enters
end
end Go.Proofs.YthhfjodcgibhfaaGreat
