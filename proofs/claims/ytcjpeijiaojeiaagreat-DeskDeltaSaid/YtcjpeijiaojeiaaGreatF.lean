/- By program (gen.py): the functions in their typed form. -/
import Derived.Test.YtcjpeijiaojeiaaGreatF1
import Derived.Test.YtcjpeijiaojeiaaGreatLb
namespace Go.Proofs.YtcjpeijiaojeiaaGreat
open Go Go.Ev
set_option maxRecDepth 1000000
noncomputable section
abbrev tY28:=(List Range)×Int×(List Range)×Int
def step_L143_5 (l1:List Range)(i1:Int)(l2:List Range)(i2:Int):Option ((tY28)⊕((List Range))) :=
 cond (decide (i2 < (l1.length:Int)))
 (cond (decide (0≤i2))
 (ob (l1[i2.toNat]?) fun e0 =>
 cond (cond (decide (i1 < e0.from_)) true (decide (i1≥e0.to_)))
 (cond (fits ((l2++[e0]).length))
 (some (.inl (l1,i1,(l2++[e0]),(w64 (i2+1)))))
 none)
 (cond (decide (e0.from_ < i1))
 (cond (fits ((l2++[(Range.mk e0.from_ i1)]).length))
 (cond (decide ((w64 (i1+1)) < e0.to_))
 (cond (fits (((l2++[(Range.mk e0.from_ i1)])++[(Range.mk (w64 (i1+1)) e0.to_)]).length))
 (some (.inl (l1,i1,((l2++[(Range.mk e0.from_ i1)])++[(Range.mk (w64 (i1+1)) e0.to_)]),(w64 (i2+1)))))
 none)
 (some (.inl (l1,i1,(l2++[(Range.mk e0.from_ i1)]),(w64 (i2+1))))))
 none)
 (cond (decide ((w64 (i1+1)) < e0.to_))
 (cond (fits ((l2++[(Range.mk (w64 (i1+1)) e0.to_)]).length))
 (some (.inl (l1,i1,(l2++[(Range.mk (w64 (i1+1)) e0.to_)]),(w64 (i2+1)))))
 none)
 (some (.inl (l1,i1,l2,(w64 (i2+1))))))))
 none)
 (some (.inr l2))
def stp_L143_5 (p:tY28):Option ((tY28)⊕((List Range))):=step_L143_5 p.1 p.2.1 p.2.2.1 p.2.2.2
def L143_5 (l1:List Range)(i1:Int)(l2:List Range)(i2:Int):Option ((List Range)):=iterO stp_L143_5 (((l1.length:Int) - i2).toNat+2) (l1,i1,l2,i2)
def ch_L143_5:kT (tY28):=kO (kS 1 (kC (kF j_lRange) (kC kI (kC (Cod.xs (Cod.sc (kA 0))) (kC kI kN)))) (kC (kR 0 153 j_lRange) kN)) (fun p=>(p.1.1,p.1.2.1,p.2.1,p.1.2.2.2.1)) (fun (x:tY28)=>((x.1,(x.2.1,((),(x.2.2.2,())))),(x.2.2.1,()))) (fun _=>rfl)
def co0_L143_5:kT ((List Range)):=kO (kS 2 (kC (Cod.xs (Cod.sc (kA 1))) kN) (kC (kR 1 153 j_lRange) kN)) (fun p=>p.2.1) (fun (x:(List Range))=>(((),()),(x,()))) (fun _=>rfl)
def sl_L143_5:SFn TL:=SFn.one ch_L143_5.dec (fun p=>L143_5 p.1 p.2.1 p.2.2.1 p.2.2.2) (.exit 0) co0_L143_5.enc
def v_L143_5:Env:=envOf tab sl sh [] []
theorem v_L143_5_ok:EnvOK PR (mkD cZ sZ) v_L143_5:=envOK_of base aN aN
theorem run_L143_5 (x:tY28):Out.run (mkO cZ sZ) (evRound v_L143_5 12 20 fd143.an q_L143_5 (loopIn (loopsOf fd143.body) 5) (ch_L143_5.enc x)) (back ch_L143_5 co0_L143_5 fun e=>exE e (.exit 0))=stp_L143_5 x:=by kernel_rfl
theorem ok_L143_5:LoopOK PR (oneS sl_L143_5) nt143 q_L143_5 (loopIn (loopsOf fd143.body) 5) :=
  loop_one v_L143_5_ok (loops:=12) (k:=20) (an:=fd143.an) (by kernel_rfl) (FnSt.subl rfl st143.keys (aC (.inl (by kernel_rfl)) aN)) ch_L143_5 co0_L143_5 (.exit 0) rfl stp_L143_5 _ run_L143_5 (fun x y h=>⟨_,h⟩) (fun _=>below_iff.1 rfl)
def ref11Less (l1:List Range)(i1:Int):Option ((List Range)×Bool) :=
 ob (ref11Has l1 i1) fun r0 =>
 cond (!r0)
 (some ([],false))
 (ob (L143_5 l1 i1 [] 0) fun y1 =>
 some (y1,true))
def un_ref11Less (p:(List Range)×Int):Option ((List Range)×Bool):=ref11Less p.1 p.2
def df_ref11Less:DFn TL:=DFn.of (DA.cons (DT.one di_lRange) (DA.one dI)) un_ref11Less (DA.cons (DT.one di_lRange) (DA.one dB))
theorem run_ref11Less:DRun [(94,df_ref11Has)] [(243005,sl_L143_5)] (envOf tab sl sh [(143,fd143)] [(94,.pure)]) 143 (DA.cons (DT.one di_lRange) (DA.one dI)) un_ref11Less (DA.cons (DT.one di_lRange) (DA.one dB)):=fun _=>by kernel_rfl
theorem ok_ref11Less:DOK PR 143 .keep df_ref11Less:=dok run_ref11Less (envOK_of base (aC (st143.okl rfl (aC (lC ok_L143_5 rfl) aN)) aN) (aC (oD ok_ref11Has rfl) aN)) (.inl rfl) st143.enters
def step_L102_13 (i1:Int)(i2:Int)(bx1:Book)(bx2:Book)(lx1:Lease):Option ((tY27)⊕(Int×Book×Book×Lease)) :=
 cond (decide (i2 < (lx1.used.length:Int)))
 (cond (decide (0≤i2))
 (ob (lx1.used[i2.toNat]?) fun e0 =>
 ob (ref11Less lx1.ids e0) fun r1 =>
 cond (r1.2)
 (cond (decide (0≤i2))
 (ob (lx1.used[i2.toNat]?) fun e2 =>
 ob (ref12_rise bx1.bound e2) fun r3 =>
 some (.inl (i1,(w64 (i2+1)),(Book.mk bx1.counters bx1.free bx1.leases r3),bx2,(Lease.mk lx1.device lx1.epoch lx1.until_ lx1.last lx1.slices r1.1 lx1.used))))
 none)
 (cond (decide (0≤i2))
 (ob (lx1.used[i2.toNat]?) fun e4 =>
 ob (ref12_rise bx1.bound e4) fun r5 =>
 some (.inl (i1,(w64 (i2+1)),(Book.mk bx1.counters bx1.free bx1.leases r5),bx2,lx1)))
 none))
 none)
 (some (.inr (i1,bx1,bx2,lx1)))
def stp_L102_13 (p:tY27):Option ((tY27)⊕(Int×Book×Book×Lease)):=step_L102_13 p.1 p.2.1 p.2.2.1 p.2.2.2.1 p.2.2.2.2
def L102_13 (i1:Int)(i2:Int)(bx1:Book)(bx2:Book)(lx1:Lease):Option (Int×Book×Book×Lease):=iterO stp_L102_13 (1099511627776) (i1,i2,bx1,bx2,lx1)
def sl_L102_13:SFn TL:=SFn.one ch_L102_6.dec (fun p=>L102_13 p.1 p.2.1 p.2.2.1 p.2.2.2.1 p.2.2.2.2) (.exit 2) co0_L102_6.enc
def cs_lL102_13:cL:=[(143,df_ref11Less),(144,df_ref12_rise)]
def v_L102_13:Env:=envOf tab sl sh [] [(143,.keep),(144,.keep)]
theorem v_L102_13_ok:EnvOK PR (mkD cs_lL102_13 sZ) v_L102_13:=envOK_of base aN (aC (oD ok_ref11Less rfl) (aC (oD ok_ref12_rise rfl) aN))
theorem run_L102_13 (x:tY27):Out.run (mkO cs_lL102_13 sZ) (evRound v_L102_13 12 20 fd102.an q_L102_13 (loopIn (loopsOf fd102.body) 13) (ch_L102_6.enc x)) (back ch_L102_6 co0_L102_6 fun e=>exE e (.exit 2))=stp_L102_13 x:=by kernel_rfl
theorem ok_L102_13:LoopOK PR (oneS sl_L102_13) nt102 q_L102_13 (loopIn (loopsOf fd102.body) 13) :=
  loop_one v_L102_13_ok (loops:=12) (k:=20) (an:=fd102.an) (by kernel_rfl) (FnSt.subl rfl st102.keys (aC (.inl (by kernel_rfl)) (aC (.inl (by kernel_rfl)) (aC (.inl (by kernel_rfl)) aN)))) ch_L102_6 co0_L102_6 (.exit 2) rfl stp_L102_13 _ run_L102_13 (fun x y h=>⟨_,h⟩) (fun _=>below_iff.1 rfl)
def step_L102_20 (i1:Int)(i2:Int)(bx1:Book)(bx2:Book)(lx1:Lease):Option ((tY27)⊕(Int×Book×Book×Lease)) :=
 cond (decide (i2 < (lx1.ids.length:Int)))
 (cond (decide (0≤i2))
 (ob (lx1.ids[i2.toNat]?) fun e0 =>
 ob (ref11Add bx1.free e0) fun r1 =>
 some (.inl (i1,(w64 (i2+1)),(Book.mk bx1.counters r1 bx1.leases bx1.bound),bx2,lx1)))
 none)
 (some (.inr (i1,bx1,bx2,lx1)))
def stp_L102_20 (p:tY27):Option ((tY27)⊕(Int×Book×Book×Lease)):=step_L102_20 p.1 p.2.1 p.2.2.1 p.2.2.2.1 p.2.2.2.2
def L102_20 (i1:Int)(i2:Int)(bx1:Book)(bx2:Book)(lx1:Lease):Option (Int×Book×Book×Lease):=iterO stp_L102_20 (1099511627776) (i1,i2,bx1,bx2,lx1)
def co0_L102_20:kT (Int×Book×Book×Lease):=kO (kS 16 (kC kI (kC (kP 0 0) (kC (kP 1 0) kN))) (kC (Cod.var 0 29 (kC (kA 3) (kC (kG j_lRange) (kC (kG j_lLease) (kC (kG j_lInt) kN))))) (kC (Cod.var 1 29 (kC (kA 4) (kC (kA 5) (kC (kA 6) (kC (kA 7) kN))))) (kC (Cod.var 2 43 cc_Lease) (kC (kR 3 65 j_lCounter) (kC (kR 4 65 j_lCounter) (kC (kR 5 153 j_lRange) (kC (kR 6 43 j_lLease) (kC (kR 7 3 j_lInt) kN))))))))) (fun ((z0,_),(_,z1,z2,z3,_),_,z4,z5,z6,z7,z8,z9,_)=>(z0,(Book.mk z5 z1 z2 z3),(Book.mk z6 z7 z8 z9),z4)) (fun (x:Int×Book×Book×Lease)=>((x.1,((),((),()))),(((),(x.2.1.free,(x.2.1.leases,(x.2.1.bound,())))),(((),((),((),((),())))),(x.2.2.2,(x.2.1.counters,(x.2.2.1.counters,(x.2.2.1.free,(x.2.2.1.leases,(x.2.2.1.bound,())))))))))) (fun _=>rfl)
def sl_L102_20:SFn TL:=SFn.one ch_L102_6.dec (fun p=>L102_20 p.1 p.2.1 p.2.2.1 p.2.2.2.1 p.2.2.2.2) (.exit 4) co0_L102_20.enc
def cs_lL102_20:cL:=[(125,df_ref11Add)]
def v_L102_20:Env:=envOf tab sl sh [] [(125,.keep)]
theorem v_L102_20_ok:EnvOK PR (mkD cs_lL102_20 sZ) v_L102_20:=envOK_of base aN (aC (oD ok_ref11Add rfl) aN)
theorem run_L102_20 (x:tY27):Out.run (mkO cs_lL102_20 sZ) (evRound v_L102_20 12 20 fd102.an q_L102_20 (loopIn (loopsOf fd102.body) 20) (ch_L102_6.enc x)) (back ch_L102_6 co0_L102_20 fun e=>exE e (.exit 4))=stp_L102_20 x:=by kernel_rfl
theorem ok_L102_20:LoopOK PR (oneS sl_L102_20) nt102 q_L102_20 (loopIn (loopsOf fd102.body) 20) :=
  loop_one v_L102_20_ok (loops:=12) (k:=20) (an:=fd102.an) (by kernel_rfl) (FnSt.subl rfl st102.keys (aC (.inl (by kernel_rfl)) (aC (.inl (by kernel_rfl)) (aC (.inl (by kernel_rfl)) aN)))) ch_L102_6 co0_L102_20 (.exit 4) rfl stp_L102_20 _ run_L102_20 (fun x y h=>⟨_,h⟩) (fun _=>below_iff.1 rfl)
def ref12Free (bx1:Book)(i1:Int)(i2:Int):Option (Book×Int) :=
 ob (ref12Find bx1 i1 i2) fun r0 =>
 cond (!r0.2)
 (some (bx1,2))
 (cond (fits (([]++bx1.counters).length))
 (ob (L102_6 i1 0 (Book.mk ([]++bx1.counters) bx1.free bx1.leases bx1.bound) (Book.mk [] [] [] []) r0.1) fun y1 =>
 ob (L102_13 y1.1 0 y1.2.1 y1.2.2.1 y1.2.2.2) fun y2 =>
 ob (L102_20 y2.1 0 y2.2.1 y2.2.2.1 y2.2.2.2) fun y3 =>
 ob (ref12_at y3.2.1 y3.1) fun r4 =>
 cond (decide (0≤r4))
 (cond (decide (r4≤(y3.2.1.leases.length:Int)))
 (cond (fits (([]++(y3.2.1.leases.take r4.toNat)).length))
 (cond (decide (0≤(w64 (r4+1))))
 (cond (decide ((w64 (r4+1))≤(y3.2.1.leases.length:Int)))
 (cond (decide ((y3.2.1.leases.length:Int)≤(y3.2.1.leases.length:Int)))
 (cond (fits ((([]++(y3.2.1.leases.take r4.toNat))++((y3.2.1.leases.take (((y3.2.1.leases.length:Int)).toNat)).drop (((w64 (r4+1))).toNat))).length))
 (some ((Book.mk y3.2.1.counters y3.2.1.free (([]++(y3.2.1.leases.take r4.toNat))++((y3.2.1.leases.take (((y3.2.1.leases.length:Int)).toNat)).drop (((w64 (r4+1))).toNat))) y3.2.1.bound),0))
 none)
 none)
 none)
 none)
 none)
 none)
 none)
 none)
def un_ref12Free (p:Book×Int×Int):Option (Book×Int):=ref12Free p.1 p.2.1 p.2.2
def df_ref12Free:DFn TL:=DFn.of (DA.cons (DT.agg dc_Book) (DA.cons dI (DA.one dI))) un_ref12Free (DA.cons (DT.agg dc_Book) (DA.one dI))
theorem run_ref12Free:DRun [(98,df_ref12Find),(137,df_ref12_at)] [(202006,sl_L102_6),(202013,sl_L102_13),(202020,sl_L102_20)] (envOf tab sl sh [(102,fd102)] [(98,.keep),(137,.pure)]) 102 (DA.cons (DT.agg dc_Book) (DA.cons dI (DA.one dI))) un_ref12Free (DA.cons (DT.agg dc_Book) (DA.one dI)):=fun _=>by kernel_rfl
theorem ok_ref12Free:DOK PR 102 .keep df_ref12Free:=dok run_ref12Free (envOK_of base (aC (st102.okl rfl (aC (lC ok_L102_6 rfl) (aC (lC ok_L102_13 rfl) (aC (lC ok_L102_20 rfl) aN)))) aN) (aC (oD ok_ref12Find rfl) (aC (oD ok_ref12_at rfl) aN))) (.inl rfl) st102.enters
def ref13_reclaim (d1:Desk)(c1:Cmd):Option (Desk×Reply) :=
 cond (decide (0≤c1.device) && decide (c1.device < 6))
 (ob (ref12Find d1.book c1.device (cond (decide (c1.device=0)) d1.dev.a0.epoch (cond (decide (c1.device=1)) d1.dev.a1.epoch (cond (decide (c1.device=2)) d1.dev.a2.epoch (cond (decide (c1.device=3)) d1.dev.a3.epoch (cond (decide (c1.device=4)) d1.dev.a4.epoch d1.dev.a5.epoch)))))) fun r0 =>
 cond (!r0.2)
 (ob (ref13_no 2) fun r1 =>
 some (d1,r1))
 (cond (decide (r0.1.last < 0))
 (ob (ref13_no 19) fun r2 =>
 some (d1,r2))
 (ob (ref13Included d1 c1.device (cond (decide (c1.device=0)) d1.dev.a0.epoch (cond (decide (c1.device=1)) d1.dev.a1.epoch (cond (decide (c1.device=2)) d1.dev.a2.epoch (cond (decide (c1.device=3)) d1.dev.a3.epoch (cond (decide (c1.device=4)) d1.dev.a4.epoch d1.dev.a5.epoch)))))) fun r3 =>
 cond (decide (r3 < r0.1.last))
 (ob (ref13_no 12) fun r4 =>
 some (d1,r4))
 (cond (decide (d1.now < (w64 (r0.1.until_+5))))
 (ob (ref13_no 20) fun r5 =>
 some (d1,r5))
 (ob (ref12Free d1.book c1.device (cond (decide (c1.device=0)) d1.dev.a0.epoch (cond (decide (c1.device=1)) d1.dev.a1.epoch (cond (decide (c1.device=2)) d1.dev.a2.epoch (cond (decide (c1.device=3)) d1.dev.a3.epoch (cond (decide (c1.device=4)) d1.dev.a4.epoch d1.dev.a5.epoch)))))) fun r6 =>
 some ((Desk.mk r6.1 d1.colls d1.log d1.dev d1.lost d1.now),(Reply.mk 0 0 (Lease.mk 0 0 0 0 [] [] []))))))))
 none
def un_ref13_reclaim (p:Desk×Cmd):Option (Desk×Reply):=ref13_reclaim p.1 p.2
def df_ref13_reclaim:DFn TL:=DFn.of (DA.cons (DT.agg dc_Desk) (DA.one (DT.agg dc_Cmd))) un_ref13_reclaim (DA.cons (DT.agg dc_Desk) (DA.one (DT.agg dc_Reply)))
theorem run_ref13_reclaim:DRun [(98,df_ref12Find),(57,df_ref13_no),(54,df_ref13Included),(102,df_ref12Free)] [] (envOf tab sl sh [(60,fd60)] [(98,.keep),(57,.keep),(54,.pure),(102,.keep)]) 60 (DA.cons (DT.agg dc_Desk) (DA.one (DT.agg dc_Cmd))) un_ref13_reclaim (DA.cons (DT.agg dc_Desk) (DA.one (DT.agg dc_Reply))):=fun _=>by kernel_rfl
theorem ok_ref13_reclaim:DOK PR 60 .keep df_ref13_reclaim:=dok run_ref13_reclaim (envOK_of base (aC (st60.okl rfl aN) aN) (aC (oD ok_ref12Find rfl) (aC (oD ok_ref13_no rfl) (aC (oD ok_ref13Included rfl) (aC (oD ok_ref12Free rfl) aN))))) (.inl rfl) st60.enters
def ref13_lose (d1:Desk)(c1:Cmd):Option (Desk×Reply) :=
 cond (decide (0≤c1.device) && decide (c1.device < 6))
 (cond ((cond (decide (c1.device=0)) d1.dev.a0.epoch (cond (decide (c1.device=1)) d1.dev.a1.epoch (cond (decide (c1.device=2)) d1.dev.a2.epoch (cond (decide (c1.device=3)) d1.dev.a3.epoch (cond (decide (c1.device=4)) d1.dev.a4.epoch d1.dev.a5.epoch))))) == 0)
 (ob (ref13_no 2) fun r0 =>
 some (d1,r0))
 (ob (ref13Lost d1 c1.device (cond (decide (c1.device=0)) d1.dev.a0.epoch (cond (decide (c1.device=1)) d1.dev.a1.epoch (cond (decide (c1.device=2)) d1.dev.a2.epoch (cond (decide (c1.device=3)) d1.dev.a3.epoch (cond (decide (c1.device=4)) d1.dev.a4.epoch d1.dev.a5.epoch)))))) fun r1 =>
 cond (r1)
 (ob (ref13_no 7) fun r2 =>
 some (d1,r2))
 (ob (ref12Free d1.book c1.device (cond (decide (c1.device=0)) d1.dev.a0.epoch (cond (decide (c1.device=1)) d1.dev.a1.epoch (cond (decide (c1.device=2)) d1.dev.a2.epoch (cond (decide (c1.device=3)) d1.dev.a3.epoch (cond (decide (c1.device=4)) d1.dev.a4.epoch d1.dev.a5.epoch)))))) fun r3 =>
 ob (ref13Included (Desk.mk r3.1 d1.colls d1.log d1.dev d1.lost d1.now) c1.device (cond (decide (c1.device=0)) d1.dev.a0.epoch (cond (decide (c1.device=1)) d1.dev.a1.epoch (cond (decide (c1.device=2)) d1.dev.a2.epoch (cond (decide (c1.device=3)) d1.dev.a3.epoch (cond (decide (c1.device=4)) d1.dev.a4.epoch d1.dev.a5.epoch)))))) fun r4 =>
 cond (fits (([]++d1.lost).length))
 (cond (fits ((([]++d1.lost)++[(Entry.mk c1.device (cond (decide (c1.device=0)) d1.dev.a0.epoch (cond (decide (c1.device=1)) d1.dev.a1.epoch (cond (decide (c1.device=2)) d1.dev.a2.epoch (cond (decide (c1.device=3)) d1.dev.a3.epoch (cond (decide (c1.device=4)) d1.dev.a4.epoch d1.dev.a5.epoch))))) r4)]).length))
 (some ((Desk.mk r3.1 d1.colls d1.log d1.dev (([]++d1.lost)++[(Entry.mk c1.device (cond (decide (c1.device=0)) d1.dev.a0.epoch (cond (decide (c1.device=1)) d1.dev.a1.epoch (cond (decide (c1.device=2)) d1.dev.a2.epoch (cond (decide (c1.device=3)) d1.dev.a3.epoch (cond (decide (c1.device=4)) d1.dev.a4.epoch d1.dev.a5.epoch))))) r4)]) d1.now),(Reply.mk 0 r4 (Lease.mk 0 0 0 0 [] [] []))))
 none)
 none)))
 none
def un_ref13_lose (p:Desk×Cmd):Option (Desk×Reply):=ref13_lose p.1 p.2
def df_ref13_lose:DFn TL:=DFn.of (DA.cons (DT.agg dc_Desk) (DA.one (DT.agg dc_Cmd))) un_ref13_lose (DA.cons (DT.agg dc_Desk) (DA.one (DT.agg dc_Reply)))
theorem run_ref13_lose:DRun [(57,df_ref13_no),(100,df_ref13Lost),(102,df_ref12Free),(54,df_ref13Included)] [] (envOf tab sl sh [(61,fd61)] [(57,.keep),(100,.pure),(102,.keep),(54,.pure)]) 61 (DA.cons (DT.agg dc_Desk) (DA.one (DT.agg dc_Cmd))) un_ref13_lose (DA.cons (DT.agg dc_Desk) (DA.one (DT.agg dc_Reply))):=fun _=>by kernel_rfl
theorem ok_ref13_lose:DOK PR 61 .keep df_ref13_lose:=dok run_ref13_lose (envOK_of base (aC (st61.okl rfl aN) aN) (aC (oD ok_ref13_no rfl) (aC (oD ok_ref13Lost rfl) (aC (oD ok_ref12Free rfl) (aC (oD ok_ref13Included rfl) aN))))) (.inl rfl) st61.enters
def ref13_copyReply (rx1:Reply):Option Reply :=
 cond (fits (([]++rx1.lease.slices).length))
 (cond (fits (([]++rx1.lease.ids).length))
 (cond (fits (([]++rx1.lease.used).length))
 (some (Reply.mk rx1.err rx1.n (Lease.mk rx1.lease.device rx1.lease.epoch rx1.lease.until_ rx1.lease.last ([]++rx1.lease.slices) ([]++rx1.lease.ids) ([]++rx1.lease.used))))
 none)
 none)
 none
def un_ref13_copyReply (p:Reply):Option Reply:=ref13_copyReply p
def df_ref13_copyReply:DFn TL:=DFn.of (DA.one (DT.agg dc_Reply)) un_ref13_copyReply (DA.one (DT.agg dc_Reply))
theorem run_ref13_copyReply:DRun [] [] (envOf tab sl sh [(103,fd103)] []) 103 (DA.one (DT.agg dc_Reply)) un_ref13_copyReply (DA.one (DT.agg dc_Reply)):=fun _=>by kernel_rfl
theorem ok_ref13_copyReply:DOK PR 103 .keep df_ref13_copyReply:=dok run_ref13_copyReply (envOK_of base (aC (st103.okl rfl aN) aN) aN) (.inl rfl) st103.enters
def ref13_register (d1:Desk)(c1:Cmd):Option (Desk×Reply) :=
 cond (decide (0≤c1.device) && decide (c1.device < 6))
 (cond (decide ((cond (decide (c1.device=0)) d1.dev.a0.epoch (cond (decide (c1.device=1)) d1.dev.a1.epoch (cond (decide (c1.device=2)) d1.dev.a2.epoch (cond (decide (c1.device=3)) d1.dev.a3.epoch (cond (decide (c1.device=4)) d1.dev.a4.epoch d1.dev.a5.epoch))))) > 0))
 (ob (ref13Lost d1 c1.device (cond (decide (c1.device=0)) d1.dev.a0.epoch (cond (decide (c1.device=1)) d1.dev.a1.epoch (cond (decide (c1.device=2)) d1.dev.a2.epoch (cond (decide (c1.device=3)) d1.dev.a3.epoch (cond (decide (c1.device=4)) d1.dev.a4.epoch d1.dev.a5.epoch)))))) fun r0 =>
 cond (!r0)
 (ob (ref13_no 7) fun r1 =>
 some (d1,r1))
 (cond (decide ((cond (decide (c1.device=0)) d1.dev.a0.epoch (cond (decide (c1.device=1)) d1.dev.a1.epoch (cond (decide (c1.device=2)) d1.dev.a2.epoch (cond (decide (c1.device=3)) d1.dev.a3.epoch (cond (decide (c1.device=4)) d1.dev.a4.epoch d1.dev.a5.epoch)))))≥1048576))
 (ob (ref13_no 11) fun r2 =>
 some (d1,r2))
 (cond (decide (0≤c1.device) && decide (c1.device < 6))
 (some ((Desk.mk d1.book d1.colls d1.log (A6Device.mk (Device.mk (cond (decide (c1.device=0)) (w64 ((cond (decide (c1.device=0)) d1.dev.a0.epoch (cond (decide (c1.device=1)) d1.dev.a1.epoch (cond (decide (c1.device=2)) d1.dev.a2.epoch (cond (decide (c1.device=3)) d1.dev.a3.epoch (cond (decide (c1.device=4)) d1.dev.a4.epoch d1.dev.a5.epoch)))))+1)) d1.dev.a0.epoch) d1.dev.a0.req d1.dev.a0.reply) (Device.mk (cond (decide (c1.device=1)) (w64 ((cond (decide (c1.device=0)) d1.dev.a0.epoch (cond (decide (c1.device=1)) d1.dev.a1.epoch (cond (decide (c1.device=2)) d1.dev.a2.epoch (cond (decide (c1.device=3)) d1.dev.a3.epoch (cond (decide (c1.device=4)) d1.dev.a4.epoch d1.dev.a5.epoch)))))+1)) d1.dev.a1.epoch) d1.dev.a1.req d1.dev.a1.reply) (Device.mk (cond (decide (c1.device=2)) (w64 ((cond (decide (c1.device=0)) d1.dev.a0.epoch (cond (decide (c1.device=1)) d1.dev.a1.epoch (cond (decide (c1.device=2)) d1.dev.a2.epoch (cond (decide (c1.device=3)) d1.dev.a3.epoch (cond (decide (c1.device=4)) d1.dev.a4.epoch d1.dev.a5.epoch)))))+1)) d1.dev.a2.epoch) d1.dev.a2.req d1.dev.a2.reply) (Device.mk (cond (decide (c1.device=3)) (w64 ((cond (decide (c1.device=0)) d1.dev.a0.epoch (cond (decide (c1.device=1)) d1.dev.a1.epoch (cond (decide (c1.device=2)) d1.dev.a2.epoch (cond (decide (c1.device=3)) d1.dev.a3.epoch (cond (decide (c1.device=4)) d1.dev.a4.epoch d1.dev.a5.epoch)))))+1)) d1.dev.a3.epoch) d1.dev.a3.req d1.dev.a3.reply) (Device.mk (cond (decide (c1.device=4)) (w64 ((cond (decide (c1.device=0)) d1.dev.a0.epoch (cond (decide (c1.device=1)) d1.dev.a1.epoch (cond (decide (c1.device=2)) d1.dev.a2.epoch (cond (decide (c1.device=3)) d1.dev.a3.epoch (cond (decide (c1.device=4)) d1.dev.a4.epoch d1.dev.a5.epoch)))))+1)) d1.dev.a4.epoch) d1.dev.a4.req d1.dev.a4.reply) (Device.mk (cond (decide (c1.device=5)) (w64 ((cond (decide (c1.device=0)) d1.dev.a0.epoch (cond (decide (c1.device=1)) d1.dev.a1.epoch (cond (decide (c1.device=2)) d1.dev.a2.epoch (cond (decide (c1.device=3)) d1.dev.a3.epoch (cond (decide (c1.device=4)) d1.dev.a4.epoch d1.dev.a5.epoch)))))+1)) d1.dev.a5.epoch) d1.dev.a5.req d1.dev.a5.reply)) d1.lost d1.now),(Reply.mk 0 (w64 ((cond (decide (c1.device=0)) d1.dev.a0.epoch (cond (decide (c1.device=1)) d1.dev.a1.epoch (cond (decide (c1.device=2)) d1.dev.a2.epoch (cond (decide (c1.device=3)) d1.dev.a3.epoch (cond (decide (c1.device=4)) d1.dev.a4.epoch d1.dev.a5.epoch)))))+1)) (Lease.mk 0 0 0 0 [] [] []))))
 none)))
 (cond (decide ((cond (decide (c1.device=0)) d1.dev.a0.epoch (cond (decide (c1.device=1)) d1.dev.a1.epoch (cond (decide (c1.device=2)) d1.dev.a2.epoch (cond (decide (c1.device=3)) d1.dev.a3.epoch (cond (decide (c1.device=4)) d1.dev.a4.epoch d1.dev.a5.epoch)))))≥1048576))
 (ob (ref13_no 11) fun r3 =>
 some (d1,r3))
 (cond (decide (0≤c1.device) && decide (c1.device < 6))
 (some ((Desk.mk d1.book d1.colls d1.log (A6Device.mk (Device.mk (cond (decide (c1.device=0)) (w64 ((cond (decide (c1.device=0)) d1.dev.a0.epoch (cond (decide (c1.device=1)) d1.dev.a1.epoch (cond (decide (c1.device=2)) d1.dev.a2.epoch (cond (decide (c1.device=3)) d1.dev.a3.epoch (cond (decide (c1.device=4)) d1.dev.a4.epoch d1.dev.a5.epoch)))))+1)) d1.dev.a0.epoch) d1.dev.a0.req d1.dev.a0.reply) (Device.mk (cond (decide (c1.device=1)) (w64 ((cond (decide (c1.device=0)) d1.dev.a0.epoch (cond (decide (c1.device=1)) d1.dev.a1.epoch (cond (decide (c1.device=2)) d1.dev.a2.epoch (cond (decide (c1.device=3)) d1.dev.a3.epoch (cond (decide (c1.device=4)) d1.dev.a4.epoch d1.dev.a5.epoch)))))+1)) d1.dev.a1.epoch) d1.dev.a1.req d1.dev.a1.reply) (Device.mk (cond (decide (c1.device=2)) (w64 ((cond (decide (c1.device=0)) d1.dev.a0.epoch (cond (decide (c1.device=1)) d1.dev.a1.epoch (cond (decide (c1.device=2)) d1.dev.a2.epoch (cond (decide (c1.device=3)) d1.dev.a3.epoch (cond (decide (c1.device=4)) d1.dev.a4.epoch d1.dev.a5.epoch)))))+1)) d1.dev.a2.epoch) d1.dev.a2.req d1.dev.a2.reply) (Device.mk (cond (decide (c1.device=3)) (w64 ((cond (decide (c1.device=0)) d1.dev.a0.epoch (cond (decide (c1.device=1)) d1.dev.a1.epoch (cond (decide (c1.device=2)) d1.dev.a2.epoch (cond (decide (c1.device=3)) d1.dev.a3.epoch (cond (decide (c1.device=4)) d1.dev.a4.epoch d1.dev.a5.epoch)))))+1)) d1.dev.a3.epoch) d1.dev.a3.req d1.dev.a3.reply) (Device.mk (cond (decide (c1.device=4)) (w64 ((cond (decide (c1.device=0)) d1.dev.a0.epoch (cond (decide (c1.device=1)) d1.dev.a1.epoch (cond (decide (c1.device=2)) d1.dev.a2.epoch (cond (decide (c1.device=3)) d1.dev.a3.epoch (cond (decide (c1.device=4)) d1.dev.a4.epoch d1.dev.a5.epoch)))))+1)) d1.dev.a4.epoch) d1.dev.a4.req d1.dev.a4.reply) (Device.mk (cond (decide (c1.device=5)) (w64 ((cond (decide (c1.device=0)) d1.dev.a0.epoch (cond (decide (c1.device=1)) d1.dev.a1.epoch (cond (decide (c1.device=2)) d1.dev.a2.epoch (cond (decide (c1.device=3)) d1.dev.a3.epoch (cond (decide (c1.device=4)) d1.dev.a4.epoch d1.dev.a5.epoch)))))+1)) d1.dev.a5.epoch) d1.dev.a5.req d1.dev.a5.reply)) d1.lost d1.now),(Reply.mk 0 (w64 ((cond (decide (c1.device=0)) d1.dev.a0.epoch (cond (decide (c1.device=1)) d1.dev.a1.epoch (cond (decide (c1.device=2)) d1.dev.a2.epoch (cond (decide (c1.device=3)) d1.dev.a3.epoch (cond (decide (c1.device=4)) d1.dev.a4.epoch d1.dev.a5.epoch)))))+1)) (Lease.mk 0 0 0 0 [] [] []))))
 none)))
 none
def un_ref13_register (p:Desk×Cmd):Option (Desk×Reply):=ref13_register p.1 p.2
def df_ref13_register:DFn TL:=DFn.of (DA.cons (DT.agg dc_Desk) (DA.one (DT.agg dc_Cmd))) un_ref13_register (DA.cons (DT.agg dc_Desk) (DA.one (DT.agg dc_Reply)))
theorem run_ref13_register:DRun [(100,df_ref13Lost),(57,df_ref13_no)] [] (envOf tab sl sh [(104,fd104)] [(100,.pure),(57,.keep)]) 104 (DA.cons (DT.agg dc_Desk) (DA.one (DT.agg dc_Cmd))) un_ref13_register (DA.cons (DT.agg dc_Desk) (DA.one (DT.agg dc_Reply))):=fun _=>by kernel_rfl
theorem ok_ref13_register:DOK PR 104 .keep df_ref13_register:=dok run_ref13_register (envOK_of base (aC (st104.okl rfl aN) aN) (aC (oD ok_ref13Lost rfl) (aC (oD ok_ref13_no rfl) aN))) (.inl rfl) st104.enters
abbrev tY29:=(List Want)×Int×Bool×Int
def step_L175_2 (l1:List Want)(i1:Int)(b1:Bool)(i2:Int):Option ((tY29)⊕(((Bool)⊕(Bool)))) :=
 cond (decide (i2 < i1))
 (cond (decide (0≤i2))
 (ob (l1[i2.toNat]?) fun e0 =>
 cond (decide (0≤i1))
 (ob (l1[i1.toNat]?) fun e1 =>
 cond (sEq e0.key e1.key)
 (some (.inr (.inr true)))
 (some (.inl (l1,i1,b1,(w64 (i2+1))))))
 none)
 none)
 (some (.inr (.inl b1)))
def stp_L175_2 (p:tY29):Option ((tY29)⊕(((Bool)⊕(Bool)))):=step_L175_2 p.1 p.2.1 p.2.2.1 p.2.2.2
def L175_2 (l1:List Want)(i1:Int)(b1:Bool)(i2:Int):Option (((Bool)⊕(Bool))):=iterO stp_L175_2 ((i1 - i2).toNat+2) (l1,i1,b1,i2)
def ch_L175_2:kT (tY29):=kO (kS 0 (kC (kF j_lWant) (kC kI (kC kB (kC kI kN)))) kN) (fun ((z0,z1,z2,z3,_),_)=>(z0,z1,z2,z3)) (fun (x:tY29)=>((x.1,(x.2.1,(x.2.2.1,(x.2.2.2,())))),())) (fun _=>rfl)
def sl_L175_2:SFn TL:=SFn.two ch_L175_2.dec (fun p=>L175_2 p.1 p.2.1 p.2.2.1 p.2.2.2) (.exit 0) .ret co0_L73_4.enc co0_L73_4.enc
def v_L175_2:Env:=envOf tab sl sh [] []
theorem v_L175_2_ok:EnvOK PR (mkD cZ sZ) v_L175_2:=envOK_of base aN aN
theorem run_L175_2 (x:tY29):Out.run (mkO cZ sZ) (evRound v_L175_2 12 20 fd175.an q_L175_2 (loopIn (loopsOf fd175.body) 2) (ch_L175_2.enc x)) (back2 ch_L175_2 co0_L73_4 co0_L73_4 (.exit 0) .ret)=stp_L175_2 x:=by kernel_rfl
theorem ok_L175_2:LoopOK PR (oneS sl_L175_2) nt175 q_L175_2 (loopIn (loopsOf fd175.body) 2) :=
  loop_two v_L175_2_ok (loops:=12) (k:=20) (an:=fd175.an) (by kernel_rfl) (FnSt.subl rfl st175.keys (aC (.inl (by kernel_rfl)) aN)) ch_L175_2 co0_L73_4 co0_L73_4 (.exit 0) .ret rfl rfl stp_L175_2 _ run_L175_2 (fun x y h=>⟨_,h⟩) (fun _=>below_iff.1 rfl)
def ref12_twice (l1:List Want)(i1:Int):Option Bool :=
 ob (L175_2 l1 i1 false 0) fun y0 =>
 two y0 (fun _ =>
 some false) (fun b2 =>
 some b2)
def un_ref12_twice (p:(List Want)×Int):Option Bool:=ref12_twice p.1 p.2
def df_ref12_twice:DFn TL:=DFn.of (DA.cons (DT.one di_lWant) (DA.one dI)) un_ref12_twice (DA.one dB)
theorem run_ref12_twice:DRun [] [(275002,sl_L175_2)] (envOf tab sl sh [(175,fd175)] []) 175 (DA.cons (DT.one di_lWant) (DA.one dI)) un_ref12_twice (DA.one dB):=fun _=>by kernel_rfl
theorem ok_ref12_twice:DOK PR 175 .pure df_ref12_twice:=dok run_ref12_twice (envOK_of base (aC (st175.okl rfl (aC (lC ok_L175_2 rfl) aN)) aN) aN) (.inr rfl) st175.enters
abbrev tY30:=(List Range)×Int×(List Range)×(List Range)×Int
def step_L204_7 (l1:List Range)(i1:Int)(l2:List Range)(l3:List Range)(i2:Int):Option ((tY30)⊕((List Range)×(List Range))) :=
 cond (decide (i2 < (l1.length:Int)))
 (cond (decide (0≤i2))
 (ob (l1[i2.toNat]?) fun e0 =>
 cond (decide (0≤i2))
 (ob (l1[i2.toNat]?) fun e1 =>
 cond (decide ((min2 i1 (w64 (e0.to_ - e1.from_))) > 0))
 (cond (decide (0≤i2))
 (ob (l1[i2.toNat]?) fun e2 =>
 cond (decide (0≤i2))
 (ob (l1[i2.toNat]?) fun e3 =>
 cond (fits ((l2++[(Range.mk e2.from_ (w64 (e3.from_+(min2 i1 (w64 (e0.to_ - e1.from_))))))]).length))
 (cond (decide (0≤i2))
 (ob (l1[i2.toNat]?) fun e4 =>
 cond (decide (0≤i2))
 (ob (l1[i2.toNat]?) fun e5 =>
 cond (decide ((w64 (e4.from_+(min2 i1 (w64 (e0.to_ - e1.from_))))) < e5.to_))
 (cond (decide (0≤i2))
 (ob (l1[i2.toNat]?) fun e6 =>
 cond (decide (0≤i2))
 (ob (l1[i2.toNat]?) fun e7 =>
 cond (fits ((l3++[(Range.mk (w64 (e6.from_+(min2 i1 (w64 (e0.to_ - e1.from_))))) e7.to_)]).length))
 (some (.inl (l1,(w64 (i1 - (min2 i1 (w64 (e0.to_ - e1.from_))))),(l2++[(Range.mk e2.from_ (w64 (e3.from_+(min2 i1 (w64 (e0.to_ - e1.from_))))))]),(l3++[(Range.mk (w64 (e6.from_+(min2 i1 (w64 (e0.to_ - e1.from_))))) e7.to_)]),(w64 (i2+1)))))
 none)
 none)
 none)
 (some (.inl (l1,(w64 (i1 - (min2 i1 (w64 (e0.to_ - e1.from_))))),(l2++[(Range.mk e2.from_ (w64 (e3.from_+(min2 i1 (w64 (e0.to_ - e1.from_))))))]),l3,(w64 (i2+1))))))
 none)
 none)
 none)
 none)
 none)
 (cond (decide (0≤i2))
 (ob (l1[i2.toNat]?) fun e8 =>
 cond (decide (0≤i2))
 (ob (l1[i2.toNat]?) fun e9 =>
 cond (decide ((w64 (e8.from_+(min2 i1 (w64 (e0.to_ - e1.from_))))) < e9.to_))
 (cond (decide (0≤i2))
 (ob (l1[i2.toNat]?) fun e10 =>
 cond (decide (0≤i2))
 (ob (l1[i2.toNat]?) fun e11 =>
 cond (fits ((l3++[(Range.mk (w64 (e10.from_+(min2 i1 (w64 (e0.to_ - e1.from_))))) e11.to_)]).length))
 (some (.inl (l1,(w64 (i1 - (min2 i1 (w64 (e0.to_ - e1.from_))))),l2,(l3++[(Range.mk (w64 (e10.from_+(min2 i1 (w64 (e0.to_ - e1.from_))))) e11.to_)]),(w64 (i2+1)))))
 none)
 none)
 none)
 (some (.inl (l1,(w64 (i1 - (min2 i1 (w64 (e0.to_ - e1.from_))))),l2,l3,(w64 (i2+1))))))
 none)
 none))
 none)
 none)
 (some (.inr (l2,l3)))
def stp_L204_7 (p:tY30):Option ((tY30)⊕((List Range)×(List Range))):=step_L204_7 p.1 p.2.1 p.2.2.1 p.2.2.2.1 p.2.2.2.2
def L204_7 (l1:List Range)(i1:Int)(l2:List Range)(l3:List Range)(i2:Int):Option ((List Range)×(List Range)):=iterO stp_L204_7 (((l1.length:Int) - i2).toNat+2) (l1,i1,l2,l3,i2)
def ch_L204_7:kT (tY30):=kO (kS 2 (kC (kF j_lRange) (kC kI (kC (Cod.xs (Cod.sc (kA 0))) (kC (Cod.xs (Cod.sc (kA 1))) (kC kI kN))))) (kC (kR 0 153 j_lRange) (kC (kR 1 153 j_lRange) kN))) (fun p=>(p.1.1,p.1.2.1,p.2.1,p.2.2.1,p.1.2.2.2.2.1)) (fun (x:tY30)=>((x.1,(x.2.1,((),((),(x.2.2.2.2,()))))),(x.2.2.1,(x.2.2.2.1,())))) (fun _=>rfl)
def co0_L204_7:kT ((List Range)×(List Range)):=kO (kS 4 (kC (Cod.xs (Cod.sc (kA 2))) (kC (Cod.xs (Cod.sc (kA 3))) kN)) (kC (kR 2 153 j_lRange) (kC (kR 3 153 j_lRange) kN))) (fun p=>(p.2.1,p.2.2.1)) (fun (x:(List Range)×(List Range))=>(((),((),())),(x.1,(x.2,())))) (fun _=>rfl)
def sl_L204_7:SFn TL:=SFn.one ch_L204_7.dec (fun p=>L204_7 p.1 p.2.1 p.2.2.1 p.2.2.2.1 p.2.2.2.2) (.exit 0) co0_L204_7.enc
def v_L204_7:Env:=envOf tab sl sh [] []
theorem v_L204_7_ok:EnvOK PR (mkD cZ sZ) v_L204_7:=envOK_of base aN aN
theorem run_L204_7 (x:tY30):Out.run (mkO cZ sZ) (evRound v_L204_7 12 20 fd204.an q_L204_7 (loopIn (loopsOf fd204.body) 7) (ch_L204_7.enc x)) (back ch_L204_7 co0_L204_7 fun e=>exE e (.exit 0))=stp_L204_7 x:=by kernel_rfl
theorem ok_L204_7:LoopOK PR (oneS sl_L204_7) nt204 q_L204_7 (loopIn (loopsOf fd204.body) 7) :=
  loop_one v_L204_7_ok (loops:=12) (k:=20) (an:=fd204.an) (by kernel_rfl) (FnSt.subl rfl st204.keys (aC (.inl (by kernel_rfl)) aN)) ch_L204_7 co0_L204_7 (.exit 0) rfl stp_L204_7 _ run_L204_7 (fun x y h=>⟨_,h⟩) (fun _=>below_iff.1 rfl)
def ref11Take (l1:List Range)(i1:Int):Option ((List Range)×(List Range)×Int) :=
 cond (decide (i1 < 0))
 (some ([],[],1))
 (ob (ref11Len l1) fun r0 =>
 cond (decide (i1 > r0))
 (some ([],[],14))
 (ob (L204_7 l1 i1 [] [] 0) fun y1 =>
 some (y1.1,y1.2,0)))
def un_ref11Take (p:(List Range)×Int):Option ((List Range)×(List Range)×Int):=ref11Take p.1 p.2
def df_ref11Take:DFn TL:=DFn.of (DA.cons (DT.one di_lRange) (DA.one dI)) un_ref11Take (DA.cons (DT.one di_lRange) (DA.cons (DT.one di_lRange) (DA.one dI)))
theorem run_ref11Take:DRun [(99,df_ref11Len)] [(304007,sl_L204_7)] (envOf tab sl sh [(204,fd204)] [(99,.pure)]) 204 (DA.cons (DT.one di_lRange) (DA.one dI)) un_ref11Take (DA.cons (DT.one di_lRange) (DA.cons (DT.one di_lRange) (DA.one dI))):=fun _=>by kernel_rfl
theorem ok_ref11Take:DOK PR 204 .keep df_ref11Take:=dok run_ref11Take (envOK_of base (aC (st204.okl rfl (aC (lC ok_L204_7 rfl) aN)) aN) (aC (oD ok_ref11Len rfl) aN)) (.inl rfl) st204.enters
abbrev tY31:=Int×Int×Book×Lease×Want×Book×Lease
def step_L176_4 (i1:Int)(i2:Int)(bx1:Book)(lx1:Lease)(w1:Want)(bx2:Book)(lx2:Lease):Option ((tY31)⊕(((Int×Book×Lease×Want×Book×Lease)⊕(Int×Book×Lease×Want×Book×Lease×(List Counter)×(List Range)×(List Lease)×(List Int)×(List Slice)×(List Range)×(List Int))))) :=
 cond (decide (i2 < (lx1.slices.length:Int)))
 (cond (!sEq w1.key s_empty)
 (cond (decide (0≤i2))
 (ob (lx1.slices[i2.toNat]?) fun e0 =>
 cond (sEq e0.key w1.key)
 (some (.inr (.inr (7,bx1,lx1,w1,bx1,lx1,bx2.counters,bx2.free,bx2.leases,bx2.bound,lx2.slices,lx2.ids,lx2.used))))
 (some (.inl (i1,(w64 (i2+1)),bx1,lx1,w1,bx2,lx2))))
 none)
 (some (.inl (i1,(w64 (i2+1)),bx1,lx1,w1,bx2,lx2))))
 (some (.inr (.inl (i1,bx1,lx1,w1,bx2,lx2))))
def stp_L176_4 (p:tY31):Option ((tY31)⊕(((Int×Book×Lease×Want×Book×Lease)⊕(Int×Book×Lease×Want×Book×Lease×(List Counter)×(List Range)×(List Lease)×(List Int)×(List Slice)×(List Range)×(List Int))))):=step_L176_4 p.1 p.2.1 p.2.2.1 p.2.2.2.1 p.2.2.2.2.1 p.2.2.2.2.2.1 p.2.2.2.2.2.2
def L176_4 (i1:Int)(i2:Int)(bx1:Book)(lx1:Lease)(w1:Want)(bx2:Book)(lx2:Lease):Option (((Int×Book×Lease×Want×Book×Lease)⊕(Int×Book×Lease×Want×Book×Lease×(List Counter)×(List Range)×(List Lease)×(List Int)×(List Slice)×(List Range)×(List Int)))):=iterO stp_L176_4 (1099511627776) (i1,i2,bx1,lx1,w1,bx2,lx2)
def cc_Want:Cod (List (C TL)) Want:=kO (kC kE (kC kJ (kC kJ (kC kJ kN)))) (fun p=>(Want.mk p.1 p.2.1 p.2.2.1 p.2.2.2.1)) (fun (x:Want)=>(x.key,(x.up_,(x.down_,(x.ids,()))))) (fun _=>rfl)
def ch_L176_4:kT (tY31):=kO (kS 12 (kC (kP 0 0) (kC (kP 1 0) (kC (kP 2 0) (kC (kP 3 0) (kC (kP 4 0) (kC kI (kC kI kN))))))) (kC (Cod.var 0 29 cc_Book) (kC (Cod.var 1 43 cc_Lease) (kC (Cod.var 2 105 cc_Want) (kC (Cod.var 3 29 (kC (kA 5) (kC (kA 6) (kC (kA 7) (kC (kA 8) kN))))) (kC (Cod.var 4 43 (kC kJ (kC kJ (kC kJ (kC kJ (kC (kA 9) (kC (kA 10) (kC (kA 11) kN)))))))) (kC (kR 5 65 j_lCounter) (kC (kR 6 153 j_lRange) (kC (kR 7 43 j_lLease) (kC (kR 8 3 j_lInt) (kC (kR 9 133 j_lSlice) (kC (kR 10 153 j_lRange) (kC (kR 11 3 j_lInt) kN))))))))))))) (fun p=>(p.1.2.2.2.2.2.1,p.1.2.2.2.2.2.2.1,p.2.1,p.2.2.1,p.2.2.2.1,(Book.mk p.2.2.2.2.2.2.1 p.2.2.2.2.2.2.2.1 p.2.2.2.2.2.2.2.2.1 (t8 p.2).1),(Lease.mk p.2.2.2.2.2.1.1 p.2.2.2.2.2.1.2.1 p.2.2.2.2.2.1.2.2.1 p.2.2.2.2.2.1.2.2.2.1 (t8 p.2).2.1 (t8 p.2).2.2.1 (t8 p.2).2.2.2.1))) (fun (x:tY31)=>(((),((),((),((),((),(x.1,(x.2.1,()))))))),(x.2.2.1,(x.2.2.2.1,(x.2.2.2.2.1,(((),((),((),((),())))),((x.2.2.2.2.2.2.device,(x.2.2.2.2.2.2.epoch,(x.2.2.2.2.2.2.until_,(x.2.2.2.2.2.2.last,((),((),((),()))))))),(x.2.2.2.2.2.1.counters,(x.2.2.2.2.2.1.free,(x.2.2.2.2.2.1.leases,(x.2.2.2.2.2.1.bound,(x.2.2.2.2.2.2.slices,(x.2.2.2.2.2.2.ids,(x.2.2.2.2.2.2.used,())))))))))))))) (fun _=>rfl)
def co0_L176_4:kT (Int×Book×Lease×Want×Book×Lease):=kO (kS 24 (kC (kP 0 0) (kC (kP 1 0) (kC (kP 2 0) (kC (kP 3 0) (kC (kP 4 0) (kC kI kN)))))) (kC (Cod.var 0 29 cc_Book) (kC (Cod.var 1 43 cc_Lease) (kC (Cod.var 2 105 cc_Want) (kC (Cod.var 3 29 (kC (kA 5) (kC (kA 6) (kC (kA 7) (kC (kA 8) kN))))) (kC (Cod.var 4 43 (kC kJ (kC kJ (kC kJ (kC kJ (kC (kA 9) (kC (kA 10) (kC (kA 11) kN)))))))) (kC (kR 5 65 j_lCounter) (kC (kR 6 153 j_lRange) (kC (kR 7 43 j_lLease) (kC (kR 8 3 j_lInt) (kC (kR 9 133 j_lSlice) (kC (kR 10 153 j_lRange) (kC (kR 11 3 j_lInt) kN))))))))))))) (fun p=>(p.1.2.2.2.2.2.1,p.2.1,p.2.2.1,p.2.2.2.1,(Book.mk p.2.2.2.2.2.2.1 p.2.2.2.2.2.2.2.1 p.2.2.2.2.2.2.2.2.1 (t8 p.2).1),(Lease.mk p.2.2.2.2.2.1.1 p.2.2.2.2.2.1.2.1 p.2.2.2.2.2.1.2.2.1 p.2.2.2.2.2.1.2.2.2.1 (t8 p.2).2.1 (t8 p.2).2.2.1 (t8 p.2).2.2.2.1))) (fun (x:Int×Book×Lease×Want×Book×Lease)=>(((),((),((),((),((),(x.1,())))))),(x.2.1,(x.2.2.1,(x.2.2.2.1,(((),((),((),((),())))),((x.2.2.2.2.2.device,(x.2.2.2.2.2.epoch,(x.2.2.2.2.2.until_,(x.2.2.2.2.2.last,((),((),((),()))))))),(x.2.2.2.2.1.counters,(x.2.2.2.2.1.free,(x.2.2.2.2.1.leases,(x.2.2.2.2.1.bound,(x.2.2.2.2.2.slices,(x.2.2.2.2.2.ids,(x.2.2.2.2.2.used,())))))))))))))) (fun _=>rfl)
def co1_L176_4:kT (Int×Book×Lease×Want×Book×Lease×(List Counter)×(List Range)×(List Lease)×(List Int)×(List Slice)×(List Range)×(List Int)):=kO (kS 24 (kC (kP 0 0) (kC (kP 1 0) (kC (kP 2 0) (kC (kP 3 0) (kC (kP 4 0) (kC kI kN)))))) (kC (Cod.var 0 29 cc_Book) (kC (Cod.var 1 43 cc_Lease) (kC (Cod.var 2 105 cc_Want) (kC (Cod.var 3 29 cc_Book) (kC (Cod.var 4 43 cc_Lease) (kC (kR 5 65 j_lCounter) (kC (kR 6 153 j_lRange) (kC (kR 7 43 j_lLease) (kC (kR 8 3 j_lInt) (kC (kR 9 133 j_lSlice) (kC (kR 10 153 j_lRange) (kC (kR 11 3 j_lInt) kN))))))))))))) (fun p=>(p.1.2.2.2.2.2.1,p.2.1,p.2.2.1,p.2.2.2.1,p.2.2.2.2.1,p.2.2.2.2.2.1,p.2.2.2.2.2.2.1,p.2.2.2.2.2.2.2.1,p.2.2.2.2.2.2.2.2.1,(t8 p.2).1,(t8 p.2).2.1,(t8 p.2).2.2.1,(t8 p.2).2.2.2.1)) (fun (x:Int×Book×Lease×Want×Book×Lease×(List Counter)×(List Range)×(List Lease)×(List Int)×(List Slice)×(List Range)×(List Int))=>(((),((),((),((),((),(x.1,())))))),(x.2.1,(x.2.2.1,(x.2.2.2.1,(x.2.2.2.2.1,(x.2.2.2.2.2.1,(x.2.2.2.2.2.2.1,(x.2.2.2.2.2.2.2.1,(x.2.2.2.2.2.2.2.2.1,(x.2.2.2.2.2.2.2.2.2.1,(x.2.2.2.2.2.2.2.2.2.2.1,(x.2.2.2.2.2.2.2.2.2.2.2.1,(x.2.2.2.2.2.2.2.2.2.2.2.2,())))))))))))))) (fun _=>rfl)
def sl_L176_4:SFn TL:=SFn.two ch_L176_4.dec (fun p=>L176_4 p.1 p.2.1 p.2.2.1 p.2.2.2.1 p.2.2.2.2.1 p.2.2.2.2.2.1 p.2.2.2.2.2.2) (.exit 0) .ret co0_L176_4.enc co1_L176_4.enc
def v_L176_4:Env:=envOf tab sl sh [] []
theorem v_L176_4_ok:EnvOK PR (mkD cZ sZ) v_L176_4:=envOK_of base aN aN
theorem run_L176_4 (x:tY31):Out.run (mkO cZ sZ) (evRound v_L176_4 12 20 fd176.an q_L176_4 (loopIn (loopsOf fd176.body) 4) (ch_L176_4.enc x)) (back2 ch_L176_4 co0_L176_4 co1_L176_4 (.exit 0) .ret)=stp_L176_4 x:=by kernel_rfl
theorem ok_L176_4:LoopOK PR (oneS sl_L176_4) nt176 q_L176_4 (loopIn (loopsOf fd176.body) 4) :=
  loop_two v_L176_4_ok (loops:=12) (k:=20) (an:=fd176.an) (by kernel_rfl) (FnSt.subl rfl st176.keys (aC (.inl (by kernel_rfl)) (aC (.inl (by kernel_rfl)) aN))) ch_L176_4 co0_L176_4 co1_L176_4 (.exit 0) .ret rfl rfl stp_L176_4 _ run_L176_4 (fun x y h=>⟨_,h⟩) (fun _=>below_iff.1 rfl)
abbrev tY32:=Int×(List Range)×Int×Book×Lease×Want×Book×Lease
def step_L176_20 (i1:Int)(l1:List Range)(i2:Int)(bx1:Book)(lx1:Lease)(w1:Want)(bx2:Book)(lx2:Lease):Option ((tY32)⊕(Int×Book×Lease×Want×Book×Lease)) :=
 cond (decide (i2 < (l1.length:Int)))
 (cond (decide (0≤i2))
 (ob (l1[i2.toNat]?) fun e0 =>
 ob (ref11Add lx1.ids e0) fun r1 =>
 some (.inl (i1,l1,(w64 (i2+1)),bx1,(Lease.mk lx1.device lx1.epoch lx1.until_ lx1.last lx1.slices r1 lx1.used),w1,bx2,lx2)))
 none)
 (some (.inr (i1,bx1,lx1,w1,bx2,lx2)))
def stp_L176_20 (p:tY32):Option ((tY32)⊕(Int×Book×Lease×Want×Book×Lease)):=step_L176_20 p.1 p.2.1 p.2.2.1 p.2.2.2.1 p.2.2.2.2.1 p.2.2.2.2.2.1 p.2.2.2.2.2.2.1 p.2.2.2.2.2.2.2
def L176_20 (i1:Int)(l1:List Range)(i2:Int)(bx1:Book)(lx1:Lease)(w1:Want)(bx2:Book)(lx2:Lease):Option (Int×Book×Lease×Want×Book×Lease):=iterO stp_L176_20 (((l1.length:Int) - i2).toNat+2) (i1,l1,i2,bx1,lx1,w1,bx2,lx2)
def ch_L176_20:kT (tY32):=kO (kS 12 (kC (kP 0 0) (kC (kP 1 0) (kC (kP 2 0) (kC (kP 3 0) (kC (kP 4 0) (kC kI (kC (kF j_lRange) (kC kI kN)))))))) (kC (Cod.var 0 29 cc_Book) (kC (Cod.var 1 43 cc_Lease) (kC (Cod.var 2 105 cc_Want) (kC (Cod.var 3 29 (kC (kA 5) (kC (kA 6) (kC (kA 7) (kC (kA 8) kN))))) (kC (Cod.var 4 43 (kC kJ (kC kJ (kC kJ (kC kJ (kC (kA 9) (kC (kA 10) (kC (kA 11) kN)))))))) (kC (kR 5 65 j_lCounter) (kC (kR 6 153 j_lRange) (kC (kR 7 43 j_lLease) (kC (kR 8 3 j_lInt) (kC (kR 9 133 j_lSlice) (kC (kR 10 153 j_lRange) (kC (kR 11 3 j_lInt) kN))))))))))))) (fun p=>(p.1.2.2.2.2.2.1,p.1.2.2.2.2.2.2.1,p.1.2.2.2.2.2.2.2.1,p.2.1,p.2.2.1,p.2.2.2.1,(Book.mk p.2.2.2.2.2.2.1 p.2.2.2.2.2.2.2.1 p.2.2.2.2.2.2.2.2.1 (t8 p.2).1),(Lease.mk p.2.2.2.2.2.1.1 p.2.2.2.2.2.1.2.1 p.2.2.2.2.2.1.2.2.1 p.2.2.2.2.2.1.2.2.2.1 (t8 p.2).2.1 (t8 p.2).2.2.1 (t8 p.2).2.2.2.1))) (fun (x:tY32)=>(((),((),((),((),((),(x.1,(x.2.1,(x.2.2.1,())))))))),(x.2.2.2.1,(x.2.2.2.2.1,(x.2.2.2.2.2.1,(((),((),((),((),())))),((x.2.2.2.2.2.2.2.device,(x.2.2.2.2.2.2.2.epoch,(x.2.2.2.2.2.2.2.until_,(x.2.2.2.2.2.2.2.last,((),((),((),()))))))),(x.2.2.2.2.2.2.1.counters,(x.2.2.2.2.2.2.1.free,(x.2.2.2.2.2.2.1.leases,(x.2.2.2.2.2.2.1.bound,(x.2.2.2.2.2.2.2.slices,(x.2.2.2.2.2.2.2.ids,(x.2.2.2.2.2.2.2.used,())))))))))))))) (fun _=>rfl)
def sl_L176_20:SFn TL:=SFn.one ch_L176_20.dec (fun p=>L176_20 p.1 p.2.1 p.2.2.1 p.2.2.2.1 p.2.2.2.2.1 p.2.2.2.2.2.1 p.2.2.2.2.2.2.1 p.2.2.2.2.2.2.2) (.exit 2) co0_L176_4.enc
def cs_lL176_20:cL:=[(125,df_ref11Add)]
def v_L176_20:Env:=envOf tab sl sh [] [(125,.keep)]
theorem v_L176_20_ok:EnvOK PR (mkD cs_lL176_20 sZ) v_L176_20:=envOK_of base aN (aC (oD ok_ref11Add rfl) aN)
theorem run_L176_20 (x:tY32):Out.run (mkO cs_lL176_20 sZ) (evRound v_L176_20 12 20 fd176.an q_L176_20 (loopIn (loopsOf fd176.body) 20) (ch_L176_20.enc x)) (back ch_L176_20 co0_L176_4 fun e=>exE e (.exit 2))=stp_L176_20 x:=by kernel_rfl
theorem ok_L176_20:LoopOK PR (oneS sl_L176_20) nt176 q_L176_20 (loopIn (loopsOf fd176.body) 20) :=
  loop_one v_L176_20_ok (loops:=12) (k:=20) (an:=fd176.an) (by kernel_rfl) (FnSt.subl rfl st176.keys (aC (.inl (by kernel_rfl)) (aC (.inl (by kernel_rfl)) aN))) ch_L176_20 co0_L176_4 (.exit 2) rfl stp_L176_20 _ run_L176_20 (fun x y h=>⟨_,h⟩) (fun _=>below_iff.1 rfl)
def ref12_want (bx1:Book)(lx1:Lease)(w1:Want):Option (Book×Lease×Int) :=
 cond (cond (decide (w1.up_ < 0)) true (cond (decide (w1.up_ > 2199023255552)) true (cond (decide (w1.down_ < 0)) true (cond (decide (w1.down_ > 2199023255552)) true (cond (decide (w1.ids < 0)) true (decide (w1.ids > 50)))))))
 (some (bx1,lx1,1))
 (ob (L176_4 0 0 bx1 lx1 w1 (Book.mk [] [] [] []) (Lease.mk 0 0 0 0 [] [] [])) fun y0 =>
 two y0 (fun a1 =>
 ob (ref12_place a1.2.1 a1.2.2.2.1.key) fun r3 =>
 cond (cond (decide (r3 < 0)) (!sEq a1.2.2.2.1.key s_empty) false)
 (some (a1.2.1,a1.2.2.1,2))
 (cond (cond (sEq a1.2.2.2.1.key s_empty) (cond (a1.2.2.2.1.up_ != 0) true (a1.2.2.2.1.down_ != 0)) false)
 (some (a1.2.1,a1.2.2.1,1))
 (cond (decide (r3≥0))
 (cond (decide (0≤r3))
 (ob (a1.2.1.counters[r3.toNat]?) fun e4 =>
 cond (decide (a1.2.2.2.1.up_ > e4.up_))
 (some (a1.2.1,a1.2.2.1,14))
 (cond (decide (0≤r3))
 (ob (a1.2.1.counters[r3.toNat]?) fun e5 =>
 cond (decide (a1.2.2.2.1.down_ > e5.down_))
 (some (a1.2.1,a1.2.2.1,14))
 (ob (ref11Take a1.2.1.free a1.2.2.2.1.ids) fun r6 =>
 cond (r6.2.2 != 0)
 (some (a1.2.1,a1.2.2.1,r6.2.2))
 (ob (L176_20 r3 r6.1 0 (Book.mk a1.2.1.counters r6.2.1 a1.2.1.leases a1.2.1.bound) a1.2.2.1 a1.2.2.2.1 a1.2.2.2.2.1 a1.2.2.2.2.2) fun y7 =>
 cond (decide (y7.1≥0))
 (cond (fits (([]++y7.2.1.counters).length))
 (cond (decide (0≤y7.1))
 (cond (decide (y7.1 < (([]++y7.2.1.counters).length:Int)))
 (ob (([]++y7.2.1.counters)[y7.1.toNat]?) fun e8 =>
 cond (decide (0≤y7.1))
 (cond (decide (y7.1 < (([]++y7.2.1.counters).length:Int)))
 (ob (([]++y7.2.1.counters)[y7.1.toNat]?) fun e9 =>
 cond (decide (0≤y7.1))
 (cond (decide (y7.1 < (([]++y7.2.1.counters).length:Int)))
 (ob (([]++y7.2.1.counters)[y7.1.toNat]?) fun e10 =>
 cond (decide (0≤y7.1))
 (cond (decide (y7.1 < ((([]++y7.2.1.counters).set y7.1.toNat (Counter.mk e10.key e10.coll e10.lo e10.hi e10.start (w64 (e8.up_ - y7.2.2.2.1.up_)) e10.down_)).length:Int)))
 (ob ((([]++y7.2.1.counters).set y7.1.toNat (Counter.mk e10.key e10.coll e10.lo e10.hi e10.start (w64 (e8.up_ - y7.2.2.2.1.up_)) e10.down_))[y7.1.toNat]?) fun e11 =>
 cond (fits (([]++y7.2.2.1.slices).length))
 (cond (fits ((([]++y7.2.2.1.slices)++[(Slice.mk y7.2.2.2.1.key y7.2.2.2.1.up_ y7.2.2.2.1.down_ 0 0)]).length))
 (some ((Book.mk ((([]++y7.2.1.counters).set y7.1.toNat (Counter.mk e10.key e10.coll e10.lo e10.hi e10.start (w64 (e8.up_ - y7.2.2.2.1.up_)) e10.down_)).set y7.1.toNat (Counter.mk e11.key e11.coll e11.lo e11.hi e11.start e11.up_ (w64 (e9.down_ - y7.2.2.2.1.down_)))) y7.2.1.free y7.2.1.leases y7.2.1.bound),(Lease.mk y7.2.2.1.device y7.2.2.1.epoch y7.2.2.1.until_ y7.2.2.1.last (([]++y7.2.2.1.slices)++[(Slice.mk y7.2.2.2.1.key y7.2.2.2.1.up_ y7.2.2.2.1.down_ 0 0)]) y7.2.2.1.ids y7.2.2.1.used),0))
 none)
 none)
 none)
 none)
 none)
 none)
 none)
 none)
 none)
 none)
 none)
 (some (y7.2.1,y7.2.2.1,0)))))
 none))
 none)
 (ob (ref11Take a1.2.1.free a1.2.2.2.1.ids) fun r12 =>
 cond (r12.2.2 != 0)
 (some (a1.2.1,a1.2.2.1,r12.2.2))
 (ob (L176_20 r3 r12.1 0 (Book.mk a1.2.1.counters r12.2.1 a1.2.1.leases a1.2.1.bound) a1.2.2.1 a1.2.2.2.1 a1.2.2.2.2.1 a1.2.2.2.2.2) fun y13 =>
 cond (decide (y13.1≥0))
 (cond (fits (([]++y13.2.1.counters).length))
 (cond (decide (0≤y13.1))
 (cond (decide (y13.1 < (([]++y13.2.1.counters).length:Int)))
 (ob (([]++y13.2.1.counters)[y13.1.toNat]?) fun e14 =>
 cond (decide (0≤y13.1))
 (cond (decide (y13.1 < (([]++y13.2.1.counters).length:Int)))
 (ob (([]++y13.2.1.counters)[y13.1.toNat]?) fun e15 =>
 cond (decide (0≤y13.1))
 (cond (decide (y13.1 < (([]++y13.2.1.counters).length:Int)))
 (ob (([]++y13.2.1.counters)[y13.1.toNat]?) fun e16 =>
 cond (decide (0≤y13.1))
 (cond (decide (y13.1 < ((([]++y13.2.1.counters).set y13.1.toNat (Counter.mk e16.key e16.coll e16.lo e16.hi e16.start (w64 (e14.up_ - y13.2.2.2.1.up_)) e16.down_)).length:Int)))
 (ob ((([]++y13.2.1.counters).set y13.1.toNat (Counter.mk e16.key e16.coll e16.lo e16.hi e16.start (w64 (e14.up_ - y13.2.2.2.1.up_)) e16.down_))[y13.1.toNat]?) fun e17 =>
 cond (fits (([]++y13.2.2.1.slices).length))
 (cond (fits ((([]++y13.2.2.1.slices)++[(Slice.mk y13.2.2.2.1.key y13.2.2.2.1.up_ y13.2.2.2.1.down_ 0 0)]).length))
 (some ((Book.mk ((([]++y13.2.1.counters).set y13.1.toNat (Counter.mk e16.key e16.coll e16.lo e16.hi e16.start (w64 (e14.up_ - y13.2.2.2.1.up_)) e16.down_)).set y13.1.toNat (Counter.mk e17.key e17.coll e17.lo e17.hi e17.start e17.up_ (w64 (e15.down_ - y13.2.2.2.1.down_)))) y13.2.1.free y13.2.1.leases y13.2.1.bound),(Lease.mk y13.2.2.1.device y13.2.2.1.epoch y13.2.2.1.until_ y13.2.2.1.last (([]++y13.2.2.1.slices)++[(Slice.mk y13.2.2.2.1.key y13.2.2.2.1.up_ y13.2.2.2.1.down_ 0 0)]) y13.2.2.1.ids y13.2.2.1.used),0))
 none)
 none)
 none)
 none)
 none)
 none)
 none)
 none)
 none)
 none)
 none)
 (some (y13.2.1,y13.2.2.1,0))))))) (fun b2 =>
 some (b2.2.2.2.2.1,b2.2.2.2.2.2.1,b2.1)))
def un_ref12_want (p:Book×Lease×Want):Option (Book×Lease×Int):=ref12_want p.1 p.2.1 p.2.2
def df_ref12_want:DFn TL:=DFn.of (DA.cons (DT.agg dc_Book) (DA.cons (DT.agg dc_Lease) (DA.one (DT.agg dc_Want)))) un_ref12_want (DA.cons (DT.agg dc_Book) (DA.cons (DT.agg dc_Lease) (DA.one dI)))
theorem run_ref12_want:DRun [(44,df_ref12_place),(204,df_ref11Take)] [(276004,sl_L176_4),(276020,sl_L176_20)] (envOf tab sl sh [(176,fd176)] [(44,.pure),(204,.keep)]) 176 (DA.cons (DT.agg dc_Book) (DA.cons (DT.agg dc_Lease) (DA.one (DT.agg dc_Want)))) un_ref12_want (DA.cons (DT.agg dc_Book) (DA.cons (DT.agg dc_Lease) (DA.one dI))):=fun _=>by kernel_rfl
theorem ok_ref12_want:DOK PR 176 .keep df_ref12_want:=dok run_ref12_want (envOK_of base (aC (st176.okl rfl (aC (lC ok_L176_4 rfl) (aC (lC ok_L176_20 rfl) aN))) aN) (aC (oD ok_ref12_place rfl) (aC (oD ok_ref11Take rfl) aN))) (.inl rfl) st176.enters
abbrev tY33:=Int×(List Want)×Int×Int×Book×Book×Lease×Book×Lease
def step_L145_7 (i1:Int)(l1:List Want)(i2:Int)(i3:Int)(bx1:Book)(bx2:Book)(lx1:Lease)(bx3:Book)(lx2:Lease):Option ((tY33)⊕(((Int×Int×Book×Book×Lease×Book×Lease)⊕(Int×Int×Book×Book×Lease×Book×Lease×(List Counter)×(List Range)×(List Lease)×(List Int))))) :=
 cond (decide (i3 < (l1.length:Int)))
 (cond (decide (0≤i3))
 (ob (l1[i3.toNat]?) fun e0 =>
 cond (cond (decide (e0.up_ < 0)) true (cond (decide (e0.up_ > 2199023255552)) true (cond (decide (e0.down_ < 0)) true (cond (decide (e0.down_ > 2199023255552)) true (cond (decide (e0.ids < 0)) true (decide (e0.ids > 50)))))))
 (some (.inr (.inr (i1,1,bx1,bx1,(Lease.mk 0 0 0 0 [] [] []),bx3,lx2,bx2.counters,bx2.free,bx2.leases,bx2.bound))))
 (ob (ref12_twice l1 i3) fun r1 =>
 cond (r1)
 (some (.inr (.inr (i1,7,bx1,bx1,(Lease.mk 0 0 0 0 [] [] []),bx3,lx2,bx2.counters,bx2.free,bx2.leases,bx2.bound))))
 (ob (ref12_want bx3 lx2 e0) fun r2 =>
 cond (r2.2.2 != 0)
 (some (.inr (.inr (i1,r2.2.2,bx1,bx1,(Lease.mk 0 0 0 0 [] [] []),bx3,lx2,bx2.counters,bx2.free,bx2.leases,bx2.bound))))
 (some (.inl (i1,l1,i2,(w64 (i3+1)),bx1,bx2,lx1,r2.1,r2.2.1))))))
 none)
 (some (.inr (.inl (i1,i2,bx1,bx2,lx1,bx3,lx2))))
def stp_L145_7 (p:tY33):Option ((tY33)⊕(((Int×Int×Book×Book×Lease×Book×Lease)⊕(Int×Int×Book×Book×Lease×Book×Lease×(List Counter)×(List Range)×(List Lease)×(List Int))))):=step_L145_7 p.1 p.2.1 p.2.2.1 p.2.2.2.1 p.2.2.2.2.1 p.2.2.2.2.2.1 p.2.2.2.2.2.2.1 p.2.2.2.2.2.2.2.1 p.2.2.2.2.2.2.2.2
def L145_7 (i1:Int)(l1:List Want)(i2:Int)(i3:Int)(bx1:Book)(bx2:Book)(lx1:Lease)(bx3:Book)(lx2:Lease):Option (((Int×Int×Book×Book×Lease×Book×Lease)⊕(Int×Int×Book×Book×Lease×Book×Lease×(List Counter)×(List Range)×(List Lease)×(List Int)))):=iterO stp_L145_7 (((l1.length:Int) - i3).toNat+2) (i1,l1,i2,i3,bx1,bx2,lx1,bx3,lx2)
def ch_L145_7:kT (tY33):=kO (kS 9 (kC kI (kC (kF j_lWant) (kC (kP 0 0) (kC (kP 1 0) (kC (kP 2 0) (kC kI (kC (kP 3 0) (kC (kP 4 0) (kC kI kN))))))))) (kC (Cod.var 0 29 cc_Book) (kC (Cod.var 1 29 (kC (kA 5) (kC (kA 6) (kC (kA 7) (kC (kA 8) kN))))) (kC (Cod.var 2 43 cc_Lease) (kC (Cod.var 3 29 cc_Book) (kC (Cod.var 4 43 cc_Lease) (kC (kR 5 65 j_lCounter) (kC (kR 6 153 j_lRange) (kC (kR 7 43 j_lLease) (kC (kR 8 3 j_lInt) kN)))))))))) (fun p=>(p.1.1,p.1.2.1,p.1.2.2.2.2.2.1,(t8 p.1).1,p.2.1,(Book.mk p.2.2.2.2.2.2.1 p.2.2.2.2.2.2.2.1 p.2.2.2.2.2.2.2.2.1 (t8 p.2).1),p.2.2.2.1,p.2.2.2.2.1,p.2.2.2.2.2.1)) (fun (x:tY33)=>((x.1,(x.2.1,((),((),((),(x.2.2.1,((),((),(x.2.2.2.1,()))))))))),(x.2.2.2.2.1,(((),((),((),((),())))),(x.2.2.2.2.2.2.1,(x.2.2.2.2.2.2.2.1,(x.2.2.2.2.2.2.2.2,(x.2.2.2.2.2.1.counters,(x.2.2.2.2.2.1.free,(x.2.2.2.2.2.1.leases,(x.2.2.2.2.2.1.bound,()))))))))))) (fun _=>rfl)
def co0_L145_7:kT (Int×Int×Book×Book×Lease×Book×Lease):=kO (kS 18 (kC kI (kC (kP 1 0) (kC (kP 2 0) (kC kI (kC (kP 3 0) (kC (kP 4 0) kN)))))) (kC (Cod.var 0 29 cc_Book) (kC (Cod.var 1 29 (kC (kA 5) (kC (kA 6) (kC (kA 7) (kC (kA 8) kN))))) (kC (Cod.var 2 43 cc_Lease) (kC (Cod.var 3 29 cc_Book) (kC (Cod.var 4 43 cc_Lease) (kC (kR 5 65 j_lCounter) (kC (kR 6 153 j_lRange) (kC (kR 7 43 j_lLease) (kC (kR 8 3 j_lInt) kN)))))))))) (fun p=>(p.1.1,p.1.2.2.2.1,p.2.1,(Book.mk p.2.2.2.2.2.2.1 p.2.2.2.2.2.2.2.1 p.2.2.2.2.2.2.2.2.1 (t8 p.2).1),p.2.2.2.1,p.2.2.2.2.1,p.2.2.2.2.2.1)) (fun (x:Int×Int×Book×Book×Lease×Book×Lease)=>((x.1,((),((),(x.2.1,((),((),())))))),(x.2.2.1,(((),((),((),((),())))),(x.2.2.2.2.1,(x.2.2.2.2.2.1,(x.2.2.2.2.2.2,(x.2.2.2.1.counters,(x.2.2.2.1.free,(x.2.2.2.1.leases,(x.2.2.2.1.bound,()))))))))))) (fun _=>rfl)
def co1_L145_7:kT (Int×Int×Book×Book×Lease×Book×Lease×(List Counter)×(List Range)×(List Lease)×(List Int)):=kO (kS 21 (kC kI (kC (kP 1 0) (kC (kP 2 0) (kC kI (kC (kP 3 0) (kC (kP 4 0) kN)))))) (kC (Cod.var 0 29 cc_Book) (kC (Cod.var 1 29 cc_Book) (kC (Cod.var 2 43 (kC kJ (kC kJ (kC kJ (kC kJ (kC (kA 18) (kC (kA 19) (kC (kA 20) kN)))))))) (kC (Cod.var 3 29 cc_Book) (kC (Cod.var 4 43 cc_Lease) (kC (kR 5 65 j_lCounter) (kC (kR 6 153 j_lRange) (kC (kR 7 43 j_lLease) (kC (kR 8 3 j_lInt) (kC (kR 18 133 j_lSlice) (kC (kR 19 153 j_lRange) (kC (kR 20 3 j_lInt) kN))))))))))))) (fun p=>(p.1.1,p.1.2.2.2.1,p.2.1,p.2.2.1,(Lease.mk p.2.2.2.1.1 p.2.2.2.1.2.1 p.2.2.2.1.2.2.1 p.2.2.2.1.2.2.2.1 (t8 p.2).2.1 (t8 p.2).2.2.1 (t8 p.2).2.2.2.1),p.2.2.2.2.1,p.2.2.2.2.2.1,p.2.2.2.2.2.2.1,p.2.2.2.2.2.2.2.1,p.2.2.2.2.2.2.2.2.1,(t8 p.2).1)) (fun (x:Int×Int×Book×Book×Lease×Book×Lease×(List Counter)×(List Range)×(List Lease)×(List Int))=>((x.1,((),((),(x.2.1,((),((),())))))),(x.2.2.1,(x.2.2.2.1,((x.2.2.2.2.1.device,(x.2.2.2.2.1.epoch,(x.2.2.2.2.1.until_,(x.2.2.2.2.1.last,((),((),((),()))))))),(x.2.2.2.2.2.1,(x.2.2.2.2.2.2.1,(x.2.2.2.2.2.2.2.1,(x.2.2.2.2.2.2.2.2.1,(x.2.2.2.2.2.2.2.2.2.1,(x.2.2.2.2.2.2.2.2.2.2,(x.2.2.2.2.1.slices,(x.2.2.2.2.1.ids,(x.2.2.2.2.1.used,())))))))))))))) (fun _=>rfl)
def sl_L145_7:SFn TL:=SFn.two ch_L145_7.dec (fun p=>L145_7 p.1 p.2.1 p.2.2.1 p.2.2.2.1 p.2.2.2.2.1 p.2.2.2.2.2.1 p.2.2.2.2.2.2.1 p.2.2.2.2.2.2.2.1 p.2.2.2.2.2.2.2.2) (.exit 0) .ret co0_L145_7.enc co1_L145_7.enc
def cs_lL145_7:cL:=[(175,df_ref12_twice),(176,df_ref12_want)]
def v_L145_7:Env:=envOf tab sl sh [] [(175,.pure),(176,.keep)]
theorem v_L145_7_ok:EnvOK PR (mkD cs_lL145_7 sZ) v_L145_7:=envOK_of base aN (aC (oD ok_ref12_twice rfl) (aC (oD ok_ref12_want rfl) aN))
theorem run_L145_7 (x:tY33):Out.run (mkO cs_lL145_7 sZ) (evRound v_L145_7 12 20 fd145.an q_L145_7 (loopIn (loopsOf fd145.body) 7) (ch_L145_7.enc x)) (back2 ch_L145_7 co0_L145_7 co1_L145_7 (.exit 0) .ret)=stp_L145_7 x:=by kernel_rfl
theorem ok_L145_7:LoopOK PR (oneS sl_L145_7) nt145 q_L145_7 (loopIn (loopsOf fd145.body) 7) :=
  loop_two v_L145_7_ok (loops:=12) (k:=20) (an:=fd145.an) (by kernel_rfl) (FnSt.subl rfl st145.keys (aC (.inl (by kernel_rfl)) (aC (.inl (by kernel_rfl)) aN))) ch_L145_7 co0_L145_7 co1_L145_7 (.exit 0) .ret rfl rfl stp_L145_7 _ run_L145_7 (fun x y h=>⟨_,h⟩) (fun _=>below_iff.1 rfl)
abbrev tY34:=Int×Int×Book×Lease×Book×Lease
def step_L145_19 (i1:Int)(i2:Int)(bx1:Book)(lx1:Lease)(bx2:Book)(lx2:Lease):Option ((tY34)⊕(Int×Book×Lease×Book×Lease)) :=
 cond (decide (i2 < (bx2.leases.length:Int)))
 (cond (decide (0≤i2))
 (ob (bx2.leases[i2.toNat]?) fun e0 =>
 cond (decide (e0.device < i1))
 (some (.inl (i1,(w64 (i2+1)),bx1,lx1,bx2,lx2)))
 (some (.inr (i2,bx1,lx1,bx2,lx2))))
 none)
 (some (.inr (i2,bx1,lx1,bx2,lx2)))
def stp_L145_19 (p:tY34):Option ((tY34)⊕(Int×Book×Lease×Book×Lease)):=step_L145_19 p.1 p.2.1 p.2.2.1 p.2.2.2.1 p.2.2.2.2.1 p.2.2.2.2.2
def L145_19 (i1:Int)(i2:Int)(bx1:Book)(lx1:Lease)(bx2:Book)(lx2:Lease):Option (Int×Book×Lease×Book×Lease):=iterO stp_L145_19 (1099511627776) (i1,i2,bx1,lx1,bx2,lx2)
def ch_L145_19:kT (tY34):=kO (kS 8 (kC kI (kC (kP 0 0) (kC (kP 1 0) (kC (kP 2 0) (kC (kP 3 0) (kC kI kN)))))) (kC (Cod.var 0 29 (kC (kA 4) (kC (kA 5) (kC (kA 6) (kC (kA 7) kN))))) (kC (Cod.var 1 43 cc_Lease) (kC (Cod.var 2 29 cc_Book) (kC (Cod.var 3 43 cc_Lease) (kC (kR 4 65 j_lCounter) (kC (kR 5 153 j_lRange) (kC (kR 6 43 j_lLease) (kC (kR 7 3 j_lInt) kN))))))))) (fun ((z0,_,_,_,_,z1,_),_,z2,z3,z4,z5,z6,z7,z8,_)=>(z0,z1,(Book.mk z5 z6 z7 z8),z2,z3,z4)) (fun (x:tY34)=>((x.1,((),((),((),((),(x.2.1,())))))),(((),((),((),((),())))),(x.2.2.2.1,(x.2.2.2.2.1,(x.2.2.2.2.2,(x.2.2.1.counters,(x.2.2.1.free,(x.2.2.1.leases,(x.2.2.1.bound,())))))))))) (fun _=>rfl)
def co0_L145_19:kT (Int×Book×Lease×Book×Lease):=kO (kS 16 (kC (kP 0 0) (kC (kP 1 0) (kC (kP 2 0) (kC (kP 3 0) (kC kI kN))))) (kC (Cod.var 0 29 (kC (kA 4) (kC (kA 5) (kC (kA 6) (kC (kA 7) kN))))) (kC (Cod.var 1 43 cc_Lease) (kC (Cod.var 2 29 cc_Book) (kC (Cod.var 3 43 cc_Lease) (kC (kR 4 65 j_lCounter) (kC (kR 5 153 j_lRange) (kC (kR 6 43 j_lLease) (kC (kR 7 3 j_lInt) kN))))))))) (fun ((_,_,_,_,z0,_),_,z1,z2,z3,z4,z5,z6,z7,_)=>(z0,(Book.mk z4 z5 z6 z7),z1,z2,z3)) (fun (x:Int×Book×Lease×Book×Lease)=>(((),((),((),((),(x.1,()))))),(((),((),((),((),())))),(x.2.2.1,(x.2.2.2.1,(x.2.2.2.2,(x.2.1.counters,(x.2.1.free,(x.2.1.leases,(x.2.1.bound,())))))))))) (fun _=>rfl)
def sl_L145_19:SFn TL:=SFn.one ch_L145_19.dec (fun p=>L145_19 p.1 p.2.1 p.2.2.1 p.2.2.2.1 p.2.2.2.2.1 p.2.2.2.2.2) (.exit 2) co0_L145_19.enc
def v_L145_19:Env:=envOf tab sl sh [] []
theorem v_L145_19_ok:EnvOK PR (mkD cZ sZ) v_L145_19:=envOK_of base aN aN
theorem run_L145_19 (x:tY34):Out.run (mkO cZ sZ) (evRound v_L145_19 12 20 fd145.an q_L145_19 (loopIn (loopsOf fd145.body) 19) (ch_L145_19.enc x)) (back ch_L145_19 co0_L145_19 fun e=>exE e (.exit 2))=stp_L145_19 x:=by kernel_rfl
theorem ok_L145_19:LoopOK PR (oneS sl_L145_19) nt145 q_L145_19 (loopIn (loopsOf fd145.body) 19) :=
  loop_one v_L145_19_ok (loops:=12) (k:=20) (an:=fd145.an) (by kernel_rfl) (FnSt.subl rfl st145.keys (aC (.inl (by kernel_rfl)) (aC (.inl (by kernel_rfl)) aN))) ch_L145_19 co0_L145_19 (.exit 2) rfl stp_L145_19 _ run_L145_19 (fun x y h=>⟨_,h⟩) (fun _=>below_iff.1 rfl)
def ref12Grant (bx1:Book)(i1:Int)(i2:Int)(i3:Int)(l1:List Want):Option (Book×Lease×Int) :=
 cond (cond (decide (i1 < 0)) true (cond (decide (i1≥6)) true (cond (decide (i2 < 1)) true (cond (decide (i2 > 1073741824)) true (cond (decide (i3 < 0)) true (cond (decide (i3 > 2199023255552)) true (decide ((l1.length:Int) > 5))))))))
 (some (bx1,(Lease.mk 0 0 0 0 [] [] []),1))
 (ob (ref12_at bx1 i1) fun r0 =>
 cond (decide (r0≥0))
 (some (bx1,(Lease.mk 0 0 0 0 [] [] []),19))
 (ob (L145_7 i1 l1 0 0 bx1 (Book.mk [] [] [] []) (Lease.mk 0 0 0 0 [] [] []) bx1 (Lease.mk i1 i2 i3 (-1) [] [] [])) fun y1 =>
 two y1 (fun a2 =>
 ob (L145_19 a2.1 0 a2.2.2.2.1 a2.2.2.2.2.1 a2.2.2.2.2.2.1 a2.2.2.2.2.2.2) fun y4 =>
 cond (decide (0≤y4.1))
 (cond (decide (y4.1≤(y4.2.2.2.1.leases.length:Int)))
 (cond (fits (([]++(y4.2.2.2.1.leases.take y4.1.toNat)).length))
 (cond (fits ((([]++(y4.2.2.2.1.leases.take y4.1.toNat))++[y4.2.2.2.2]).length))
 (cond (decide (0≤y4.1))
 (cond (decide (y4.1≤(y4.2.2.2.1.leases.length:Int)))
 (cond (decide ((y4.2.2.2.1.leases.length:Int)≤(y4.2.2.2.1.leases.length:Int)))
 (cond (fits (((([]++(y4.2.2.2.1.leases.take y4.1.toNat))++[y4.2.2.2.2])++((y4.2.2.2.1.leases.take (((y4.2.2.2.1.leases.length:Int)).toNat)).drop y4.1.toNat)).length))
 (ob (ref12CopyOf y4.2.2.2.2) fun y5 =>
 some ((Book.mk y4.2.2.2.1.counters y4.2.2.2.1.free ((([]++(y4.2.2.2.1.leases.take y4.1.toNat))++[y4.2.2.2.2])++((y4.2.2.2.1.leases.take (((y4.2.2.2.1.leases.length:Int)).toNat)).drop y4.1.toNat)) y4.2.2.2.1.bound),y5,0))
 none)
 none)
 none)
 none)
 none)
 none)
 none)
 none) (fun b3 =>
 some (b3.2.2.2.1,b3.2.2.2.2.1,b3.2.1))))
def un_ref12Grant (p:Book×Int×Int×Int×(List Want)):Option (Book×Lease×Int):=ref12Grant p.1 p.2.1 p.2.2.1 p.2.2.2.1 p.2.2.2.2
def df_ref12Grant:DFn TL:=DFn.of (DA.cons (DT.agg dc_Book) (DA.cons dI (DA.cons dI (DA.cons dI (DA.one (DT.one di_lWant)))))) un_ref12Grant (DA.cons (DT.agg dc_Book) (DA.cons (DT.agg dc_Lease) (DA.one dI)))
theorem run_ref12Grant:DRun [(137,df_ref12_at)] [(138,sf_ref12CopyOf),(245007,sl_L145_7),(245019,sl_L145_19)] (envOf tab sl sh [(145,fd145)] [(137,.pure),(138,.sum)]) 145 (DA.cons (DT.agg dc_Book) (DA.cons dI (DA.cons dI (DA.cons dI (DA.one (DT.one di_lWant)))))) un_ref12Grant (DA.cons (DT.agg dc_Book) (DA.cons (DT.agg dc_Lease) (DA.one dI))):=fun _=>by kernel_rfl
theorem ok_ref12Grant:DOK PR 145 .keep df_ref12Grant:=dok run_ref12Grant (envOK_of base (aC (st145.okl rfl (aC (lC ok_L145_7 rfl) (aC (lC ok_L145_19 rfl) aN))) aN) (aC (oD ok_ref12_at rfl) (aC (okS rfl ok_ref12CopyOf) aN))) (.inl rfl) st145.enters
def ref13_checkout (d1:Desk)(c1:Cmd):Option (Desk×Reply) :=
 cond (cond (decide (c1.n < 1)) true (decide (c1.n > 1000)))
 (ob (ref13_no 1) fun r0 =>
 some (d1,r0))
 (ob (ref12Grant d1.book c1.device c1.epoch (w64 (d1.now+c1.n)) c1.wants) fun r1 =>
 cond (r1.2.2 != 0)
 (ob (ref13_no r1.2.2) fun r2 =>
 some (d1,r2))
 (some ((Desk.mk r1.1 d1.colls d1.log d1.dev d1.lost d1.now),(Reply.mk 0 0 r1.2.1))))
def un_ref13_checkout (p:Desk×Cmd):Option (Desk×Reply):=ref13_checkout p.1 p.2
def df_ref13_checkout:DFn TL:=DFn.of (DA.cons (DT.agg dc_Desk) (DA.one (DT.agg dc_Cmd))) un_ref13_checkout (DA.cons (DT.agg dc_Desk) (DA.one (DT.agg dc_Reply)))
theorem run_ref13_checkout:DRun [(57,df_ref13_no),(145,df_ref12Grant)] [] (envOf tab sl sh [(105,fd105)] [(57,.keep),(145,.keep)]) 105 (DA.cons (DT.agg dc_Desk) (DA.one (DT.agg dc_Cmd))) un_ref13_checkout (DA.cons (DT.agg dc_Desk) (DA.one (DT.agg dc_Reply))):=fun _=>by kernel_rfl
theorem ok_ref13_checkout:DOK PR 105 .keep df_ref13_checkout:=dok run_ref13_checkout (envOK_of base (aC (st105.okl rfl aN) aN) (aC (oD ok_ref13_no rfl) (aC (oD ok_ref12Grant rfl) aN))) (.inl rfl) st105.enters
def ref13_closing (d1:Desk)(c1:Cmd):Option (Desk×Reply) :=
 ob (ref12Find d1.book c1.device c1.epoch) fun r0 =>
 cond (!r0.2)
 (ob (ref13_no 2) fun r1 =>
 some (d1,r1))
 (ob (ref13Included d1 c1.device c1.epoch) fun r2 =>
 cond (cond (decide (c1.n < r2)) true (decide (c1.n > 1073741824)))
 (ob (ref13_no 1) fun r3 =>
 some (d1,r3))
 (ob (ref12Put d1.book (Lease.mk r0.1.device r0.1.epoch r0.1.until_ c1.n r0.1.slices r0.1.ids r0.1.used)) fun r4 =>
 some ((Desk.mk r4.1 d1.colls d1.log d1.dev d1.lost d1.now),(Reply.mk 0 0 (Lease.mk 0 0 0 0 [] [] [])))))
def un_ref13_closing (p:Desk×Cmd):Option (Desk×Reply):=ref13_closing p.1 p.2
def df_ref13_closing:DFn TL:=DFn.of (DA.cons (DT.agg dc_Desk) (DA.one (DT.agg dc_Cmd))) un_ref13_closing (DA.cons (DT.agg dc_Desk) (DA.one (DT.agg dc_Reply)))
theorem run_ref13_closing:DRun [(98,df_ref12Find),(57,df_ref13_no),(54,df_ref13Included),(141,df_ref12Put)] [] (envOf tab sl sh [(106,fd106)] [(98,.keep),(57,.keep),(54,.pure),(141,.keep)]) 106 (DA.cons (DT.agg dc_Desk) (DA.one (DT.agg dc_Cmd))) un_ref13_closing (DA.cons (DT.agg dc_Desk) (DA.one (DT.agg dc_Reply))):=fun _=>by kernel_rfl
theorem ok_ref13_closing:DOK PR 106 .keep df_ref13_closing:=dok run_ref13_closing (envOK_of base (aC (st106.okl rfl aN) aN) (aC (oD ok_ref12Find rfl) (aC (oD ok_ref13_no rfl) (aC (oD ok_ref13Included rfl) (aC (oD ok_ref12Put rfl) aN))))) (.inl rfl) st106.enters
def ref13_request (d1:Desk)(c1:Cmd):Option (Desk×Reply) :=
 cond (decide (0≤c1.device) && decide (c1.device < 6))
 (cond (cond (decide (c1.req < 1)) true (decide (c1.req > 1073741824)))
 (ob (ref13_no 1) fun r0 =>
 some (d1,r0))
 (cond (c1.req == (cond (decide (c1.device=0)) d1.dev.a0.req (cond (decide (c1.device=1)) d1.dev.a1.req (cond (decide (c1.device=2)) d1.dev.a2.req (cond (decide (c1.device=3)) d1.dev.a3.req (cond (decide (c1.device=4)) d1.dev.a4.req d1.dev.a5.req))))))
 (ob (ref13_copyReply (Reply.sel (decide (c1.device=0)) d1.dev.a0.reply (Reply.mk (cond (decide (c1.device=1)) d1.dev.a1.reply.err (cond (decide (c1.device=2)) d1.dev.a2.reply.err (cond (decide (c1.device=3)) d1.dev.a3.reply.err (cond (decide (c1.device=4)) d1.dev.a4.reply.err d1.dev.a5.reply.err)))) (cond (decide (c1.device=1)) d1.dev.a1.reply.n (cond (decide (c1.device=2)) d1.dev.a2.reply.n (cond (decide (c1.device=3)) d1.dev.a3.reply.n (cond (decide (c1.device=4)) d1.dev.a4.reply.n d1.dev.a5.reply.n)))) (Lease.mk (cond (decide (c1.device=1)) d1.dev.a1.reply.lease.device (cond (decide (c1.device=2)) d1.dev.a2.reply.lease.device (cond (decide (c1.device=3)) d1.dev.a3.reply.lease.device (cond (decide (c1.device=4)) d1.dev.a4.reply.lease.device d1.dev.a5.reply.lease.device)))) (cond (decide (c1.device=1)) d1.dev.a1.reply.lease.epoch (cond (decide (c1.device=2)) d1.dev.a2.reply.lease.epoch (cond (decide (c1.device=3)) d1.dev.a3.reply.lease.epoch (cond (decide (c1.device=4)) d1.dev.a4.reply.lease.epoch d1.dev.a5.reply.lease.epoch)))) (cond (decide (c1.device=1)) d1.dev.a1.reply.lease.until_ (cond (decide (c1.device=2)) d1.dev.a2.reply.lease.until_ (cond (decide (c1.device=3)) d1.dev.a3.reply.lease.until_ (cond (decide (c1.device=4)) d1.dev.a4.reply.lease.until_ d1.dev.a5.reply.lease.until_)))) (cond (decide (c1.device=1)) d1.dev.a1.reply.lease.last (cond (decide (c1.device=2)) d1.dev.a2.reply.lease.last (cond (decide (c1.device=3)) d1.dev.a3.reply.lease.last (cond (decide (c1.device=4)) d1.dev.a4.reply.lease.last d1.dev.a5.reply.lease.last)))) (cond (decide (c1.device=1)) d1.dev.a1.reply.lease.slices (cond (decide (c1.device=2)) d1.dev.a2.reply.lease.slices (cond (decide (c1.device=3)) d1.dev.a3.reply.lease.slices (cond (decide (c1.device=4)) d1.dev.a4.reply.lease.slices d1.dev.a5.reply.lease.slices)))) (cond (decide (c1.device=1)) d1.dev.a1.reply.lease.ids (cond (decide (c1.device=2)) d1.dev.a2.reply.lease.ids (cond (decide (c1.device=3)) d1.dev.a3.reply.lease.ids (cond (decide (c1.device=4)) d1.dev.a4.reply.lease.ids d1.dev.a5.reply.lease.ids)))) (cond (decide (c1.device=1)) d1.dev.a1.reply.lease.used (cond (decide (c1.device=2)) d1.dev.a2.reply.lease.used (cond (decide (c1.device=3)) d1.dev.a3.reply.lease.used (cond (decide (c1.device=4)) d1.dev.a4.reply.lease.used d1.dev.a5.reply.lease.used)))))))) fun r1 =>
 some (d1,r1))
 (cond (decide (c1.req < (cond (decide (c1.device=0)) d1.dev.a0.req (cond (decide (c1.device=1)) d1.dev.a1.req (cond (decide (c1.device=2)) d1.dev.a2.req (cond (decide (c1.device=3)) d1.dev.a3.req (cond (decide (c1.device=4)) d1.dev.a4.req d1.dev.a5.req)))))))
 (ob (ref13_no 7) fun r2 =>
 some (d1,r2))
 (cond (c1.kind == 1)
 (ob (ref13_register d1 c1) fun r3 =>
 ob (ref13_copyReply r3.2) fun r9 =>
 cond (decide (0≤c1.device) && decide (c1.device < 6))
 (cond (decide (0≤c1.device) && decide (c1.device < 6))
 (some ((Desk.mk r3.1.book r3.1.colls r3.1.log (A6Device.mk (Device.mk r3.1.dev.a0.epoch (cond (decide (c1.device=0)) c1.req r3.1.dev.a0.req) (Reply.sel (decide (c1.device=0)) r9 r3.1.dev.a0.reply)) (Device.mk r3.1.dev.a1.epoch (cond (decide (c1.device=1)) c1.req r3.1.dev.a1.req) (Reply.sel (decide (c1.device=1)) r9 r3.1.dev.a1.reply)) (Device.mk r3.1.dev.a2.epoch (cond (decide (c1.device=2)) c1.req r3.1.dev.a2.req) (Reply.sel (decide (c1.device=2)) r9 r3.1.dev.a2.reply)) (Device.mk r3.1.dev.a3.epoch (cond (decide (c1.device=3)) c1.req r3.1.dev.a3.req) (Reply.sel (decide (c1.device=3)) r9 r3.1.dev.a3.reply)) (Device.mk r3.1.dev.a4.epoch (cond (decide (c1.device=4)) c1.req r3.1.dev.a4.req) (Reply.sel (decide (c1.device=4)) r9 r3.1.dev.a4.reply)) (Device.mk r3.1.dev.a5.epoch (cond (decide (c1.device=5)) c1.req r3.1.dev.a5.req) (Reply.sel (decide (c1.device=5)) r9 r3.1.dev.a5.reply))) r3.1.lost r3.1.now),r3.2))
 none)
 none)
 (ob (ref13_current d1 c1) fun r4 =>
 cond (r4 != 0)
 (ob (ref13_current d1 c1) fun r5 =>
 ob (ref13_no r5) fun r6 =>
 ob (ref13_copyReply r6) fun r10 =>
 cond (decide (0≤c1.device) && decide (c1.device < 6))
 (cond (decide (0≤c1.device) && decide (c1.device < 6))
 (some ((Desk.mk d1.book d1.colls d1.log (A6Device.mk (Device.mk d1.dev.a0.epoch (cond (decide (c1.device=0)) c1.req d1.dev.a0.req) (Reply.sel (decide (c1.device=0)) r10 d1.dev.a0.reply)) (Device.mk d1.dev.a1.epoch (cond (decide (c1.device=1)) c1.req d1.dev.a1.req) (Reply.sel (decide (c1.device=1)) r10 d1.dev.a1.reply)) (Device.mk d1.dev.a2.epoch (cond (decide (c1.device=2)) c1.req d1.dev.a2.req) (Reply.sel (decide (c1.device=2)) r10 d1.dev.a2.reply)) (Device.mk d1.dev.a3.epoch (cond (decide (c1.device=3)) c1.req d1.dev.a3.req) (Reply.sel (decide (c1.device=3)) r10 d1.dev.a3.reply)) (Device.mk d1.dev.a4.epoch (cond (decide (c1.device=4)) c1.req d1.dev.a4.req) (Reply.sel (decide (c1.device=4)) r10 d1.dev.a4.reply)) (Device.mk d1.dev.a5.epoch (cond (decide (c1.device=5)) c1.req d1.dev.a5.req) (Reply.sel (decide (c1.device=5)) r10 d1.dev.a5.reply))) d1.lost d1.now),r6))
 none)
 none)
 (cond (c1.kind == 2)
 (ob (ref13_checkout d1 c1) fun r7 =>
 ob (ref13_copyReply r7.2) fun r11 =>
 cond (decide (0≤c1.device) && decide (c1.device < 6))
 (cond (decide (0≤c1.device) && decide (c1.device < 6))
 (some ((Desk.mk r7.1.book r7.1.colls r7.1.log (A6Device.mk (Device.mk r7.1.dev.a0.epoch (cond (decide (c1.device=0)) c1.req r7.1.dev.a0.req) (Reply.sel (decide (c1.device=0)) r11 r7.1.dev.a0.reply)) (Device.mk r7.1.dev.a1.epoch (cond (decide (c1.device=1)) c1.req r7.1.dev.a1.req) (Reply.sel (decide (c1.device=1)) r11 r7.1.dev.a1.reply)) (Device.mk r7.1.dev.a2.epoch (cond (decide (c1.device=2)) c1.req r7.1.dev.a2.req) (Reply.sel (decide (c1.device=2)) r11 r7.1.dev.a2.reply)) (Device.mk r7.1.dev.a3.epoch (cond (decide (c1.device=3)) c1.req r7.1.dev.a3.req) (Reply.sel (decide (c1.device=3)) r11 r7.1.dev.a3.reply)) (Device.mk r7.1.dev.a4.epoch (cond (decide (c1.device=4)) c1.req r7.1.dev.a4.req) (Reply.sel (decide (c1.device=4)) r11 r7.1.dev.a4.reply)) (Device.mk r7.1.dev.a5.epoch (cond (decide (c1.device=5)) c1.req r7.1.dev.a5.req) (Reply.sel (decide (c1.device=5)) r11 r7.1.dev.a5.reply))) r7.1.lost r7.1.now),r7.2))
 none)
 none)
 (ob (ref13_closing d1 c1) fun r8 =>
 ob (ref13_copyReply r8.2) fun r12 =>
 cond (decide (0≤c1.device) && decide (c1.device < 6))
 (cond (decide (0≤c1.device) && decide (c1.device < 6))
 (some ((Desk.mk r8.1.book r8.1.colls r8.1.log (A6Device.mk (Device.mk r8.1.dev.a0.epoch (cond (decide (c1.device=0)) c1.req r8.1.dev.a0.req) (Reply.sel (decide (c1.device=0)) r12 r8.1.dev.a0.reply)) (Device.mk r8.1.dev.a1.epoch (cond (decide (c1.device=1)) c1.req r8.1.dev.a1.req) (Reply.sel (decide (c1.device=1)) r12 r8.1.dev.a1.reply)) (Device.mk r8.1.dev.a2.epoch (cond (decide (c1.device=2)) c1.req r8.1.dev.a2.req) (Reply.sel (decide (c1.device=2)) r12 r8.1.dev.a2.reply)) (Device.mk r8.1.dev.a3.epoch (cond (decide (c1.device=3)) c1.req r8.1.dev.a3.req) (Reply.sel (decide (c1.device=3)) r12 r8.1.dev.a3.reply)) (Device.mk r8.1.dev.a4.epoch (cond (decide (c1.device=4)) c1.req r8.1.dev.a4.req) (Reply.sel (decide (c1.device=4)) r12 r8.1.dev.a4.reply)) (Device.mk r8.1.dev.a5.epoch (cond (decide (c1.device=5)) c1.req r8.1.dev.a5.req) (Reply.sel (decide (c1.device=5)) r12 r8.1.dev.a5.reply))) r8.1.lost r8.1.now),r8.2))
 none)
 none)))))))
 none
def un_ref13_request (p:Desk×Cmd):Option (Desk×Reply):=ref13_request p.1 p.2
def df_ref13_request:DFn TL:=DFn.of (DA.cons (DT.agg dc_Desk) (DA.one (DT.agg dc_Cmd))) un_ref13_request (DA.cons (DT.agg dc_Desk) (DA.one (DT.agg dc_Reply)))
theorem run_ref13_request:DRun [(57,df_ref13_no),(103,df_ref13_copyReply),(104,df_ref13_register),(58,df_ref13_current),(105,df_ref13_checkout),(106,df_ref13_closing)] [] (envOf tab sl sh [(62,fd62)] [(57,.keep),(103,.keep),(104,.keep),(58,.pure),(105,.keep),(106,.keep)]) 62 (DA.cons (DT.agg dc_Desk) (DA.one (DT.agg dc_Cmd))) un_ref13_request (DA.cons (DT.agg dc_Desk) (DA.one (DT.agg dc_Reply))):=fun _=>by kernel_rfl
theorem ok_ref13_request:DOK PR 62 .keep df_ref13_request:=dok run_ref13_request (envOK_of base (aC (st62.okl rfl aN) aN) (aC (oD ok_ref13_no rfl) (aC (oD ok_ref13_copyReply rfl) (aC (oD ok_ref13_register rfl) (aC (oD ok_ref13_current rfl) (aC (oD ok_ref13_checkout rfl) (aC (oD ok_ref13_closing rfl) aN))))))) (.inl rfl) st62.enters
def ref13Do (d1:Desk)(c1:Cmd):Option (Desk×Reply) :=
 cond (cond (decide (c1.kind < 1)) true (decide (c1.kind > 7)))
 (ob (ref13_no 3) fun r0 =>
 some (d1,r0))
 (cond (c1.kind == 7)
 (cond (cond (decide (c1.n < 0)) true (decide (c1.n > 1099511627776)))
 (ob (ref13_no 1) fun r1 =>
 some (d1,r1))
 (some ((Desk.mk d1.book d1.colls d1.log d1.dev d1.lost (max2 d1.now c1.n)),(Reply.mk 0 0 (Lease.mk 0 0 0 0 [] [] [])))))
 (cond (cond (decide (c1.device < 0)) true (decide (c1.device≥6)))
 (ob (ref13_no 1) fun r2 =>
 some (d1,r2))
 (cond (c1.kind == 3)
 (ob (ref13_current d1 c1) fun r3 =>
 cond (r3 != 0)
 (ob (ref13_current d1 c1) fun r4 =>
 ob (ref13_no r4) fun r5 =>
 some (d1,r5))
 (ob (ref13_merge d1 c1) fun r6 =>
 some (r6.1,r6.2)))
 (cond (c1.kind == 5)
 (ob (ref13_reclaim d1 c1) fun r7 =>
 some (r7.1,r7.2))
 (cond (c1.kind == 6)
 (ob (ref13_lose d1 c1) fun r8 =>
 some (r8.1,r8.2))
 (ob (ref13_request d1 c1) fun r9 =>
 some (r9.1,r9.2)))))))
def un_ref13Do (p:Desk×Cmd):Option (Desk×Reply):=ref13Do p.1 p.2
def df_ref13Do:DFn TL:=DFn.of (DA.cons (DT.agg dc_Desk) (DA.one (DT.agg dc_Cmd))) un_ref13Do (DA.cons (DT.agg dc_Desk) (DA.one (DT.agg dc_Reply)))
theorem run_ref13Do:DRun [(57,df_ref13_no),(58,df_ref13_current),(59,df_ref13_merge),(60,df_ref13_reclaim),(61,df_ref13_lose),(62,df_ref13_request)] [] (envOf tab sl sh [(29,fd29)] [(57,.keep),(58,.pure),(59,.keep),(60,.keep),(61,.keep),(62,.keep)]) 29 (DA.cons (DT.agg dc_Desk) (DA.one (DT.agg dc_Cmd))) un_ref13Do (DA.cons (DT.agg dc_Desk) (DA.one (DT.agg dc_Reply))):=fun _=>by kernel_rfl
theorem ok_ref13Do:DOK PR 29 .keep df_ref13Do:=dok run_ref13Do (envOK_of base (aC (st29.okl rfl aN) aN) (aC (oD ok_ref13_no rfl) (aC (oD ok_ref13_current rfl) (aC (oD ok_ref13_merge rfl) (aC (oD ok_ref13_reclaim rfl) (aC (oD ok_ref13_lose rfl) (aC (oD ok_ref13_request rfl) aN))))))) (.inl rfl) st29.enters
abbrev tY35:=(List Act)×Int×Desk×Desk
def step_L23_3 (l1:List Act)(i1:Int)(d1:Desk)(d2:Desk):Option ((tY35)⊕(Desk×Desk)) :=
 cond (decide (i1 < (l1.length:Int)))
 (cond (decide (0≤i1))
 (ob (l1[i1.toNat]?) fun e0 =>
 ob (l13ActCmd e0 d2) fun r1 =>
 ob (ref13Do d2 r1) fun r2 =>
 some (.inl (l1,(w64 (i1+1)),d1,r2.1)))
 none)
 (some (.inr (d1,d2)))
def stp_L23_3 (p:tY35):Option ((tY35)⊕(Desk×Desk)):=step_L23_3 p.1 p.2.1 p.2.2.1 p.2.2.2
def L23_3 (l1:List Act)(i1:Int)(d1:Desk)(d2:Desk):Option (Desk×Desk):=iterO stp_L23_3 (((l1.length:Int) - i1).toNat+2) (l1,i1,d1,d2)
def ch_L23_3:kT (tY35):=kO (kS 44 (kC (kF j_lAct) (kC (kP 0 0) (kC (kP 1 0) (kC kI kN)))) (kC (Cod.var 0 50 (kC (kA 2) (kC (kA 3) (kC (kA 4) (kC (kA 5) (kC (kA 6) (kC (kA 7) (kC (kA 8) (kC (kA 9) (kC (kA 10) (kC (kA 11) (kC (kA 12) (kC (kA 13) (kC (kA 14) (kC (kA 15) (kC (kA 16) (kC (kA 17) (kC (kA 18) (kC (kA 19) (kC (kA 20) (kC (kA 21) (kC (kA 22) (kC (kA 23) (kC (kA 24) (kC kJ (kC kJ (kC kJ (kC kJ (kC kJ (kC kJ (kC kJ (kC kJ (kC (kA 25) (kC (kA 26) (kC (kA 27) (kC kJ (kC kJ (kC kJ (kC kJ (kC kJ (kC kJ (kC kJ (kC kJ (kC (kA 28) (kC (kA 29) (kC (kA 30) (kC kJ (kC kJ (kC kJ (kC kJ (kC kJ (kC kJ (kC kJ (kC kJ (kC (kA 31) (kC (kA 32) (kC (kA 33) (kC kJ (kC kJ (kC kJ (kC kJ (kC kJ (kC kJ (kC kJ (kC kJ (kC (kA 34) (kC (kA 35) (kC (kA 36) (kC kJ (kC kJ (kC kJ (kC kJ (kC kJ (kC kJ (kC kJ (kC kJ (kC (kA 37) (kC (kA 38) (kC (kA 39) (kC kJ (kC kJ (kC kJ (kC kJ (kC kJ (kC kJ (kC kJ (kC kJ (kC (kA 40) (kC (kA 41) (kC (kA 42) (kC (kA 43) (kC kJ kN)))))))))))))))))))))))))))))))))))))))))))))))))))))))))))))))))))))))))))))))))))))))))))) (kC (Cod.var 1 50 cc_Desk) (kC (kR 2 65 j_lCounter) (kC (kR 3 153 j_lRange) (kC (kR 4 43 j_lLease) (kC (kR 5 3 j_lInt) (kC (kR 6 66 j_lEntry) (kC (kR 7 142 j_lReg) (kC (kR 8 145 j_lElem) (kC (kR 9 59 j_lEntry) (kC (kR 10 129 j_lSum) (kC (kR 11 149 j_lBind) (kC (kR 12 66 j_lEntry) (kC (kR 13 142 j_lReg) (kC (kR 14 145 j_lElem) (kC (kR 15 59 j_lEntry) (kC (kR 16 129 j_lSum) (kC (kR 17 149 j_lBind) (kC (kR 18 66 j_lEntry) (kC (kR 19 142 j_lReg) (kC (kR 20 145 j_lElem) (kC (kR 21 59 j_lEntry) (kC (kR 22 129 j_lSum) (kC (kR 23 149 j_lBind) (kC (kR 24 61 j_lOp) (kC (kR 25 133 j_lSlice) (kC (kR 26 153 j_lRange) (kC (kR 27 3 j_lInt) (kC (kR 28 133 j_lSlice) (kC (kR 29 153 j_lRange) (kC (kR 30 3 j_lInt) (kC (kR 31 133 j_lSlice) (kC (kR 32 153 j_lRange) (kC (kR 33 3 j_lInt) (kC (kR 34 133 j_lSlice) (kC (kR 35 153 j_lRange) (kC (kR 36 3 j_lInt) (kC (kR 37 133 j_lSlice) (kC (kR 38 153 j_lRange) (kC (kR 39 3 j_lInt) (kC (kR 40 133 j_lSlice) (kC (kR 41 153 j_lRange) (kC (kR 42 3 j_lInt) (kC (kR 43 66 j_lEntry) kN))))))))))))))))))))))))))))))))))))))))))))) (fun p=>(p.1.1,p.1.2.2.2.1,(Desk.mk (Book.mk p.2.2.2.1 p.2.2.2.2.1 p.2.2.2.2.2.1 p.2.2.2.2.2.2.1) (A3Coll.mk (Coll.mk p.2.2.2.2.2.2.2.1 p.2.2.2.2.2.2.2.2.1 (t8 p.2).1 (t8 p.2).2.1 (t8 p.2).2.2.1 (t8 p.2).2.2.2.1) (Coll.mk (t8 p.2).2.2.2.2.1 (t8 p.2).2.2.2.2.2.1 (t8 p.2).2.2.2.2.2.2.1 (t8 p.2).2.2.2.2.2.2.2.1 (t8 (t8 p.2)).1 (t8 (t8 p.2)).2.1) (Coll.mk (t8 (t8 p.2)).2.2.1 (t8 (t8 p.2)).2.2.2.1 (t8 (t8 p.2)).2.2.2.2.1 (t8 (t8 p.2)).2.2.2.2.2.1 (t8 (t8 p.2)).2.2.2.2.2.2.1 (t8 (t8 p.2)).2.2.2.2.2.2.2.1)) (t8 (t8 (t8 p.2))).1 (A6Device.mk (Device.mk (t8 (t8 p.2.1)).2.2.2.2.2.2.2.1 (t8 (t8 (t8 p.2.1))).1 (Reply.mk (t8 (t8 (t8 p.2.1))).2.1 (t8 (t8 (t8 p.2.1))).2.2.1 (Lease.mk (t8 (t8 (t8 p.2.1))).2.2.2.1 (t8 (t8 (t8 p.2.1))).2.2.2.2.1 (t8 (t8 (t8 p.2.1))).2.2.2.2.2.1 (t8 (t8 (t8 p.2.1))).2.2.2.2.2.2.1 (t8 (t8 (t8 p.2))).2.1 (t8 (t8 (t8 p.2))).2.2.1 (t8 (t8 (t8 p.2))).2.2.2.1))) (Device.mk (t32 p.2.1).2.2.1 (t32 p.2.1).2.2.2.1 (Reply.mk (t32 p.2.1).2.2.2.2.1 (t32 p.2.1).2.2.2.2.2.1 (Lease.mk (t32 p.2.1).2.2.2.2.2.2.1 (t32 p.2.1).2.2.2.2.2.2.2.1 (t8 (t32 p.2.1)).1 (t8 (t32 p.2.1)).2.1 (t8 (t8 (t8 p.2))).2.2.2.2.1 (t8 (t8 (t8 p.2))).2.2.2.2.2.1 (t8 (t8 (t8 p.2))).2.2.2.2.2.2.1))) (Device.mk (t8 (t32 p.2.1)).2.2.2.2.2.1 (t8 (t32 p.2.1)).2.2.2.2.2.2.1 (Reply.mk (t8 (t32 p.2.1)).2.2.2.2.2.2.2.1 (t8 (t8 (t32 p.2.1))).1 (Lease.mk (t8 (t8 (t32 p.2.1))).2.1 (t8 (t8 (t32 p.2.1))).2.2.1 (t8 (t8 (t32 p.2.1))).2.2.2.1 (t8 (t8 (t32 p.2.1))).2.2.2.2.1 (t8 (t8 (t8 p.2))).2.2.2.2.2.2.2.1 (t32 p.2).1 (t32 p.2).2.1))) (Device.mk (t8 (t8 (t8 (t32 p.2.1)))).1 (t8 (t8 (t8 (t32 p.2.1)))).2.1 (Reply.mk (t8 (t8 (t8 (t32 p.2.1)))).2.2.1 (t8 (t8 (t8 (t32 p.2.1)))).2.2.2.1 (Lease.mk (t8 (t8 (t8 (t32 p.2.1)))).2.2.2.2.1 (t8 (t8 (t8 (t32 p.2.1)))).2.2.2.2.2.1 (t8 (t8 (t8 (t32 p.2.1)))).2.2.2.2.2.2.1 (t8 (t8 (t8 (t32 p.2.1)))).2.2.2.2.2.2.2.1 (t32 p.2).2.2.1 (t32 p.2).2.2.2.1 (t32 p.2).2.2.2.2.1))) (Device.mk (t32 (t32 p.2.1)).2.2.2.1 (t32 (t32 p.2.1)).2.2.2.2.1 (Reply.mk (t32 (t32 p.2.1)).2.2.2.2.2.1 (t32 (t32 p.2.1)).2.2.2.2.2.2.1 (Lease.mk (t32 (t32 p.2.1)).2.2.2.2.2.2.2.1 (t8 (t32 (t32 p.2.1))).1 (t8 (t32 (t32 p.2.1))).2.1 (t8 (t32 (t32 p.2.1))).2.2.1 (t32 p.2).2.2.2.2.2.1 (t32 p.2).2.2.2.2.2.2.1 (t32 p.2).2.2.2.2.2.2.2.1))) (Device.mk (t8 (t32 (t32 p.2.1))).2.2.2.2.2.2.1 (t8 (t32 (t32 p.2.1))).2.2.2.2.2.2.2.1 (Reply.mk (t8 (t8 (t32 (t32 p.2.1)))).1 (t8 (t8 (t32 (t32 p.2.1)))).2.1 (Lease.mk (t8 (t8 (t32 (t32 p.2.1)))).2.2.1 (t8 (t8 (t32 (t32 p.2.1)))).2.2.2.1 (t8 (t8 (t32 (t32 p.2.1)))).2.2.2.2.1 (t8 (t8 (t32 (t32 p.2.1)))).2.2.2.2.2.1 (t8 (t32 p.2)).1 (t8 (t32 p.2)).2.1 (t8 (t32 p.2)).2.2.1)))) (t8 (t32 p.2)).2.2.2.1 (t8 (t8 (t8 (t32 (t32 p.2.1))))).2.2.1),p.2.2.1)) (fun (x:tY35)=>((x.1,((),((),(x.2.1,())))),(((),((),((),((),((),((),((),((),((),((),((),((),((),((),((),((),((),((),((),((),((),((),((),(x.2.2.1.dev.a0.epoch,(x.2.2.1.dev.a0.req,(x.2.2.1.dev.a0.reply.err,(x.2.2.1.dev.a0.reply.n,(x.2.2.1.dev.a0.reply.lease.device,(x.2.2.1.dev.a0.reply.lease.epoch,(x.2.2.1.dev.a0.reply.lease.until_,(x.2.2.1.dev.a0.reply.lease.last,((),((),((),(x.2.2.1.dev.a1.epoch,(x.2.2.1.dev.a1.req,(x.2.2.1.dev.a1.reply.err,(x.2.2.1.dev.a1.reply.n,(x.2.2.1.dev.a1.reply.lease.device,(x.2.2.1.dev.a1.reply.lease.epoch,(x.2.2.1.dev.a1.reply.lease.until_,(x.2.2.1.dev.a1.reply.lease.last,((),((),((),(x.2.2.1.dev.a2.epoch,(x.2.2.1.dev.a2.req,(x.2.2.1.dev.a2.reply.err,(x.2.2.1.dev.a2.reply.n,(x.2.2.1.dev.a2.reply.lease.device,(x.2.2.1.dev.a2.reply.lease.epoch,(x.2.2.1.dev.a2.reply.lease.until_,(x.2.2.1.dev.a2.reply.lease.last,((),((),((),(x.2.2.1.dev.a3.epoch,(x.2.2.1.dev.a3.req,(x.2.2.1.dev.a3.reply.err,(x.2.2.1.dev.a3.reply.n,(x.2.2.1.dev.a3.reply.lease.device,(x.2.2.1.dev.a3.reply.lease.epoch,(x.2.2.1.dev.a3.reply.lease.until_,(x.2.2.1.dev.a3.reply.lease.last,((),((),((),(x.2.2.1.dev.a4.epoch,(x.2.2.1.dev.a4.req,(x.2.2.1.dev.a4.reply.err,(x.2.2.1.dev.a4.reply.n,(x.2.2.1.dev.a4.reply.lease.device,(x.2.2.1.dev.a4.reply.lease.epoch,(x.2.2.1.dev.a4.reply.lease.until_,(x.2.2.1.dev.a4.reply.lease.last,((),((),((),(x.2.2.1.dev.a5.epoch,(x.2.2.1.dev.a5.req,(x.2.2.1.dev.a5.reply.err,(x.2.2.1.dev.a5.reply.n,(x.2.2.1.dev.a5.reply.lease.device,(x.2.2.1.dev.a5.reply.lease.epoch,(x.2.2.1.dev.a5.reply.lease.until_,(x.2.2.1.dev.a5.reply.lease.last,((),((),((),((),(x.2.2.1.now,()))))))))))))))))))))))))))))))))))))))))))))))))))))))))))))))))))))))))))))))))))))))))))),(x.2.2.2,(x.2.2.1.book.counters,(x.2.2.1.book.free,(x.2.2.1.book.leases,(x.2.2.1.book.bound,(x.2.2.1.colls.a0.v,(x.2.2.1.colls.a0.regs,(x.2.2.1.colls.a0.elems,(x.2.2.1.colls.a0.gone,(x.2.2.1.colls.a0.sums,(x.2.2.1.colls.a0.binds,(x.2.2.1.colls.a1.v,(x.2.2.1.colls.a1.regs,(x.2.2.1.colls.a1.elems,(x.2.2.1.colls.a1.gone,(x.2.2.1.colls.a1.sums,(x.2.2.1.colls.a1.binds,(x.2.2.1.colls.a2.v,(x.2.2.1.colls.a2.regs,(x.2.2.1.colls.a2.elems,(x.2.2.1.colls.a2.gone,(x.2.2.1.colls.a2.sums,(x.2.2.1.colls.a2.binds,(x.2.2.1.log,(x.2.2.1.dev.a0.reply.lease.slices,(x.2.2.1.dev.a0.reply.lease.ids,(x.2.2.1.dev.a0.reply.lease.used,(x.2.2.1.dev.a1.reply.lease.slices,(x.2.2.1.dev.a1.reply.lease.ids,(x.2.2.1.dev.a1.reply.lease.used,(x.2.2.1.dev.a2.reply.lease.slices,(x.2.2.1.dev.a2.reply.lease.ids,(x.2.2.1.dev.a2.reply.lease.used,(x.2.2.1.dev.a3.reply.lease.slices,(x.2.2.1.dev.a3.reply.lease.ids,(x.2.2.1.dev.a3.reply.lease.used,(x.2.2.1.dev.a4.reply.lease.slices,(x.2.2.1.dev.a4.reply.lease.ids,(x.2.2.1.dev.a4.reply.lease.used,(x.2.2.1.dev.a5.reply.lease.slices,(x.2.2.1.dev.a5.reply.lease.ids,(x.2.2.1.dev.a5.reply.lease.used,(x.2.2.1.lost,())))))))))))))))))))))))))))))))))))))))))))))) (fun _=>rfl)
def co0_L23_3:kT (Desk×Desk):=kO (kS 88 (kC (kP 0 0) (kC (kP 1 0) kN)) (kC (Cod.var 0 50 (kC (kA 2) (kC (kA 3) (kC (kA 4) (kC (kA 5) (kC (kA 6) (kC (kA 7) (kC (kA 8) (kC (kA 9) (kC (kA 10) (kC (kA 11) (kC (kA 12) (kC (kA 13) (kC (kA 14) (kC (kA 15) (kC (kA 16) (kC (kA 17) (kC (kA 18) (kC (kA 19) (kC (kA 20) (kC (kA 21) (kC (kA 22) (kC (kA 23) (kC (kA 24) (kC kJ (kC kJ (kC kJ (kC kJ (kC kJ (kC kJ (kC kJ (kC kJ (kC (kA 25) (kC (kA 26) (kC (kA 27) (kC kJ (kC kJ (kC kJ (kC kJ (kC kJ (kC kJ (kC kJ (kC kJ (kC (kA 28) (kC (kA 29) (kC (kA 30) (kC kJ (kC kJ (kC kJ (kC kJ (kC kJ (kC kJ (kC kJ (kC kJ (kC (kA 31) (kC (kA 32) (kC (kA 33) (kC kJ (kC kJ (kC kJ (kC kJ (kC kJ (kC kJ (kC kJ (kC kJ (kC (kA 34) (kC (kA 35) (kC (kA 36) (kC kJ (kC kJ (kC kJ (kC kJ (kC kJ (kC kJ (kC kJ (kC kJ (kC (kA 37) (kC (kA 38) (kC (kA 39) (kC kJ (kC kJ (kC kJ (kC kJ (kC kJ (kC kJ (kC kJ (kC kJ (kC (kA 40) (kC (kA 41) (kC (kA 42) (kC (kA 43) (kC kJ kN)))))))))))))))))))))))))))))))))))))))))))))))))))))))))))))))))))))))))))))))))))))))))))) (kC (Cod.var 1 50 cc_Desk) (kC (kR 2 65 j_lCounter) (kC (kR 3 153 j_lRange) (kC (kR 4 43 j_lLease) (kC (kR 5 3 j_lInt) (kC (kR 6 66 j_lEntry) (kC (kR 7 142 j_lReg) (kC (kR 8 145 j_lElem) (kC (kR 9 59 j_lEntry) (kC (kR 10 129 j_lSum) (kC (kR 11 149 j_lBind) (kC (kR 12 66 j_lEntry) (kC (kR 13 142 j_lReg) (kC (kR 14 145 j_lElem) (kC (kR 15 59 j_lEntry) (kC (kR 16 129 j_lSum) (kC (kR 17 149 j_lBind) (kC (kR 18 66 j_lEntry) (kC (kR 19 142 j_lReg) (kC (kR 20 145 j_lElem) (kC (kR 21 59 j_lEntry) (kC (kR 22 129 j_lSum) (kC (kR 23 149 j_lBind) (kC (kR 24 61 j_lOp) (kC (kR 25 133 j_lSlice) (kC (kR 26 153 j_lRange) (kC (kR 27 3 j_lInt) (kC (kR 28 133 j_lSlice) (kC (kR 29 153 j_lRange) (kC (kR 30 3 j_lInt) (kC (kR 31 133 j_lSlice) (kC (kR 32 153 j_lRange) (kC (kR 33 3 j_lInt) (kC (kR 34 133 j_lSlice) (kC (kR 35 153 j_lRange) (kC (kR 36 3 j_lInt) (kC (kR 37 133 j_lSlice) (kC (kR 38 153 j_lRange) (kC (kR 39 3 j_lInt) (kC (kR 40 133 j_lSlice) (kC (kR 41 153 j_lRange) (kC (kR 42 3 j_lInt) (kC (kR 43 66 j_lEntry) kN))))))))))))))))))))))))))))))))))))))))))))) (fun p=>((Desk.mk (Book.mk p.2.2.2.1 p.2.2.2.2.1 p.2.2.2.2.2.1 p.2.2.2.2.2.2.1) (A3Coll.mk (Coll.mk p.2.2.2.2.2.2.2.1 p.2.2.2.2.2.2.2.2.1 (t8 p.2).1 (t8 p.2).2.1 (t8 p.2).2.2.1 (t8 p.2).2.2.2.1) (Coll.mk (t8 p.2).2.2.2.2.1 (t8 p.2).2.2.2.2.2.1 (t8 p.2).2.2.2.2.2.2.1 (t8 p.2).2.2.2.2.2.2.2.1 (t8 (t8 p.2)).1 (t8 (t8 p.2)).2.1) (Coll.mk (t8 (t8 p.2)).2.2.1 (t8 (t8 p.2)).2.2.2.1 (t8 (t8 p.2)).2.2.2.2.1 (t8 (t8 p.2)).2.2.2.2.2.1 (t8 (t8 p.2)).2.2.2.2.2.2.1 (t8 (t8 p.2)).2.2.2.2.2.2.2.1)) (t8 (t8 (t8 p.2))).1 (A6Device.mk (Device.mk (t8 (t8 p.2.1)).2.2.2.2.2.2.2.1 (t8 (t8 (t8 p.2.1))).1 (Reply.mk (t8 (t8 (t8 p.2.1))).2.1 (t8 (t8 (t8 p.2.1))).2.2.1 (Lease.mk (t8 (t8 (t8 p.2.1))).2.2.2.1 (t8 (t8 (t8 p.2.1))).2.2.2.2.1 (t8 (t8 (t8 p.2.1))).2.2.2.2.2.1 (t8 (t8 (t8 p.2.1))).2.2.2.2.2.2.1 (t8 (t8 (t8 p.2))).2.1 (t8 (t8 (t8 p.2))).2.2.1 (t8 (t8 (t8 p.2))).2.2.2.1))) (Device.mk (t32 p.2.1).2.2.1 (t32 p.2.1).2.2.2.1 (Reply.mk (t32 p.2.1).2.2.2.2.1 (t32 p.2.1).2.2.2.2.2.1 (Lease.mk (t32 p.2.1).2.2.2.2.2.2.1 (t32 p.2.1).2.2.2.2.2.2.2.1 (t8 (t32 p.2.1)).1 (t8 (t32 p.2.1)).2.1 (t8 (t8 (t8 p.2))).2.2.2.2.1 (t8 (t8 (t8 p.2))).2.2.2.2.2.1 (t8 (t8 (t8 p.2))).2.2.2.2.2.2.1))) (Device.mk (t8 (t32 p.2.1)).2.2.2.2.2.1 (t8 (t32 p.2.1)).2.2.2.2.2.2.1 (Reply.mk (t8 (t32 p.2.1)).2.2.2.2.2.2.2.1 (t8 (t8 (t32 p.2.1))).1 (Lease.mk (t8 (t8 (t32 p.2.1))).2.1 (t8 (t8 (t32 p.2.1))).2.2.1 (t8 (t8 (t32 p.2.1))).2.2.2.1 (t8 (t8 (t32 p.2.1))).2.2.2.2.1 (t8 (t8 (t8 p.2))).2.2.2.2.2.2.2.1 (t32 p.2).1 (t32 p.2).2.1))) (Device.mk (t8 (t8 (t8 (t32 p.2.1)))).1 (t8 (t8 (t8 (t32 p.2.1)))).2.1 (Reply.mk (t8 (t8 (t8 (t32 p.2.1)))).2.2.1 (t8 (t8 (t8 (t32 p.2.1)))).2.2.2.1 (Lease.mk (t8 (t8 (t8 (t32 p.2.1)))).2.2.2.2.1 (t8 (t8 (t8 (t32 p.2.1)))).2.2.2.2.2.1 (t8 (t8 (t8 (t32 p.2.1)))).2.2.2.2.2.2.1 (t8 (t8 (t8 (t32 p.2.1)))).2.2.2.2.2.2.2.1 (t32 p.2).2.2.1 (t32 p.2).2.2.2.1 (t32 p.2).2.2.2.2.1))) (Device.mk (t32 (t32 p.2.1)).2.2.2.1 (t32 (t32 p.2.1)).2.2.2.2.1 (Reply.mk (t32 (t32 p.2.1)).2.2.2.2.2.1 (t32 (t32 p.2.1)).2.2.2.2.2.2.1 (Lease.mk (t32 (t32 p.2.1)).2.2.2.2.2.2.2.1 (t8 (t32 (t32 p.2.1))).1 (t8 (t32 (t32 p.2.1))).2.1 (t8 (t32 (t32 p.2.1))).2.2.1 (t32 p.2).2.2.2.2.2.1 (t32 p.2).2.2.2.2.2.2.1 (t32 p.2).2.2.2.2.2.2.2.1))) (Device.mk (t8 (t32 (t32 p.2.1))).2.2.2.2.2.2.1 (t8 (t32 (t32 p.2.1))).2.2.2.2.2.2.2.1 (Reply.mk (t8 (t8 (t32 (t32 p.2.1)))).1 (t8 (t8 (t32 (t32 p.2.1)))).2.1 (Lease.mk (t8 (t8 (t32 (t32 p.2.1)))).2.2.1 (t8 (t8 (t32 (t32 p.2.1)))).2.2.2.1 (t8 (t8 (t32 (t32 p.2.1)))).2.2.2.2.1 (t8 (t8 (t32 (t32 p.2.1)))).2.2.2.2.2.1 (t8 (t32 p.2)).1 (t8 (t32 p.2)).2.1 (t8 (t32 p.2)).2.2.1)))) (t8 (t32 p.2)).2.2.2.1 (t8 (t8 (t8 (t32 (t32 p.2.1))))).2.2.1),p.2.2.1)) (fun (x:Desk×Desk)=>(((),((),())),(((),((),((),((),((),((),((),((),((),((),((),((),((),((),((),((),((),((),((),((),((),((),((),(x.1.dev.a0.epoch,(x.1.dev.a0.req,(x.1.dev.a0.reply.err,(x.1.dev.a0.reply.n,(x.1.dev.a0.reply.lease.device,(x.1.dev.a0.reply.lease.epoch,(x.1.dev.a0.reply.lease.until_,(x.1.dev.a0.reply.lease.last,((),((),((),(x.1.dev.a1.epoch,(x.1.dev.a1.req,(x.1.dev.a1.reply.err,(x.1.dev.a1.reply.n,(x.1.dev.a1.reply.lease.device,(x.1.dev.a1.reply.lease.epoch,(x.1.dev.a1.reply.lease.until_,(x.1.dev.a1.reply.lease.last,((),((),((),(x.1.dev.a2.epoch,(x.1.dev.a2.req,(x.1.dev.a2.reply.err,(x.1.dev.a2.reply.n,(x.1.dev.a2.reply.lease.device,(x.1.dev.a2.reply.lease.epoch,(x.1.dev.a2.reply.lease.until_,(x.1.dev.a2.reply.lease.last,((),((),((),(x.1.dev.a3.epoch,(x.1.dev.a3.req,(x.1.dev.a3.reply.err,(x.1.dev.a3.reply.n,(x.1.dev.a3.reply.lease.device,(x.1.dev.a3.reply.lease.epoch,(x.1.dev.a3.reply.lease.until_,(x.1.dev.a3.reply.lease.last,((),((),((),(x.1.dev.a4.epoch,(x.1.dev.a4.req,(x.1.dev.a4.reply.err,(x.1.dev.a4.reply.n,(x.1.dev.a4.reply.lease.device,(x.1.dev.a4.reply.lease.epoch,(x.1.dev.a4.reply.lease.until_,(x.1.dev.a4.reply.lease.last,((),((),((),(x.1.dev.a5.epoch,(x.1.dev.a5.req,(x.1.dev.a5.reply.err,(x.1.dev.a5.reply.n,(x.1.dev.a5.reply.lease.device,(x.1.dev.a5.reply.lease.epoch,(x.1.dev.a5.reply.lease.until_,(x.1.dev.a5.reply.lease.last,((),((),((),((),(x.1.now,()))))))))))))))))))))))))))))))))))))))))))))))))))))))))))))))))))))))))))))))))))))))))))),(x.2,(x.1.book.counters,(x.1.book.free,(x.1.book.leases,(x.1.book.bound,(x.1.colls.a0.v,(x.1.colls.a0.regs,(x.1.colls.a0.elems,(x.1.colls.a0.gone,(x.1.colls.a0.sums,(x.1.colls.a0.binds,(x.1.colls.a1.v,(x.1.colls.a1.regs,(x.1.colls.a1.elems,(x.1.colls.a1.gone,(x.1.colls.a1.sums,(x.1.colls.a1.binds,(x.1.colls.a2.v,(x.1.colls.a2.regs,(x.1.colls.a2.elems,(x.1.colls.a2.gone,(x.1.colls.a2.sums,(x.1.colls.a2.binds,(x.1.log,(x.1.dev.a0.reply.lease.slices,(x.1.dev.a0.reply.lease.ids,(x.1.dev.a0.reply.lease.used,(x.1.dev.a1.reply.lease.slices,(x.1.dev.a1.reply.lease.ids,(x.1.dev.a1.reply.lease.used,(x.1.dev.a2.reply.lease.slices,(x.1.dev.a2.reply.lease.ids,(x.1.dev.a2.reply.lease.used,(x.1.dev.a3.reply.lease.slices,(x.1.dev.a3.reply.lease.ids,(x.1.dev.a3.reply.lease.used,(x.1.dev.a4.reply.lease.slices,(x.1.dev.a4.reply.lease.ids,(x.1.dev.a4.reply.lease.used,(x.1.dev.a5.reply.lease.slices,(x.1.dev.a5.reply.lease.ids,(x.1.dev.a5.reply.lease.used,(x.1.lost,())))))))))))))))))))))))))))))))))))))))))))))) (fun _=>rfl)
def sl_L23_3:SFn TL:=SFn.one ch_L23_3.dec (fun p=>L23_3 p.1 p.2.1 p.2.2.1 p.2.2.2) (.exit 0) co0_L23_3.enc
def cs_lL23_3:cL:=[(28,df_l13ActCmd),(29,df_ref13Do)]
def v_L23_3:Env:=envOf tab sl sh [] [(28,.keep),(29,.keep)]
theorem v_L23_3_ok:EnvOK PR (mkD cs_lL23_3 sZ) v_L23_3:=envOK_of base aN (aC (oD ok_l13ActCmd rfl) (aC (oD ok_ref13Do rfl) aN))
theorem run_L23_3 (x:tY35):Out.run (mkO cs_lL23_3 sZ) (evRound v_L23_3 12 20 fd23.an q_L23_3 (loopIn (loopsOf fd23.body) 3) (ch_L23_3.enc x)) (back ch_L23_3 co0_L23_3 fun e=>exE e (.exit 0))=stp_L23_3 x:=by kernel_rfl
theorem ok_L23_3:LoopOK PR (oneS sl_L23_3) nt23 q_L23_3 (loopIn (loopsOf fd23.body) 3) :=
  loop_one v_L23_3_ok (loops:=12) (k:=20) (an:=fd23.an) (by kernel_rfl) (FnSt.subl rfl st23.keys (aC (.inl (by kernel_rfl)) aN)) ch_L23_3 co0_L23_3 (.exit 0) rfl stp_L23_3 _ run_L23_3 (fun x y h=>⟨_,h⟩) (fun _=>below_iff.1 rfl)
def l13State (l1:List Act):Option Desk :=
 ob (l13Begin) fun r0 =>
 ob (L23_3 l1 0 (Desk.mk (Book.mk [] [] [] []) (A3Coll.mk (Coll.mk [] [] [] [] [] []) (Coll.mk [] [] [] [] [] []) (Coll.mk [] [] [] [] [] [])) [] (A6Device.mk (Device.mk 0 0 (Reply.mk 0 0 (Lease.mk 0 0 0 0 [] [] []))) (Device.mk 0 0 (Reply.mk 0 0 (Lease.mk 0 0 0 0 [] [] []))) (Device.mk 0 0 (Reply.mk 0 0 (Lease.mk 0 0 0 0 [] [] []))) (Device.mk 0 0 (Reply.mk 0 0 (Lease.mk 0 0 0 0 [] [] []))) (Device.mk 0 0 (Reply.mk 0 0 (Lease.mk 0 0 0 0 [] [] []))) (Device.mk 0 0 (Reply.mk 0 0 (Lease.mk 0 0 0 0 [] [] [])))) [] 0) r0) fun y1 =>
 some y1.2
def un_l13State (p:(List Act)):Option Desk:=l13State p
def df_l13State:DFn TL:=DFn.of (DA.one (DT.one di_lAct)) un_l13State (DA.one (DT.agg dc_Desk))
theorem run_l13State:DRun [(17,df_l13Begin)] [(123003,sl_L23_3)] (envOf tab sl sh [(23,fd23)] [(17,.keep)]) 23 (DA.one (DT.one di_lAct)) un_l13State (DA.one (DT.agg dc_Desk)):=fun _=>by kernel_rfl
theorem ok_l13State:DOK PR 23 .keep df_l13State:=dok run_l13State (envOK_of base (aC (st23.okl rfl (aC (lC ok_L23_3 rfl) aN)) aN) (aC (oD ok_l13Begin rfl) aN)) (.inl rfl) st23.enters
abbrev tY36:=(List Bool)×Int×(List Op)×Int×Desk
def step_L25_7 (l1:List Bool)(i1:Int)(l2:List Op)(i2:Int)(d1:Desk):Option ((tY36)⊕((List Op)×Int×Desk)) :=
 cond (cond (decide (i2 < (d1.log.length:Int))) (decide ((l2.length:Int) < i1)) false)
 (cond (decide (0≤i2))
 (ob (d1.log[i2.toNat]?) fun e0 =>
 cond (decide (e0.coll < (l1.length:Int)))
 (cond (decide (0≤e0.coll))
 (ob (l1[e0.coll.toNat]?) fun e1 =>
 cond (e1)
 (cond (fits (([]++e0.dots).length))
 (cond (fits ((l2++[(Op.mk e0.dot e0.coll e0.ver e0.kind e0.key e0.text e0.n e0.time ([]++e0.dots))]).length))
 (some (.inl (l1,i1,(l2++[(Op.mk e0.dot e0.coll e0.ver e0.kind e0.key e0.text e0.n e0.time ([]++e0.dots))]),(w64 (i2+1)),d1)))
 none)
 none)
 (some (.inl (l1,i1,l2,(w64 (i2+1)),d1))))
 none)
 (some (.inl (l1,i1,l2,(w64 (i2+1)),d1))))
 none)
 (some (.inr (l2,i2,d1)))
def stp_L25_7 (p:tY36):Option ((tY36)⊕((List Op)×Int×Desk)):=step_L25_7 p.1 p.2.1 p.2.2.1 p.2.2.2.1 p.2.2.2.2
def L25_7 (l1:List Bool)(i1:Int)(l2:List Op)(i2:Int)(d1:Desk):Option ((List Op)×Int×Desk):=iterO stp_L25_7 (1099511627776) (l1,i1,l2,i2,d1)
def ch_L25_7:kT (tY36):=kO (kS 2 (kC (kF j_lBool) (kC kI (kC (kP 0 0) (kC (Cod.xs (Cod.sc (kA 1))) (kC kI kN))))) (kC (Cod.var 0 50 cc_Desk) (kC (kR 1 61 j_lOp) kN))) (fun p=>(p.1.1,p.1.2.1,p.2.2.1,p.1.2.2.2.2.1,p.2.1)) (fun (x:tY36)=>((x.1,(x.2.1,((),((),(x.2.2.2.1,()))))),(x.2.2.2.2,(x.2.2.1,())))) (fun _=>rfl)
def co0_L25_7:kT ((List Op)×Int×Desk):=kO (kS 4 (kC (Cod.xs (Cod.sc (kA 3))) (kC kI kN)) (kC (Cod.var 0 50 cc_Desk) (kC (kR 3 61 j_lOp) kN))) (fun p=>(p.2.2.1,p.1.2.1,p.2.1)) (fun (x:(List Op)×Int×Desk)=>(((),(x.2.1,())),(x.2.2,(x.1,())))) (fun _=>rfl)
def sl_L25_7:SFn TL:=SFn.one ch_L25_7.dec (fun p=>L25_7 p.1 p.2.1 p.2.2.1 p.2.2.2.1 p.2.2.2.2) (.exit 0) co0_L25_7.enc
def v_L25_7:Env:=envOf tab sl sh [] []
theorem v_L25_7_ok:EnvOK PR (mkD cZ sZ) v_L25_7:=envOK_of base aN aN
theorem run_L25_7 (x:tY36):Out.run (mkO cZ sZ) (evRound v_L25_7 12 20 fd25.an q_L25_7 (loopIn (loopsOf fd25.body) 7) (ch_L25_7.enc x)) (back ch_L25_7 co0_L25_7 fun e=>exE e (.exit 0))=stp_L25_7 x:=by kernel_rfl
theorem ok_L25_7:LoopOK PR (oneS sl_L25_7) nt25 q_L25_7 (loopIn (loopsOf fd25.body) 7) :=
  loop_one v_L25_7_ok (loops:=12) (k:=20) (an:=fd25.an) (by kernel_rfl) (FnSt.subl rfl st25.keys (aC (.inl (by kernel_rfl)) aN)) ch_L25_7 co0_L25_7 (.exit 0) rfl stp_L25_7 _ run_L25_7 (fun x y h=>⟨_,h⟩) (fun _=>below_iff.1 rfl)
def ref13Delta (d1:Desk)(i1:Int)(l1:List Bool)(i2:Int):Option ((List Op)×Int) :=
 cond (decide (i2 < 1))
 (some ([],(min2 (max2 i1 0) (d1.log.length:Int))))
 (cond (decide ((max2 i1 0)≥(d1.log.length:Int)))
 (some ([],(d1.log.length:Int)))
 (ob (L25_7 l1 i2 [] (max2 i1 0) d1) fun y0 =>
 some (y0.1,y0.2.1)))
def un_ref13Delta (p:Desk×Int×(List Bool)×Int):Option ((List Op)×Int):=ref13Delta p.1 p.2.1 p.2.2.1 p.2.2.2
def df_ref13Delta:DFn TL:=DFn.of (DA.cons (DT.agg dc_Desk) (DA.cons dI (DA.cons (DT.one di_lBool) (DA.one dI)))) un_ref13Delta (DA.cons (DT.one di_lOp) (DA.one dI))
theorem run_ref13Delta:DRun [] [(125007,sl_L25_7)] (envOf tab sl sh [(25,fd25)] []) 25 (DA.cons (DT.agg dc_Desk) (DA.cons dI (DA.cons (DT.one di_lBool) (DA.one dI)))) un_ref13Delta (DA.cons (DT.one di_lOp) (DA.one dI)):=fun _=>by kernel_rfl
theorem ok_ref13Delta:DOK PR 25 .keep df_ref13Delta:=dok run_ref13Delta (envOK_of base (aC (st25.okl rfl (aC (lC ok_L25_7 rfl) aN)) aN) aN) (.inl rfl) st25.enters
abbrev tY37:=(List Entry)×(List Entry)×Bool×Int
def step_L52_4 (l1:List Entry)(l2:List Entry)(b1:Bool)(i1:Int):Option ((tY37)⊕(((Bool)⊕(Bool)))) :=
 cond (decide (i1 < (l1.length:Int)))
 (cond (decide (0≤i1))
 (ob (l1[i1.toNat]?) fun e0 =>
 cond (decide (0≤i1))
 (ob (l2[i1.toNat]?) fun e1 =>
 cond (!(cond (e0.device == e1.device) (cond (e0.epoch == e1.epoch) (cond (e0.seq == e1.seq) true false) false) false))
 (some (.inr (.inr false)))
 (some (.inl (l1,l2,b1,(w64 (i1+1))))))
 none)
 none)
 (some (.inr (.inl b1)))
def stp_L52_4 (p:tY37):Option ((tY37)⊕(((Bool)⊕(Bool)))):=step_L52_4 p.1 p.2.1 p.2.2.1 p.2.2.2
def L52_4 (l1:List Entry)(l2:List Entry)(b1:Bool)(i1:Int):Option (((Bool)⊕(Bool))):=iterO stp_L52_4 (((l1.length:Int) - i1).toNat+2) (l1,l2,b1,i1)
def ch_L52_4:kT (tY37):=kO (kS 0 (kC (kF j_lEntry) (kC (kF j_lEntry) (kC kB (kC kI kN)))) kN) (fun ((z0,z1,z2,z3,_),_)=>(z0,z1,z2,z3)) (fun (x:tY37)=>((x.1,(x.2.1,(x.2.2.1,(x.2.2.2,())))),())) (fun _=>rfl)
def sl_L52_4:SFn TL:=SFn.two ch_L52_4.dec (fun p=>L52_4 p.1 p.2.1 p.2.2.1 p.2.2.2) (.exit 0) .ret co0_L73_4.enc co0_L73_4.enc
def v_L52_4:Env:=envOf tab sl sh [] []
theorem v_L52_4_ok:EnvOK PR (mkD cZ sZ) v_L52_4:=envOK_of base aN aN
theorem run_L52_4 (x:tY37):Out.run (mkO cZ sZ) (evRound v_L52_4 12 20 fd52.an q_L52_4 (loopIn (loopsOf fd52.body) 4) (ch_L52_4.enc x)) (back2 ch_L52_4 co0_L73_4 co0_L73_4 (.exit 0) .ret)=stp_L52_4 x:=by kernel_rfl
theorem ok_L52_4:LoopOK PR (oneS sl_L52_4) nt52 q_L52_4 (loopIn (loopsOf fd52.body) 4) :=
  loop_two v_L52_4_ok (loops:=12) (k:=20) (an:=fd52.an) (by kernel_rfl) (FnSt.subl rfl st52.keys (aC (.inl (by kernel_rfl)) aN)) ch_L52_4 co0_L73_4 co0_L73_4 (.exit 0) .ret rfl rfl stp_L52_4 _ run_L52_4 (fun x y h=>⟨_,h⟩) (fun _=>below_iff.1 rfl)
def ref9Dots (l1:List Entry)(l2:List Entry):Option Bool :=
 cond ((l1.length:Int) != (l2.length:Int))
 (some false)
 (ob (L52_4 l1 l2 false 0) fun y0 =>
 two y0 (fun _ =>
 some true) (fun b2 =>
 some b2))
def un_ref9Dots (p:(List Entry)×(List Entry)):Option Bool:=ref9Dots p.1 p.2
def df_ref9Dots:DFn TL:=DFn.of (DA.cons (DT.one di_lEntry) (DA.one (DT.one di_lEntry))) un_ref9Dots (DA.one dB)
theorem run_ref9Dots:DRun [] [(152004,sl_L52_4)] (envOf tab sl sh [(52,fd52)] []) 52 (DA.cons (DT.one di_lEntry) (DA.one (DT.one di_lEntry))) un_ref9Dots (DA.one dB):=fun _=>by kernel_rfl
theorem ok_ref9Dots:DOK PR 52 .pure df_ref9Dots:=dok run_ref9Dots (envOK_of base (aC (st52.okl rfl (aC (lC ok_L52_4 rfl) aN)) aN) aN) (.inr rfl) st52.enters
def ref9Same (o1:Op)(o2:Op):Option Bool :=
 cond (cond (o1.dot.device == o2.dot.device) (cond (o1.dot.epoch == o2.dot.epoch) (cond (o1.dot.seq == o2.dot.seq) true false) false) false)
 (cond (o1.coll == o2.coll)
 (cond (o1.ver == o2.ver)
 (cond (o1.kind == o2.kind)
 (cond (sEq o1.key o2.key)
 (cond (sEq o1.text o2.text)
 (cond (o1.n == o2.n)
 (cond (o1.time == o2.time)
 (ob (ref9Dots o1.dots o2.dots) fun r0 =>
 some r0)
 (some false))
 (some false))
 (some false))
 (some false))
 (some false))
 (some false))
 (some false))
 (some false)
def un_ref9Same (p:Op×Op):Option Bool:=ref9Same p.1 p.2
def df_ref9Same:DFn TL:=DFn.of (DA.cons (DT.agg dc_Op) (DA.one (DT.agg dc_Op))) un_ref9Same (DA.one dB)
theorem run_ref9Same:DRun [(52,df_ref9Dots)] [] (envOf tab sl sh [(26,fd26)] [(52,.pure)]) 26 (DA.cons (DT.agg dc_Op) (DA.one (DT.agg dc_Op))) un_ref9Same (DA.one dB):=fun _=>by kernel_rfl
theorem ok_ref9Same:DOK PR 26 .pure df_ref9Same:=dok run_ref9Same (envOK_of base (aC (st26.okl rfl aN) aN) (aC (oD ok_ref9Dots rfl) aN)) (.inr rfl) st26.enters
abbrev tY38:=(List Bool)×Int×Bool×(List Op)×(List Op)×Int×Desk
def step_L5_11 (l1:List Bool)(i1:Int)(b1:Bool)(l2:List Op)(l3:List Op)(i2:Int)(d1:Desk):Option ((tY38)⊕((((List Bool)×Int×Bool×Desk)⊕((List Bool)×Int×Bool×Desk)))) :=
 cond (decide (i2 < (l2.length:Int)))
 (cond (decide (0≤i2))
 (ob (l2[i2.toNat]?) fun e0 =>
 cond (decide (0≤i2))
 (ob (l3[i2.toNat]?) fun e1 =>
 ob (ref9Same e0 e1) fun r2 =>
 cond (!r2)
 (some (.inr (.inr (l1,i1,false,d1))))
 (some (.inl (l1,i1,b1,l2,l3,(w64 (i2+1)),d1))))
 none)
 none)
 (some (.inr (.inl (l1,i1,b1,d1))))
def stp_L5_11 (p:tY38):Option ((tY38)⊕((((List Bool)×Int×Bool×Desk)⊕((List Bool)×Int×Bool×Desk)))):=step_L5_11 p.1 p.2.1 p.2.2.1 p.2.2.2.1 p.2.2.2.2.1 p.2.2.2.2.2.1 p.2.2.2.2.2.2
def L5_11 (l1:List Bool)(i1:Int)(b1:Bool)(l2:List Op)(l3:List Op)(i2:Int)(d1:Desk):Option ((((List Bool)×Int×Bool×Desk)⊕((List Bool)×Int×Bool×Desk))):=iterO stp_L5_11 (((l2.length:Int) - i2).toNat+2) (l1,i1,b1,l2,l3,i2,d1)
def ch_L5_11:kT (tY38):=kO (kS 1 (kC (kF j_lBool) (kC kI (kC kB (kC (kP 0 0) (kC (kF j_lOp) (kC (kF j_lOp) (kC kI kN))))))) (kC (Cod.var 0 50 cc_Desk) kN)) (fun ((z0,z1,z2,_,z3,z4,z5,_),z6,_)=>(z0,z1,z2,z3,z4,z5,z6)) (fun (x:tY38)=>((x.1,(x.2.1,(x.2.2.1,((),(x.2.2.2.1,(x.2.2.2.2.1,(x.2.2.2.2.2.1,()))))))),(x.2.2.2.2.2.2,()))) (fun _=>rfl)
def co0_L5_11:kT ((List Bool)×Int×Bool×Desk):=kO (kS 2 (kC (kF j_lBool) (kC kI (kC kB (kC (kP 0 0) kN)))) (kC (Cod.var 0 50 cc_Desk) kN)) (fun p=>(p.1.1,p.1.2.1,p.1.2.2.1,p.2.1)) (fun (x:(List Bool)×Int×Bool×Desk)=>((x.1,(x.2.1,(x.2.2.1,((),())))),(x.2.2.2,()))) (fun _=>rfl)
def sl_L5_11:SFn TL:=SFn.two ch_L5_11.dec (fun p=>L5_11 p.1 p.2.1 p.2.2.1 p.2.2.2.1 p.2.2.2.2.1 p.2.2.2.2.2.1 p.2.2.2.2.2.2) (.exit 0) .ret co0_L5_11.enc co0_L5_11.enc
def cs_lL5_11:cL:=[(26,df_ref9Same)]
def v_L5_11:Env:=envOf tab sl sh [] [(26,.pure)]
theorem v_L5_11_ok:EnvOK PR (mkD cs_lL5_11 sZ) v_L5_11:=envOK_of base aN (aC (oD ok_ref9Same rfl) aN)
theorem run_L5_11 (x:tY38):Out.run (mkO cs_lL5_11 sZ) (evRound v_L5_11 12 20 fd5.an q_L5_11 (loopIn (loopsOf fd5.body) 11) (ch_L5_11.enc x)) (back2 ch_L5_11 co0_L5_11 co0_L5_11 (.exit 0) .ret)=stp_L5_11 x:=by kernel_rfl
theorem ok_L5_11:LoopOK PR (oneS sl_L5_11) nt5 q_L5_11 (loopIn (loopsOf fd5.body) 11) :=
  loop_two v_L5_11_ok (loops:=12) (k:=20) (an:=fd5.an) (by kernel_rfl) (FnSt.subl rfl st5.keys (aC (.inl (by kernel_rfl)) (aC (.inl (by kernel_rfl)) (aC (.inl (by kernel_rfl)) (aC (.inl (by kernel_rfl)) (aC (.inl (by kernel_rfl)) aN)))))) ch_L5_11 co0_L5_11 co0_L5_11 (.exit 0) .ret rfl rfl stp_L5_11 _ run_L5_11 (fun x y h=>⟨_,h⟩) (fun _=>below_iff.1 rfl)
abbrev tY39:=(List Bool)×Int×Bool×Int×Int×(List Op)×Int×Int×Desk
def step_L5_26 (l1:List Bool)(i1:Int)(b1:Bool)(i2:Int)(i3:Int)(l2:List Op)(i4:Int)(i5:Int)(d1:Desk):Option ((tY39)⊕(tY39)) :=
 cond (decide (i2 < (d1.log.length:Int)))
 (cond (decide (0≤i2))
 (ob (d1.log[i2.toNat]?) fun e0 =>
 cond (decide (e0.coll < (l1.length:Int)))
 (cond (decide (0≤i2))
 (ob (d1.log[i2.toNat]?) fun e1 =>
 cond (decide (0≤e1.coll))
 (ob (l1[e1.coll.toNat]?) fun e2 =>
 cond (!e2)
 (some (.inl (l1,i1,b1,(w64 (i2+1)),i3,l2,i4,i5,d1)))
 (some (.inr (l1,i1,b1,i2,i3,l2,i4,i5,d1))))
 none)
 none)
 (some (.inl (l1,i1,b1,(w64 (i2+1)),i3,l2,i4,i5,d1))))
 none)
 (some (.inr (l1,i1,b1,i2,i3,l2,i4,i5,d1)))
def stp_L5_26 (p:tY39):Option ((tY39)⊕(tY39)):=step_L5_26 p.1 p.2.1 p.2.2.1 p.2.2.2.1 p.2.2.2.2.1 p.2.2.2.2.2.1 p.2.2.2.2.2.2.1 p.2.2.2.2.2.2.2.1 p.2.2.2.2.2.2.2.2
def L5_26 (l1:List Bool)(i1:Int)(b1:Bool)(i2:Int)(i3:Int)(l2:List Op)(i4:Int)(i5:Int)(d1:Desk):Option tY39:=iterO stp_L5_26 (1099511627776) (l1,i1,b1,i2,i3,l2,i4,i5,d1)
def ch_L5_26:kT (tY39):=kO (kS 1 (kC (kF j_lBool) (kC kI (kC kB (kC (kP 0 0) (kC kI (kC kI (kC (kF j_lOp) (kC kI (kC kI kN))))))))) (kC (Cod.var 0 50 cc_Desk) kN)) (fun p=>(p.1.1,p.1.2.1,p.1.2.2.1,p.1.2.2.2.2.1,p.1.2.2.2.2.2.1,p.1.2.2.2.2.2.2.1,p.1.2.2.2.2.2.2.2.1,(t8 p.1).1,p.2.1)) (fun (x:tY39)=>((x.1,(x.2.1,(x.2.2.1,((),(x.2.2.2.1,(x.2.2.2.2.1,(x.2.2.2.2.2.1,(x.2.2.2.2.2.2.1,(x.2.2.2.2.2.2.2.1,()))))))))),(x.2.2.2.2.2.2.2.2,()))) (fun _=>rfl)
def co0_L5_26:kT (tY39):=kO (kS 2 (kC (kF j_lBool) (kC kI (kC kB (kC (kP 0 0) (kC kI (kC kI (kC (kF j_lOp) (kC kI (kC kI kN))))))))) (kC (Cod.var 0 50 cc_Desk) kN)) (fun p=>(p.1.1,p.1.2.1,p.1.2.2.1,p.1.2.2.2.2.1,p.1.2.2.2.2.2.1,p.1.2.2.2.2.2.2.1,p.1.2.2.2.2.2.2.2.1,(t8 p.1).1,p.2.1)) (fun (x:tY39)=>((x.1,(x.2.1,(x.2.2.1,((),(x.2.2.2.1,(x.2.2.2.2.1,(x.2.2.2.2.2.1,(x.2.2.2.2.2.2.1,(x.2.2.2.2.2.2.2.1,()))))))))),(x.2.2.2.2.2.2.2.2,()))) (fun _=>rfl)
def sl_L5_26:SFn TL:=SFn.one ch_L5_26.dec (fun p=>L5_26 p.1 p.2.1 p.2.2.1 p.2.2.2.1 p.2.2.2.2.1 p.2.2.2.2.2.1 p.2.2.2.2.2.2.1 p.2.2.2.2.2.2.2.1 p.2.2.2.2.2.2.2.2) (.exit 6) co0_L5_26.enc
def v_L5_26:Env:=envOf tab sl sh [] []
theorem v_L5_26_ok:EnvOK PR (mkD cZ sZ) v_L5_26:=envOK_of base aN aN
theorem run_L5_26 (x:tY39):Out.run (mkO cZ sZ) (evRound v_L5_26 12 20 fd5.an q_L5_26 (loopIn (loopsOf fd5.body) 26) (ch_L5_26.enc x)) (back ch_L5_26 co0_L5_26 fun e=>exE e (.exit 6))=stp_L5_26 x:=by kernel_rfl
theorem ok_L5_26:LoopOK PR (oneS sl_L5_26) nt5 q_L5_26 (loopIn (loopsOf fd5.body) 26) :=
  loop_one v_L5_26_ok (loops:=12) (k:=20) (an:=fd5.an) (by kernel_rfl) (FnSt.subl rfl st5.keys (aC (.inl (by kernel_rfl)) (aC (.inl (by kernel_rfl)) (aC (.inl (by kernel_rfl)) (aC (.inl (by kernel_rfl)) (aC (.inl (by kernel_rfl)) aN)))))) ch_L5_26 co0_L5_26 (.exit 6) rfl stp_L5_26 _ run_L5_26 (fun x y h=>⟨_,h⟩) (fun _=>below_iff.1 rfl)
abbrev tY40:=(List Bool)×Int×Bool×Int×Int×Int×Desk
def step_L5_24 (l1:List Bool)(i1:Int)(b1:Bool)(i2:Int)(i3:Int)(l2:List Op)(i4:Int)(i5:Int)(d1:Desk):Option ((tY39)⊕(((tY40)⊕(tY40)))) :=
 cond (decide (i5 < (l2.length:Int)))
 (ob (L5_26 l1 i1 b1 i2 i3 l2 i4 i5 d1) fun y0 =>
 cond (decide (y0.2.2.2.1≥(y0.2.2.2.2.2.2.2.2.log.length:Int)))
 (some (.inr (.inr (y0.1,y0.2.1,false,y0.2.2.2.1,y0.2.2.2.2.1,y0.2.2.2.2.2.2.1,y0.2.2.2.2.2.2.2.2))))
 (cond (decide (0≤y0.2.2.2.1))
 (ob (y0.2.2.2.2.2.2.2.2.log[y0.2.2.2.1.toNat]?) fun e1 =>
 cond (decide (0≤y0.2.2.2.2.2.2.2.1))
 (ob (y0.2.2.2.2.2.1[y0.2.2.2.2.2.2.2.1.toNat]?) fun e2 =>
 ob (ref9Same e1 e2) fun r3 =>
 cond (!r3)
 (some (.inr (.inr (y0.1,y0.2.1,false,y0.2.2.2.1,y0.2.2.2.2.1,y0.2.2.2.2.2.2.1,y0.2.2.2.2.2.2.2.2))))
 (some (.inl (y0.1,y0.2.1,y0.2.2.1,(w64 (y0.2.2.2.1+1)),y0.2.2.2.2.1,y0.2.2.2.2.2.1,y0.2.2.2.2.2.2.1,(w64 (y0.2.2.2.2.2.2.2.1+1)),y0.2.2.2.2.2.2.2.2))))
 none)
 none))
 (some (.inr (.inl (l1,i1,b1,i2,i3,i4,d1))))
def stp_L5_24 (p:tY39):Option ((tY39)⊕(((tY40)⊕(tY40)))):=step_L5_24 p.1 p.2.1 p.2.2.1 p.2.2.2.1 p.2.2.2.2.1 p.2.2.2.2.2.1 p.2.2.2.2.2.2.1 p.2.2.2.2.2.2.2.1 p.2.2.2.2.2.2.2.2
def L5_24 (l1:List Bool)(i1:Int)(b1:Bool)(i2:Int)(i3:Int)(l2:List Op)(i4:Int)(i5:Int)(d1:Desk):Option (((tY40)⊕(tY40))):=iterO stp_L5_24 (((l2.length:Int) - i5).toNat+2) (l1,i1,b1,i2,i3,l2,i4,i5,d1)
def co0_L5_24:kT (tY40):=kO (kS 2 (kC (kF j_lBool) (kC kI (kC kB (kC (kP 0 0) (kC kI (kC kI (kC kI kN))))))) (kC (Cod.var 0 50 cc_Desk) kN)) (fun ((z0,z1,z2,_,z3,z4,z5,_),z6,_)=>(z0,z1,z2,z3,z4,z5,z6)) (fun (x:tY40)=>((x.1,(x.2.1,(x.2.2.1,((),(x.2.2.2.1,(x.2.2.2.2.1,(x.2.2.2.2.2.1,()))))))),(x.2.2.2.2.2.2,()))) (fun _=>rfl)
def sl_L5_24:SFn TL:=SFn.two ch_L5_26.dec (fun p=>L5_24 p.1 p.2.1 p.2.2.1 p.2.2.2.1 p.2.2.2.2.1 p.2.2.2.2.2.1 p.2.2.2.2.2.2.1 p.2.2.2.2.2.2.2.1 p.2.2.2.2.2.2.2.2) (.exit 4) .ret co0_L5_24.enc co0_L5_24.enc
def cs_lL5_24:cL:=[(26,df_ref9Same)]
def ss_lL5_24:sL:=[(105026,sl_L5_26)]
def v_L5_24:Env:=envOf tab sl sh [] [(26,.pure)]
theorem v_L5_24_ok:EnvOK PR (mkD cs_lL5_24 ss_lL5_24) v_L5_24:=envOK_of base aN (aC (oD ok_ref9Same rfl) aN)
theorem run_L5_24 (x:tY39):Out.run (mkO cs_lL5_24 ss_lL5_24) (evRound v_L5_24 12 20 fd5.an q_L5_24 (loopIn (loopsOf fd5.body) 24) (ch_L5_26.enc x)) (back2 ch_L5_26 co0_L5_24 co0_L5_24 (.exit 4) .ret)=stp_L5_24 x:=by kernel_rfl
theorem ok_L5_24:LoopOK PR (oneS sl_L5_24) nt5 q_L5_24 (loopIn (loopsOf fd5.body) 24) :=
  loop_two v_L5_24_ok (loops:=12) (k:=20) (an:=fd5.an) (by kernel_rfl) (FnSt.subl rfl st5.keys (aC (.inl (by kernel_rfl)) (aC (.inl (by kernel_rfl)) (aC (.inl (by kernel_rfl)) (aC (.inr (lC ok_L5_26 rfl)) (aC (.inl (by kernel_rfl)) aN)))))) ch_L5_26 co0_L5_24 co0_L5_24 (.exit 4) .ret rfl rfl stp_L5_24 _ run_L5_24 (fun x y h=>⟨_,h⟩) (fun _=>below_iff.1 rfl)
abbrev tY41:=(List Bool)×Bool×Int×Desk
def step_L5_18 (l1:List Bool)(i1:Int)(b1:Bool)(i2:Int)(i3:Int)(i4:Int)(d1:Desk):Option ((tY40)⊕(((tY41)⊕(tY41)))) :=
 cond (cond (decide (i4≤(d1.log.length:Int))) (decide (i2 < (d1.log.length:Int))) false)
 (ob (dDelta d1 i2 l1 i1) fun r0 =>
 cond (cond (decide (r0.2≤i2)) true (decide ((r0.1.length:Int) > i1)))
 (some (.inr (.inr (l1,false,i3,d1))))
 (ob (L5_24 l1 i1 b1 i3 i4 r0.1 r0.2 0 d1) fun y1 =>
 two y1 (fun a2 =>
 some (.inl (a2.1,a2.2.1,a2.2.2.1,a2.2.2.2.2.2.1,a2.2.2.2.1,(w64 (a2.2.2.2.2.1+1)),a2.2.2.2.2.2.2))) (fun b3 =>
 some (.inr (.inr (b3.1,b3.2.2.1,b3.2.2.2.1,b3.2.2.2.2.2.2))))))
 (some (.inr (.inl (l1,b1,i3,d1))))
def stp_L5_18 (p:tY40):Option ((tY40)⊕(((tY41)⊕(tY41)))):=step_L5_18 p.1 p.2.1 p.2.2.1 p.2.2.2.1 p.2.2.2.2.1 p.2.2.2.2.2.1 p.2.2.2.2.2.2
def L5_18 (l1:List Bool)(i1:Int)(b1:Bool)(i2:Int)(i3:Int)(i4:Int)(d1:Desk):Option (((tY41)⊕(tY41))):=iterO stp_L5_18 (1099511627776) (l1,i1,b1,i2,i3,i4,d1)
def ch_L5_18:kT (tY40):=kO (kS 1 (kC (kF j_lBool) (kC kI (kC kB (kC (kP 0 0) (kC kI (kC kI (kC kI kN))))))) (kC (Cod.var 0 50 cc_Desk) kN)) (fun ((z0,z1,z2,_,z3,z4,z5,_),z6,_)=>(z0,z1,z2,z3,z4,z5,z6)) (fun (x:tY40)=>((x.1,(x.2.1,(x.2.2.1,((),(x.2.2.2.1,(x.2.2.2.2.1,(x.2.2.2.2.2.1,()))))))),(x.2.2.2.2.2.2,()))) (fun _=>rfl)
def co0_L5_18:kT (tY41):=kO (kS 2 (kC (kF j_lBool) (kC kB (kC (kP 0 0) (kC kI kN)))) (kC (Cod.var 0 50 cc_Desk) kN)) (fun p=>(p.1.1,p.1.2.1,p.1.2.2.2.1,p.2.1)) (fun (x:tY41)=>((x.1,(x.2.1,((),(x.2.2.1,())))),(x.2.2.2,()))) (fun _=>rfl)
def sl_L5_18:SFn TL:=SFn.two ch_L5_18.dec (fun p=>L5_18 p.1 p.2.1 p.2.2.1 p.2.2.2.1 p.2.2.2.2.1 p.2.2.2.2.2.1 p.2.2.2.2.2.2) (.exit 2) .ret co0_L5_18.enc co0_L5_18.enc
def cs_lL5_18:cL:=[(24,df_dDelta)]
def ss_lL5_18:sL:=[(105024,sl_L5_24),(105026,sl_L5_26)]
def v_L5_18:Env:=envOf tab sl sh [] [(24,.keep)]
theorem v_L5_18_ok:EnvOK PR (mkD cs_lL5_18 ss_lL5_18) v_L5_18:=envOK_of base aN (aC (oD ok_dDelta rfl) aN)
theorem run_L5_18 (x:tY40):Out.run (mkO cs_lL5_18 ss_lL5_18) (evRound v_L5_18 12 20 fd5.an q_L5_18 (loopIn (loopsOf fd5.body) 18) (ch_L5_18.enc x)) (back2 ch_L5_18 co0_L5_18 co0_L5_18 (.exit 2) .ret)=stp_L5_18 x:=by kernel_rfl
theorem ok_L5_18:LoopOK PR (oneS sl_L5_18) nt5 q_L5_18 (loopIn (loopsOf fd5.body) 18) :=
  loop_two v_L5_18_ok (loops:=12) (k:=20) (an:=fd5.an) (by kernel_rfl) (FnSt.subl rfl st5.keys (aC (.inl (by kernel_rfl)) (aC (.inl (by kernel_rfl)) (aC (.inr (lC ok_L5_24 rfl)) (aC (.inr (lC ok_L5_26 rfl)) (aC (.inl (by kernel_rfl)) aN)))))) ch_L5_18 co0_L5_18 co0_L5_18 (.exit 2) .ret rfl rfl stp_L5_18 _ run_L5_18 (fun x y h=>⟨_,h⟩) (fun _=>below_iff.1 rfl)
def step_L5_32 (l1:List Bool)(b1:Bool)(i1:Int)(d1:Desk):Option ((tY41)⊕(((Bool×Desk)⊕(Bool×Desk)))) :=
 cond (decide (i1 < (d1.log.length:Int)))
 (cond (decide (0≤i1))
 (ob (d1.log[i1.toNat]?) fun e0 =>
 cond (decide (e0.coll < (l1.length:Int)))
 (cond (decide (0≤i1))
 (ob (d1.log[i1.toNat]?) fun e1 =>
 cond (decide (0≤e1.coll))
 (ob (l1[e1.coll.toNat]?) fun e2 =>
 cond (e2)
 (some (.inr (.inr (false,d1))))
 (some (.inl (l1,b1,(w64 (i1+1)),d1))))
 none)
 none)
 (some (.inl (l1,b1,(w64 (i1+1)),d1))))
 none)
 (some (.inr (.inl (b1,d1))))
def stp_L5_32 (p:tY41):Option ((tY41)⊕(((Bool×Desk)⊕(Bool×Desk)))):=step_L5_32 p.1 p.2.1 p.2.2.1 p.2.2.2
def L5_32 (l1:List Bool)(b1:Bool)(i1:Int)(d1:Desk):Option (((Bool×Desk)⊕(Bool×Desk))):=iterO stp_L5_32 (1099511627776) (l1,b1,i1,d1)
def ch_L5_32:kT (tY41):=kO (kS 1 (kC (kF j_lBool) (kC kB (kC (kP 0 0) (kC kI kN)))) (kC (Cod.var 0 50 cc_Desk) kN)) (fun p=>(p.1.1,p.1.2.1,p.1.2.2.2.1,p.2.1)) (fun (x:tY41)=>((x.1,(x.2.1,((),(x.2.2.1,())))),(x.2.2.2,()))) (fun _=>rfl)
def sl_L5_32:SFn TL:=SFn.two ch_L5_32.dec (fun p=>L5_32 p.1 p.2.1 p.2.2.1 p.2.2.2) (.exit 8) .ret co0_L100_2.enc co0_L100_2.enc
def v_L5_32:Env:=envOf tab sl sh [] []
theorem v_L5_32_ok:EnvOK PR (mkD cZ sZ) v_L5_32:=envOK_of base aN aN
theorem run_L5_32 (x:tY41):Out.run (mkO cZ sZ) (evRound v_L5_32 12 20 fd5.an q_L5_32 (loopIn (loopsOf fd5.body) 32) (ch_L5_32.enc x)) (back2 ch_L5_32 co0_L100_2 co0_L100_2 (.exit 8) .ret)=stp_L5_32 x:=by kernel_rfl
theorem ok_L5_32:LoopOK PR (oneS sl_L5_32) nt5 q_L5_32 (loopIn (loopsOf fd5.body) 32) :=
  loop_two v_L5_32_ok (loops:=12) (k:=20) (an:=fd5.an) (by kernel_rfl) (FnSt.subl rfl st5.keys (aC (.inl (by kernel_rfl)) (aC (.inl (by kernel_rfl)) (aC (.inl (by kernel_rfl)) (aC (.inl (by kernel_rfl)) (aC (.inl (by kernel_rfl)) aN)))))) ch_L5_32 co0_L100_2 co0_L100_2 (.exit 8) .ret rfl rfl stp_L5_32 _ run_L5_32 (fun x y h=>⟨_,h⟩) (fun _=>below_iff.1 rfl)
def deskDelta (l1:List Act)(i1:Int)(l2:List Bool)(i2:Int):Option Bool :=
 ob (known) fun r0 =>
 cond (!r0)
 (some false)
 (ob (l13Few l1) fun r1 =>
 cond (cond (!r1) true (decide ((l2.length:Int) > 5)))
 (some true)
 (ob (l13State l1) fun r2 =>
 ob (dDelta r2 i1 l2 i2) fun r3 =>
 cond (decide (0≤(min2 (l2.length:Int) 3)))
 (cond (decide ((min2 (l2.length:Int) 3)≤(l2.length:Int)))
 (ob (ref13Delta r2 i1 (l2.take (((min2 (l2.length:Int) 3)).toNat)) i2) fun r4 =>
 cond (cond (r3.2 != r4.2) true ((r3.1.length:Int) != (r4.1.length:Int)))
 (some false)
 (ob (L5_11 l2 i2 false r3.1 r4.1 0 r2) fun y5 =>
 two y5 (fun a6 =>
 ob (within a6.2.1 5) fun r8 =>
 ob (L5_18 a6.1 (w64 (1+r8)) a6.2.2.1 0 0 0 a6.2.2.2) fun y9 =>
 two y9 (fun a10 =>
 ob (L5_32 a10.1 a10.2.1 a10.2.2.1 a10.2.2.2) fun y12 =>
 two y12 (fun _ =>
 some true) (fun b14 =>
 some b14.1)) (fun b11 =>
 some b11.2.1)) (fun b7 =>
 some b7.2.2.1)))
 none)
 none))
def un_deskDelta (p:(List Act)×Int×(List Bool)×Int):Option Bool:=deskDelta p.1 p.2.1 p.2.2.1 p.2.2.2
def df_deskDelta:DFn TL:=DFn.of (DA.cons (DT.one di_lAct) (DA.cons dI (DA.cons (DT.one di_lBool) (DA.one dI)))) un_deskDelta (DA.one dB)
theorem run_deskDelta:DRun [(15,df_known),(22,df_l13Few),(23,df_l13State),(24,df_dDelta),(25,df_ref13Delta),(16,df_within)] [(105011,sl_L5_11),(105018,sl_L5_18),(105024,sl_L5_24),(105026,sl_L5_26),(105032,sl_L5_32)] (envOf tab sl sh [(5,fd5)] [(15,.pure),(22,.pure),(23,.keep),(24,.keep),(25,.keep),(16,.pure)]) 5 (DA.cons (DT.one di_lAct) (DA.cons dI (DA.cons (DT.one di_lBool) (DA.one dI)))) un_deskDelta (DA.one dB):=fun _=>by kernel_rfl
theorem ok_deskDelta:DOK PR 5 .pure df_deskDelta:=dok run_deskDelta (envOK_of base (aC (st5.okl rfl (aC (lC ok_L5_11 rfl) (aC (lC ok_L5_18 rfl) (aC (lC ok_L5_24 rfl) (aC (lC ok_L5_26 rfl) (aC (lC ok_L5_32 rfl) aN)))))) aN) (aC (oD ok_known rfl) (aC (oD ok_l13Few rfl) (aC (oD ok_l13State rfl) (aC (oD ok_dDelta rfl) (aC (oD ok_ref13Delta rfl) (aC (oD ok_within rfl) aN))))))) (.inr rfl) st5.enters
end
end Go.Proofs.YtcjpeijiaojeiaaGreat
