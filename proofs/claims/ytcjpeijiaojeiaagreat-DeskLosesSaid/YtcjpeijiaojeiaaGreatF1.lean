/- By program (gen.py): the functions in their typed form. -/
import Derived.Test.YtcjpeijiaojeiaaGreatF0
import Derived.Test.YtcjpeijiaojeiaaGreatHa
import Derived.Test.YtcjpeijiaojeiaaGreatLb
namespace Go.Proofs.YtcjpeijiaojeiaaGreat
open Go Go.Ev
set_option maxRecDepth 1000000
noncomputable section
abbrev tY13:=ByteArray×Bool×Int×Int
def step_L183_2 (s1:ByteArray)(b1:Bool)(i1:Int)(i2:Int):Option ((tY13)⊕(((ByteArray×Bool)⊕(ByteArray×Bool)))) :=
 cond (decide (i2 < i1))
 (cond (decide (0≤i2))
 (cond (decide (i2 < (s1.size:Int)))
 (cond (decide (((s1[(i2:Int).toNat]?.getD 0).toNat:Int) < 32))
 (some (.inr (.inr (s1,false))))
 (cond (decide (0≤i2))
 (cond (decide (i2 < (s1.size:Int)))
 (cond (((s1[(i2:Int).toNat]?.getD 0).toNat:Int) == 127)
 (some (.inr (.inr (s1,false))))
 (some (.inl (s1,b1,i1,(w64 (i2+1))))))
 none)
 none))
 none)
 none)
 (some (.inr (.inl (s1,b1))))
def stp_L183_2 (p:tY13):Option ((tY13)⊕(((ByteArray×Bool)⊕(ByteArray×Bool)))):=step_L183_2 p.1 p.2.1 p.2.2.1 p.2.2.2
def L183_2 (s1:ByteArray)(b1:Bool)(i1:Int)(i2:Int):Option (((ByteArray×Bool)⊕(ByteArray×Bool))):=iterO stp_L183_2 ((i1 - i2).toNat+2) (s1,b1,i1,i2)
def ch_L183_2:kT (tY13):=kO (kS 0 (kC (Cod.xs (Cod.sc kE)) (kC kB (kC kI (kC kI kN)))) kN) (fun ((z0,z1,z2,z3,_),_)=>(z0,z1,z2,z3)) (fun (x:tY13)=>((x.1,(x.2.1,(x.2.2.1,(x.2.2.2,())))),())) (fun _=>rfl)
def co0_L183_2:kT (ByteArray×Bool):=kO (kS 0 (kC (Cod.xs (Cod.sc kE)) (kC kB kN)) kN) (fun p=>(p.1.1,p.1.2.1)) (fun (x:ByteArray×Bool)=>((x.1,(x.2,())),())) (fun _=>rfl)
def sl_L183_2:SFn TL:=SFn.two ch_L183_2.dec (fun p=>L183_2 p.1 p.2.1 p.2.2.1 p.2.2.2) (.exit 0) .ret co0_L183_2.enc co0_L183_2.enc
def v_L183_2:Env:=envOf tab sl sh [] []
theorem v_L183_2_ok:EnvOK PR (mkD cZ sZ) v_L183_2:=envOK_of base aN aN
theorem run_L183_2 (x:tY13):Out.run (mkO cZ sZ) (evRound v_L183_2 12 20 fd183.an q_L183_2 (loopIn (loopsOf fd183.body) 2) (ch_L183_2.enc x)) (back2 ch_L183_2 co0_L183_2 co0_L183_2 (.exit 0) .ret)=stp_L183_2 x:=by kernel_rfl
theorem ok_L183_2:LoopOK PR (oneS sl_L183_2) nt183 q_L183_2 (loopIn (loopsOf fd183.body) 2) :=
  loop_two v_L183_2_ok (loops:=12) (k:=20) (an:=fd183.an) (by kernel_rfl) (FnSt.subl rfl st183.keys (aC (.inl (by kernel_rfl)) aN)) ch_L183_2 co0_L183_2 co0_L183_2 (.exit 0) .ret rfl rfl stp_L183_2 _ run_L183_2 (fun x y h=>⟨_,h⟩) (fun _=>below_iff.1 rfl)
def ops_text (s1:ByteArray):Option Bool :=
 ob (L183_2 s1 false (s1.size:Int) 0) fun y0 =>
 two y0 (fun a1 =>
 some (decide ((a1.1.size:Int)≤40))) (fun b2 =>
 some b2.2)
def un_ops_text (p:ByteArray):Option Bool:=ops_text p
def df_ops_text:DFn TL:=DFn.of (DA.one (DT.one DI.str)) un_ops_text (DA.one dB)
theorem run_ops_text:DRun [] [(283002,sl_L183_2)] (envOf tab sl sh [(183,fd183)] []) 183 (DA.one (DT.one DI.str)) un_ops_text (DA.one dB):=fun _=>by kernel_rfl
theorem ok_ops_text:DOK PR 183 .pure df_ops_text:=dok run_ops_text (envOK_of base (aC (st183.okl rfl (aC (lC ok_L183_2 rfl) aN)) aN) aN) (.inr rfl) st183.enters
def ops_before (ex1:Entry)(ex2:Entry):Option Int :=
 ob (cmpCompareInt ex1.device ex2.device) fun r0 =>
 ob (cmpCompareInt ex1.epoch ex2.epoch) fun r1 =>
 ob (cmpCompareInt ex1.seq ex2.seq) fun r2 =>
 ob (cmpOrInt [r0,r1,r2]) fun r3 =>
 some r3
def un_ops_before (p:Entry×Entry):Option Int:=ops_before p.1 p.2
def df_ops_before:DFn TL:=DFn.of (DA.cons (DT.agg dc_Entry) (DA.one (DT.agg dc_Entry))) un_ops_before (DA.one dI)
theorem run_ops_before:DRun [(239,df_cmpCompareInt),(216,df_cmpOrInt)] [] (envOf tab sl sh [(231,fd231)] [(239,.pure),(216,.pure)]) 231 (DA.cons (DT.agg dc_Entry) (DA.one (DT.agg dc_Entry))) un_ops_before (DA.one dI):=fun _=>by kernel_rfl
theorem ok_ops_before:DOK PR 231 .pure df_ops_before:=dok run_ops_before (envOK_of base (aC (st231.okl rfl aN) aN) (aC (oD ok_cmpCompareInt rfl) (aC (oD ok_cmpOrInt rfl) aN))) (.inr rfl) st231.enters
abbrev tY14:=(List Entry)×Int×Int×Int
def step_L207_4 (l1:List Entry)(i1:Int)(i2:Int)(i3:Int):Option ((tY14)⊕(((Int)⊕(Int)))) :=
 cond (decide (i3 < i2))
 (cond (decide (i3 > 0))
 (cond (decide (0≤(w64 (i3 - 1))))
 (ob (l1[((w64 (i3 - 1))).toNat]?) fun e0 =>
 cond (decide (0≤i3))
 (ob (l1[i3.toNat]?) fun e1 =>
 ob (ops_before e0 e1) fun r2 =>
 cond (decide (r2≥0))
 (some (.inr (.inr 10)))
 (some (.inl (l1,i1,i2,(w64 (i3+1))))))
 none)
 none)
 (some (.inl (l1,i1,i2,(w64 (i3+1))))))
 (some (.inr (.inl i1)))
def stp_L207_4 (p:tY14):Option ((tY14)⊕(((Int)⊕(Int)))):=step_L207_4 p.1 p.2.1 p.2.2.1 p.2.2.2
def L207_4 (l1:List Entry)(i1:Int)(i2:Int)(i3:Int):Option (((Int)⊕(Int))):=iterO stp_L207_4 ((i2 - i3).toNat+2) (l1,i1,i2,i3)
def ch_L207_4:kT (tY14):=kO (kS 0 (kC (kF j_lEntry) (kC kI (kC kI (kC kI kN)))) kN) (fun ((z0,z1,z2,z3,_),_)=>(z0,z1,z2,z3)) (fun (x:tY14)=>((x.1,(x.2.1,(x.2.2.1,(x.2.2.2,())))),())) (fun _=>rfl)
def sl_L207_4:SFn TL:=SFn.two ch_L207_4.dec (fun p=>L207_4 p.1 p.2.1 p.2.2.1 p.2.2.2) (.exit 0) .ret co0_L205_3.enc co0_L205_3.enc
def cs_lL207_4:cL:=[(231,df_ops_before)]
def v_L207_4:Env:=envOf tab sl sh [] [(231,.pure)]
theorem v_L207_4_ok:EnvOK PR (mkD cs_lL207_4 sZ) v_L207_4:=envOK_of base aN (aC (oD ok_ops_before rfl) aN)
theorem run_L207_4 (x:tY14):Out.run (mkO cs_lL207_4 sZ) (evRound v_L207_4 12 20 fd207.an q_L207_4 (loopIn (loopsOf fd207.body) 4) (ch_L207_4.enc x)) (back2 ch_L207_4 co0_L205_3 co0_L205_3 (.exit 0) .ret)=stp_L207_4 x:=by kernel_rfl
theorem ok_L207_4:LoopOK PR (oneS sl_L207_4) nt207 q_L207_4 (loopIn (loopsOf fd207.body) 4) :=
  loop_two v_L207_4_ok (loops:=12) (k:=20) (an:=fd207.an) (by kernel_rfl) (FnSt.subl rfl st207.keys (aC (.inl (by kernel_rfl)) aN)) ch_L207_4 co0_L205_3 co0_L205_3 (.exit 0) .ret rfl rfl stp_L207_4 _ run_L207_4 (fun x y h=>⟨_,h⟩) (fun _=>below_iff.1 rfl)
def ops_dots (l1:List Entry):Option Int :=
 cond (decide ((l1.length:Int) > 8))
 (some 4)
 (ob (L207_4 l1 0 (l1.length:Int) 0) fun y0 =>
 two y0 (fun _ =>
 some 0) (fun b2 =>
 some b2))
def un_ops_dots (p:(List Entry)):Option Int:=ops_dots p
def df_ops_dots:DFn TL:=DFn.of (DA.one (DT.one di_lEntry)) un_ops_dots (DA.one dI)
theorem run_ops_dots:DRun [] [(307004,sl_L207_4)] (envOf tab sl sh [(207,fd207)] []) 207 (DA.one (DT.one di_lEntry)) un_ops_dots (DA.one dI):=fun _=>by kernel_rfl
theorem ok_ops_dots:DOK PR 207 .pure df_ops_dots:=dok run_ops_dots (envOK_of base (aC (st207.okl rfl (aC (lC ok_L207_4 rfl) aN)) aN) aN) (.inr rfl) st207.enters
def ops_kind (o1:Op):Option Int :=
 cond (o1.kind == 3)
 (cond (!sEq o1.key s_empty)
 (ob (ops_dots o1.dots) fun r0 =>
 some r0)
 (cond (sEq o1.key s_empty)
 (some 1)
 (some 0)))
 (cond (cond (o1.kind == 1) (o1.kind == 1) (o1.kind == 2))
 (cond (sEq o1.key s_empty)
 (some 1)
 (some 0))
 (cond (o1.kind == 4)
 (cond (sEq o1.key s_empty)
 (some 1)
 (cond (o1.n == 0)
 (some 11)
 (ob (ops_within o1.n (-1099511627776) 1099511627776) fun r1 =>
 cond (!r1)
 (some 11)
 (some 0))))
 (cond (o1.kind == 5)
 (ob (ops_within o1.n 0 999) fun r2 =>
 cond (!r2)
 (some 11)
 (some 0))
 (some 0))))
def un_ops_kind (p:Op):Option Int:=ops_kind p
def df_ops_kind:DFn TL:=DFn.of (DA.one (DT.agg dc_Op)) un_ops_kind (DA.one dI)
theorem run_ops_kind:DRun [(207,df_ops_dots),(182,df_ops_within)] [] (envOf tab sl sh [(184,fd184)] [(207,.pure),(182,.pure)]) 184 (DA.one (DT.agg dc_Op)) un_ops_kind (DA.one dI):=fun _=>by kernel_rfl
theorem ok_ops_kind:DOK PR 184 .pure df_ops_kind:=dok run_ops_kind (envOK_of base (aC (st184.okl rfl aN) aN) (aC (oD ok_ops_dots rfl) (aC (oD ok_ops_within rfl) aN))) (.inr rfl) st184.enters
def opsCheck (o1:Op):Option Int :=
 ob (ops_within o1.dot.device 0 5) fun r0 =>
 cond (!r0)
 (some 1)
 (ob (ops_within o1.dot.epoch 1 1073741824) fun r1 =>
 cond (!r1)
 (some 1)
 (ob (ops_within o1.dot.seq 1 1073741824) fun r2 =>
 cond (!r2)
 (some 1)
 (ob (ops_within o1.coll 0 2) fun r3 =>
 cond (!r3)
 (some 1)
 (ob (ops_within o1.ver 1 3) fun r4 =>
 cond (!r4)
 (some 1)
 (ob (ops_within o1.time 0 1099511627776) fun r5 =>
 cond (!r5)
 (some 1)
 (ob (ops_within o1.kind 1 5) fun r6 =>
 cond (!r6)
 (some 3)
 (ob (ops_text o1.key) fun r7 =>
 cond (!r7)
 (some 5)
 (ob (ops_text o1.text) fun r8 =>
 cond (!r8)
 (some 5)
 (ob (ops_kind o1) fun r9 =>
 some r9)))))))))
def un_opsCheck (p:Op):Option Int:=opsCheck p
def df_opsCheck:DFn TL:=DFn.of (DA.one (DT.agg dc_Op)) un_opsCheck (DA.one dI)
theorem run_opsCheck:DRun [(182,df_ops_within),(183,df_ops_text),(184,df_ops_kind)] [] (envOf tab sl sh [(158,fd158)] [(182,.pure),(183,.pure),(184,.pure)]) 158 (DA.one (DT.agg dc_Op)) un_opsCheck (DA.one dI):=fun _=>by kernel_rfl
theorem ok_opsCheck:DOK PR 158 .pure df_opsCheck:=dok run_opsCheck (envOK_of base (aC (st158.okl rfl aN) aN) (aC (oD ok_ops_within rfl) (aC (oD ok_ops_text rfl) (aC (oD ok_ops_kind rfl) aN)))) (.inr rfl) st158.enters
abbrev tY15:=Int×Bool×(List Range)×Int×Int
def step_L187_2 (i1:Int)(b1:Bool)(l1:List Range)(i2:Int)(i3:Int):Option ((tY15)⊕(((Bool)⊕(Bool)))) :=
 cond (decide (i3 < i2))
 (cond (decide (0≤i3))
 (ob (l1[i3.toNat]?) fun e0 =>
 cond (cond (decide (i1≥e0.from_)) (decide (i1 < e0.to_)) false)
 (some (.inr (.inr true)))
 (some (.inl (i1,b1,l1,i2,(w64 (i3+1))))))
 none)
 (some (.inr (.inl b1)))
def stp_L187_2 (p:tY15):Option ((tY15)⊕(((Bool)⊕(Bool)))):=step_L187_2 p.1 p.2.1 p.2.2.1 p.2.2.2.1 p.2.2.2.2
def L187_2 (i1:Int)(b1:Bool)(l1:List Range)(i2:Int)(i3:Int):Option (((Bool)⊕(Bool))):=iterO stp_L187_2 ((i2 - i3).toNat+2) (i1,b1,l1,i2,i3)
def ch_L187_2:kT (tY15):=kO (kS 0 (kC kI (kC kB (kC (kF j_lRange) (kC kI (kC kI kN))))) kN) (fun ((z0,z1,z2,z3,z4,_),_)=>(z0,z1,z2,z3,z4)) (fun (x:tY15)=>((x.1,(x.2.1,(x.2.2.1,(x.2.2.2.1,(x.2.2.2.2,()))))),())) (fun _=>rfl)
def co0_L187_2:kT (Bool):=kO (kS 0 (kC kB kN) kN) (fun p=>p.1.1) (fun (x:Bool)=>((x,()),())) (fun _=>rfl)
def sl_L187_2:SFn TL:=SFn.two ch_L187_2.dec (fun p=>L187_2 p.1 p.2.1 p.2.2.1 p.2.2.2.1 p.2.2.2.2) (.exit 0) .ret co0_L187_2.enc co0_L187_2.enc
def v_L187_2:Env:=envOf tab sl sh [] []
theorem v_L187_2_ok:EnvOK PR (mkD cZ sZ) v_L187_2:=envOK_of base aN aN
theorem run_L187_2 (x:tY15):Out.run (mkO cZ sZ) (evRound v_L187_2 12 20 fd187.an q_L187_2 (loopIn (loopsOf fd187.body) 2) (ch_L187_2.enc x)) (back2 ch_L187_2 co0_L187_2 co0_L187_2 (.exit 0) .ret)=stp_L187_2 x:=by kernel_rfl
theorem ok_L187_2:LoopOK PR (oneS sl_L187_2) nt187 q_L187_2 (loopIn (loopsOf fd187.body) 2) :=
  loop_two v_L187_2_ok (loops:=12) (k:=20) (an:=fd187.an) (by kernel_rfl) (FnSt.subl rfl st187.keys (aC (.inl (by kernel_rfl)) aN)) ch_L187_2 co0_L187_2 co0_L187_2 (.exit 0) .ret rfl rfl stp_L187_2 _ run_L187_2 (fun x y h=>⟨_,h⟩) (fun _=>below_iff.1 rfl)
def rangesHas (l1:List Range)(i1:Int):Option Bool :=
 ob (L187_2 i1 false l1 (l1.length:Int) 0) fun y0 =>
 two y0 (fun _ =>
 some false) (fun b2 =>
 some b2)
def un_rangesHas (p:(List Range)×Int):Option Bool:=rangesHas p.1 p.2
def df_rangesHas:DFn TL:=DFn.of (DA.cons (DT.one di_lRange) (DA.one dI)) un_rangesHas (DA.one dB)
theorem run_rangesHas:DRun [] [(287002,sl_L187_2)] (envOf tab sl sh [(187,fd187)] []) 187 (DA.cons (DT.one di_lRange) (DA.one dI)) un_rangesHas (DA.one dB):=fun _=>by kernel_rfl
theorem ok_rangesHas:DOK PR 187 .pure df_rangesHas:=dok run_rangesHas (envOK_of base (aC (st187.okl rfl (aC (lC ok_L187_2 rfl) aN)) aN) aN) (.inr rfl) st187.enters
def slices_isNaNInt (i1:Int):Option Bool :=
 some (i1 != i1)
def un_slices_isNaNInt (p:Int):Option Bool:=slices_isNaNInt p
def df_slices_isNaNInt:DFn TL:=DFn.of (DA.one dI) un_slices_isNaNInt (DA.one dB)
theorem run_slices_isNaNInt:DRun [] [] (envOf tab sl sh [(198,fd198)] []) 198 (DA.one dI) un_slices_isNaNInt (DA.one dB):=fun _=>by kernel_rfl
theorem ok_slices_isNaNInt:DOK PR 198 .pure df_slices_isNaNInt:=dok run_slices_isNaNInt (envOK_of base (aC (st198.okl rfl aN) aN) aN) (.inr rfl) st198.enters
def cmpLessInt (i1:Int)(i2:Int):Option Bool :=
 ob (cmp_isNaNInt i1) fun r0 =>
 cond (r0)
 (ob (cmp_isNaNInt i2) fun r1 =>
 some (cond (!r1) true (decide (i1 < i2))))
 (some (decide (i1 < i2)))
def un_cmpLessInt (p:Int×Int):Option Bool:=cmpLessInt p.1 p.2
def df_cmpLessInt:DFn TL:=DFn.of (DA.cons dI (DA.one dI)) un_cmpLessInt (DA.one dB)
theorem run_cmpLessInt:DRun [(226,df_cmp_isNaNInt)] [] (envOf tab sl sh [(197,fd197)] [(226,.pure)]) 197 (DA.cons dI (DA.one dI)) un_cmpLessInt (DA.one dB):=fun _=>by kernel_rfl
theorem ok_cmpLessInt:DOK PR 197 .pure df_cmpLessInt:=dok run_cmpLessInt (envOK_of base (aC (st197.okl rfl aN) aN) (aC (oD ok_cmp_isNaNInt rfl) aN)) (.inr rfl) st197.enters
abbrev tY16:=(List Int)×Int×Int×Int×Int
def step_L164_3 (l1:List Int)(i1:Int)(i2:Int)(i3:Int)(i4:Int):Option ((tY16)⊕((List Int)×Int×Int×Int)) :=
 cond (decide (i3 < i4))
 (cond (decide (0≤(w64 (((IntKind.u64.wrap ((w64 (i3+i4)))) / 2)))))
 (ob (l1[((w64 (((IntKind.u64.wrap ((w64 (i3+i4)))) / 2)))).toNat]?) fun e0 =>
 ob (cmpLessInt e0 i1) fun r1 =>
 some (.inl (l1,i1,i2,(cond r1 (w64 ((w64 (((IntKind.u64.wrap ((w64 (i3+i4)))) / 2)))+1)) i3),(cond r1 i4 (w64 (((IntKind.u64.wrap ((w64 (i3+i4)))) / 2)))))))
 none)
 (some (.inr (l1,i1,i2,i3)))
def stp_L164_3 (p:tY16):Option ((tY16)⊕((List Int)×Int×Int×Int)):=step_L164_3 p.1 p.2.1 p.2.2.1 p.2.2.2.1 p.2.2.2.2
def L164_3 (l1:List Int)(i1:Int)(i2:Int)(i3:Int)(i4:Int):Option ((List Int)×Int×Int×Int):=iterO stp_L164_3 ((i4 - i3).toNat+2) (l1,i1,i2,i3,i4)
def ch_L164_3:kT (tY16):=kO (kS 0 (kC (kF j_lInt) (kC kI (kC kI (kC kI (kC kI kN))))) kN) (fun ((z0,z1,z2,z3,z4,_),_)=>(z0,z1,z2,z3,z4)) (fun (x:tY16)=>((x.1,(x.2.1,(x.2.2.1,(x.2.2.2.1,(x.2.2.2.2,()))))),())) (fun _=>rfl)
def co0_L164_3:kT ((List Int)×Int×Int×Int):=kO (kS 0 (kC (kF j_lInt) (kC kI (kC kI (kC kI kN)))) kN) (fun ((z0,z1,z2,z3,_),_)=>(z0,z1,z2,z3)) (fun (x:(List Int)×Int×Int×Int)=>((x.1,(x.2.1,(x.2.2.1,(x.2.2.2,())))),())) (fun _=>rfl)
def sl_L164_3:SFn TL:=SFn.one ch_L164_3.dec (fun p=>L164_3 p.1 p.2.1 p.2.2.1 p.2.2.2.1 p.2.2.2.2) (.exit 0) co0_L164_3.enc
def cs_lL164_3:cL:=[(197,df_cmpLessInt)]
def v_L164_3:Env:=envOf tab sl sh [] [(197,.pure)]
theorem v_L164_3_ok:EnvOK PR (mkD cs_lL164_3 sZ) v_L164_3:=envOK_of base aN (aC (oD ok_cmpLessInt rfl) aN)
theorem run_L164_3 (x:tY16):Out.run (mkO cs_lL164_3 sZ) (evRound v_L164_3 12 20 fd164.an q_L164_3 (loopIn (loopsOf fd164.body) 3) (ch_L164_3.enc x)) (back ch_L164_3 co0_L164_3 fun e=>exE e (.exit 0))=stp_L164_3 x:=by kernel_rfl
theorem ok_L164_3:LoopOK PR (oneS sl_L164_3) nt164 q_L164_3 (loopIn (loopsOf fd164.body) 3) :=
  loop_one v_L164_3_ok (loops:=12) (k:=20) (an:=fd164.an) (by kernel_rfl) (FnSt.subl rfl st164.keys (aC (.inl (by kernel_rfl)) aN)) ch_L164_3 co0_L164_3 (.exit 0) rfl stp_L164_3 _ run_L164_3 (fun x y h=>⟨_,h⟩) (fun _=>below_iff.1 rfl)
def bsearchInt (l1:List Int)(i1:Int):Option (Int×Bool) :=
 ob (L164_3 l1 i1 (l1.length:Int) 0 (l1.length:Int)) fun y0 =>
 cond (decide (y0.2.2.2 < y0.2.2.1))
 (cond (decide (0≤y0.2.2.2))
 (ob (y0.1[y0.2.2.2.toNat]?) fun e1 =>
 cond (e1 == y0.2.1)
 (some (y0.2.2.2,true))
 (cond (decide (0≤y0.2.2.2))
 (ob (y0.1[y0.2.2.2.toNat]?) fun e2 =>
 ob (slices_isNaNInt e2) fun r3 =>
 cond (r3)
 (ob (slices_isNaNInt y0.2.1) fun r4 =>
 some (y0.2.2.2,r4))
 (some (y0.2.2.2,false)))
 none))
 none)
 (some (y0.2.2.2,false))
def un_bsearchInt (p:(List Int)×Int):Option (Int×Bool):=bsearchInt p.1 p.2
def df_bsearchInt:DFn TL:=DFn.of (DA.cons (DT.one di_lInt) (DA.one dI)) un_bsearchInt (DA.cons dI (DA.one dB))
theorem run_bsearchInt:DRun [(198,df_slices_isNaNInt)] [(264003,sl_L164_3)] (envOf tab sl sh [(164,fd164)] [(198,.pure)]) 164 (DA.cons (DT.one di_lInt) (DA.one dI)) un_bsearchInt (DA.cons dI (DA.one dB)):=fun _=>by kernel_rfl
theorem ok_bsearchInt:DOK PR 164 .pure df_bsearchInt:=dok run_bsearchInt (envOK_of base (aC (st164.okl rfl (aC (lC ok_L164_3 rfl) aN)) aN) (aC (oD ok_slices_isNaNInt rfl) aN)) (.inr rfl) st164.enters
abbrev tY17:=(List Slice)×Int×Int×Int×Op
def step_L185_2 (l1:List Slice)(i1:Int)(i2:Int)(i3:Int)(o1:Op):Option ((tY17)⊕(((Int×Op×(List Slice))⊕(Int×Op×(List Slice))))) :=
 cond (decide (i3 < i2))
 (cond (decide (0≤i3))
 (cond (decide (i3 < (l1.length:Int)))
 (ob (l1[i3.toNat]?) fun e0 =>
 cond (sEq e0.key o1.key)
 (some (.inr (.inr (i3,o1,l1))))
 (some (.inl (l1,i1,i2,(w64 (i3+1)),o1))))
 none)
 none)
 (some (.inr (.inl (i1,o1,l1))))
def stp_L185_2 (p:tY17):Option ((tY17)⊕(((Int×Op×(List Slice))⊕(Int×Op×(List Slice))))):=step_L185_2 p.1 p.2.1 p.2.2.1 p.2.2.2.1 p.2.2.2.2
def L185_2 (l1:List Slice)(i1:Int)(i2:Int)(i3:Int)(o1:Op):Option (((Int×Op×(List Slice))⊕(Int×Op×(List Slice)))):=iterO stp_L185_2 ((i2 - i3).toNat+2) (l1,i1,i2,i3,o1)
def cc_Op:Cod (List (C TL)) Op:=kO (kC kJ (kC kJ (kC kJ (kC kJ (kC kJ (kC kJ (kC kE (kC kE (kC kJ (kC kJ (kC (kG j_lEntry) kN))))))))))) (fun p=>(Op.mk (Entry.mk p.1 p.2.1 p.2.2.1) p.2.2.2.1 p.2.2.2.2.1 p.2.2.2.2.2.1 p.2.2.2.2.2.2.1 p.2.2.2.2.2.2.2.1 (t8 p).1 (t8 p).2.1 (t8 p).2.2.1)) (fun (x:Op)=>(x.dot.device,(x.dot.epoch,(x.dot.seq,(x.coll,(x.ver,(x.kind,(x.key,(x.text,(x.n,(x.time,(x.dots,())))))))))))) (fun _=>rfl)
def ch_L185_2:kT (tY17):=kO (kS 2 (kC (Cod.xs (Cod.sc (kA 0))) (kC (Cod.xs (Cod.sc (Cod.clo 186 [] [(1,0)]))) (kC kI (kC kI (kC kI kN))))) (kC (kR 0 133 j_lSlice) (kC (Cod.var 1 61 cc_Op) kN))) (fun ((_,_,z0,z1,z2,_),z3,z4,_)=>(z3,z0,z1,z2,z4)) (fun (x:tY17)=>(((),((),(x.2.1,(x.2.2.1,(x.2.2.2.1,()))))),(x.1,(x.2.2.2.2,())))) (fun _=>rfl)
def co0_L185_2:kT (Int×Op×(List Slice)):=kO (kS 4 (kC kI kN) (kC (kR 0 133 j_lSlice) (kC (Cod.var 1 61 cc_Op) kN))) (fun p=>(p.1.1,p.2.2.1,p.2.1)) (fun (x:Int×Op×(List Slice))=>((x.1,()),(x.2.2,(x.2.1,())))) (fun _=>rfl)
def sl_L185_2:SFn TL:=SFn.two ch_L185_2.dec (fun p=>L185_2 p.1 p.2.1 p.2.2.1 p.2.2.2.1 p.2.2.2.2) (.exit 0) .ret co0_L185_2.enc co0_L185_2.enc
def v_L185_2:Env:=envOf tab sl sh [(186,fd186)] []
theorem v_L185_2_ok:EnvOK PR (mkD cZ sZ) v_L185_2:=envOK_of base (aC (st186.okl rfl aN) aN) aN
theorem run_L185_2 (x:tY17):Out.run (mkO cZ sZ) (evRound v_L185_2 12 20 fd185.an q_L185_2 (loopIn (loopsOf fd185.body) 2) (ch_L185_2.enc x)) (back2 ch_L185_2 co0_L185_2 co0_L185_2 (.exit 0) .ret)=stp_L185_2 x:=by kernel_rfl
theorem ok_L185_2:LoopOK PR (oneS sl_L185_2) nt185 q_L185_2 (loopIn (loopsOf fd185.body) 2) :=
  loop_two v_L185_2_ok (loops:=12) (k:=20) (an:=fd185.an) (by kernel_rfl) (FnSt.subl rfl st185.keys (aC (.inl (by kernel_rfl)) aN)) ch_L185_2 co0_L185_2 co0_L185_2 (.exit 0) .ret rfl rfl stp_L185_2 _ run_L185_2 (fun x y h=>⟨_,h⟩) (fun _=>below_iff.1 rfl)
def ledgerSpend (lx1:Lease)(o1:Op):Option (Lease×Int) :=
 ob (ledgerLease lx1) fun y0 =>
 cond (o1.kind == 4)
 (ob (L185_2 y0.slices 0 (y0.slices.length:Int) 0 o1) fun y1 =>
 two y1 (fun _ =>
 ob (ledgerLease lx1) fun y4 =>
 some (y4,14)) (fun b3 =>
 cond (decide (b3.1 < 0))
 (ob (ledgerLease lx1) fun y5 =>
 some (y5,14))
 (cond (decide (0≤b3.1))
 (cond (decide (b3.1 < (b3.2.2.length:Int)))
 (ob (b3.2.2[b3.1.toNat]?) fun e6 =>
 ob (b3.2.2[b3.1.toNat]?) fun e7 =>
 cond (decide (b3.2.1.n > (w64 (e6.up_ - e7.usedUp))))
 (ob (ledgerLease lx1) fun y10 =>
 some (y10,14))
 (ob (b3.2.2[b3.1.toNat]?) fun e8 =>
 ob (b3.2.2[b3.1.toNat]?) fun e9 =>
 cond (decide ((w64 (0 - b3.2.1.n)) > (w64 (e8.down_ - e9.usedDown))))
 (ob (ledgerLease lx1) fun y11 =>
 some (y11,14))
 (ob (b3.2.2[b3.1.toNat]?) fun e12 =>
 ob (b3.2.2[b3.1.toNat]?) fun e13 =>
 ob ((b3.2.2.set b3.1.toNat (Slice.mk e13.key e13.up_ e13.down_ (w64 (e12.usedUp+(max2 b3.2.1.n 0))) e13.usedDown))[b3.1.toNat]?) fun e14 =>
 ob ((b3.2.2.set b3.1.toNat (Slice.mk e13.key e13.up_ e13.down_ (w64 (e12.usedUp+(max2 b3.2.1.n 0))) e13.usedDown))[b3.1.toNat]?) fun e15 =>
 ob (ledgerLease (Lease.mk y0.device y0.epoch y0.until_ y0.last ((b3.2.2.set b3.1.toNat (Slice.mk e13.key e13.up_ e13.down_ (w64 (e12.usedUp+(max2 b3.2.1.n 0))) e13.usedDown)).set b3.1.toNat (Slice.mk e15.key e15.up_ e15.down_ e15.usedUp (w64 (e14.usedDown+(max2 (w64 (0 - b3.2.1.n)) 0))))) y0.ids y0.used)) fun y20 =>
 some (y20,0))))
 none)
 none)))
 (cond (o1.kind == 5)
 (ob (rangesHas y0.ids o1.n) fun r16 =>
 cond (!r16)
 (ob (ledgerLease lx1) fun y17 =>
 some (y17,14))
 (ob (bsearchInt y0.used o1.n) fun r18 =>
 cond (r18.2)
 (ob (ledgerLease lx1) fun y19 =>
 some (y19,7))
 (cond (decide (0≤r18.1))
 (cond (decide (r18.1≤(y0.used.length:Int)))
 (cond (fits ((((y0.used.take r18.1.toNat)++[o1.n])++((y0.used.take y0.used.length).drop r18.1.toNat)).length))
 (ob (ledgerLease (Lease.mk y0.device y0.epoch y0.until_ y0.last y0.slices y0.ids (((y0.used.take r18.1.toNat)++[o1.n])++((y0.used.take y0.used.length).drop r18.1.toNat)))) fun y21 =>
 some (y21,0))
 none)
 none)
 none)))
 (ob (ledgerLease y0) fun y22 =>
 some (y22,0)))
def un_ledgerSpend (p:Lease×Op):Option (Lease×Int):=ledgerSpend p.1 p.2
def df_ledgerSpend:DFn TL:=DFn.of (DA.cons (DT.agg dc_Lease) (DA.one (DT.agg dc_Op))) un_ledgerSpend (DA.cons (DT.agg dc_Lease) (DA.one dI))
theorem run_ledgerSpend:DRun [(187,df_rangesHas),(164,df_bsearchInt)] [(151,sf_ledgerLease),(285002,sl_L185_2)] (envOf tab sl sh [(159,fd159),(185,fd185)] [(151,.sum),(187,.pure),(164,.pure),(165,(.ins 3))]) 159 (DA.cons (DT.agg dc_Lease) (DA.one (DT.agg dc_Op))) un_ledgerSpend (DA.cons (DT.agg dc_Lease) (DA.one dI)):=fun _=>by kernel_rfl
theorem ok_ledgerSpend:DOK PR 159 .keep df_ledgerSpend:=dok run_ledgerSpend (envOK_of base (aC (st159.okl rfl aN) (aC (st185.okl rfl (aC (lC ok_L185_2 rfl) aN)) aN)) (aC (okS rfl ok_ledgerLease) (aC (oD ok_rangesHas rfl) (aC (oD ok_bsearchInt rfl) (aC (okIns okI_165) aN))))) (.inl rfl) st159.enters
def collOwn (c1:Coll):Option Coll :=
 cond (fits c1.v.length)
 (cond (fits c1.regs.length)
 (cond (fits c1.elems.length)
 (cond (fits c1.gone.length)
 (cond (fits c1.sums.length)
 (cond (fits c1.binds.length)
 (some c1)
 none)
 none)
 none)
 none)
 none)
 none
def cc_Coll:Cod (List (C TL)) Coll:=kO (kC (kG j_lEntry) (kC (kG j_lReg) (kC (kG j_lElem) (kC (kG j_lEntry) (kC (kG j_lSum) (kC (kG j_lBind) kN)))))) (fun (z0,z1,z2,z3,z4,z5,_)=>(Coll.mk z0 z1 z2 z3 z4 z5)) (fun (x:Coll)=>(x.v,(x.regs,(x.elems,(x.gone,(x.sums,(x.binds,()))))))) (fun _=>rfl)
def ch_collOwn:kT (Coll):=kO (kS 0 (kC (Cod.xs (Cod.sa cc_Coll)) kN) kN) (fun p=>p.1.1) (fun (x:Coll)=>((x,()),())) (fun _=>rfl)
def co_collOwn:kT (Coll):=kO (kS 6 (kC (Cod.xs (Cod.sa (kC (kA 0) (kC (kA 1) (kC (kA 2) (kC (kA 3) (kC (kA 4) (kC (kA 5) kN)))))))) kN) (kC (kR 0 66 j_lEntry) (kC (kR 1 142 j_lReg) (kC (kR 2 145 j_lElem) (kC (kR 3 59 j_lEntry) (kC (kR 4 129 j_lSum) (kC (kR 5 149 j_lBind) kN))))))) (fun (_,z0,z1,z2,z3,z4,z5,_)=>(Coll.mk z0 z1 z2 z3 z4 z5)) (fun (x:Coll)=>((((),((),((),((),((),((),())))))),()),(x.v,(x.regs,(x.elems,(x.gone,(x.sums,(x.binds,())))))))) (fun _=>rfl)
def un_collOwn (p:Coll):Option Coll:=collOwn p
def sf_collOwn:SFn TL:=SFn.one ch_collOwn.dec un_collOwn .normal co_collOwn.enc
def env_collOwn:Env:=envOf tab sl sh [(188,fd188)] [(79,(.cln 66)),(80,(.cln 142)),(81,(.cln 145)),(50,(.cln 59)),(82,(.cln 129)),(83,(.cln 149))]
theorem env_collOwn_ok:EnvOK PR (mkD cZ sZ) env_collOwn:=envOK_of base (aC (st188.okl rfl aN) aN) (aC (okCln okI_79) (aC (okCln okI_80) (aC (okCln okI_81) (aC (okCln okI_50) (aC (okCln okI_82) (aC (okCln okI_83) aN))))))
theorem run_collOwn (x:Coll):Out.run (mkO cZ sZ) (evSum env_collOwn 12 20 188 (ch_collOwn.enc x)) (back1 co_collOwn)=un_collOwn x:=by kernel_rfl
theorem ok_collOwn:SOK PR 188 sf_collOwn:=sum_one env_collOwn_ok (loops:=12) (n:=20) st188.enters ch_collOwn co_collOwn un_collOwn run_collOwn
def vectorGet (l1:List Entry)(i1:Int)(i2:Int):Option Int :=
 ob (vector_at l1 (Pair.mk i1 i2)) fun r0 =>
 cond (!r0.2)
 (some 0)
 (cond (decide (0≤r0.1))
 (ob (l1[r0.1.toNat]?) fun e1 =>
 some e1.seq)
 none)
def un_vectorGet (p:(List Entry)×Int×Int):Option Int:=vectorGet p.1 p.2.1 p.2.2
def df_vectorGet:DFn TL:=DFn.of (DA.cons (DT.one di_lEntry) (DA.cons dI (DA.one dI))) un_vectorGet (DA.one dI)
theorem run_vectorGet:DRun [(233,df_vector_at)] [] (envOf tab sl sh [(232,fd232)] [(233,.pure)]) 232 (DA.cons (DT.one di_lEntry) (DA.cons dI (DA.one dI))) un_vectorGet (DA.one dI):=fun _=>by kernel_rfl
theorem ok_vectorGet:DOK PR 232 .pure df_vectorGet:=dok run_vectorGet (envOK_of base (aC (st232.okl rfl aN) aN) (aC (oD ok_vector_at rfl) aN)) (.inr rfl) st232.enters
def vectorHas (l1:List Entry)(ex1:Entry):Option Bool :=
 cond (decide (ex1.seq≥1))
 (ob (vectorGet l1 ex1.device ex1.epoch) fun r0 =>
 some (decide (ex1.seq≤r0)))
 (some false)
def un_vectorHas (p:(List Entry)×Entry):Option Bool:=vectorHas p.1 p.2
def df_vectorHas:DFn TL:=DFn.of (DA.cons (DT.one di_lEntry) (DA.one (DT.agg dc_Entry))) un_vectorHas (DA.one dB)
theorem run_vectorHas:DRun [(232,df_vectorGet)] [] (envOf tab sl sh [(208,fd208)] [(232,.pure)]) 208 (DA.cons (DT.one di_lEntry) (DA.one (DT.agg dc_Entry))) un_vectorHas (DA.one dB):=fun _=>by kernel_rfl
theorem ok_vectorHas:DOK PR 208 .pure df_vectorHas:=dok run_vectorHas (envOK_of base (aC (st208.okl rfl aN) aN) (aC (oD ok_vectorGet rfl) aN)) (.inr rfl) st208.enters
def vectorStep (l1:List Entry)(ex1:Entry):Option ((List Entry)×Int) :=
 cond (cond (decide (ex1.device < 0)) true (cond (decide (ex1.epoch < 0)) true (decide (ex1.seq < 1))))
 (some ([],1))
 (ob (vectorHas l1 ex1) fun r0 =>
 cond (r0)
 (some ([],7))
 (ob (laid l1 [ex1]) fun r1 =>
 some (r1,0)))
def un_vectorStep (p:(List Entry)×Entry):Option ((List Entry)×Int):=vectorStep p.1 p.2
def df_vectorStep:DFn TL:=DFn.of (DA.cons (DT.one di_lEntry) (DA.one (DT.agg dc_Entry))) un_vectorStep (DA.cons (DT.one di_lEntry) (DA.one dI))
theorem run_vectorStep:DRun [(208,df_vectorHas),(209,df_laid)] [] (envOf tab sl sh [(189,fd189)] [(208,.pure),(209,(.fresh 66))]) 189 (DA.cons (DT.one di_lEntry) (DA.one (DT.agg dc_Entry))) un_vectorStep (DA.cons (DT.one di_lEntry) (DA.one dI)):=fun _=>by kernel_rfl
theorem ok_vectorStep:DOK PR 189 .keep df_vectorStep:=dok run_vectorStep (envOK_of base (aC (st189.okl rfl aN) aN) (aC (oD ok_vectorHas rfl) (aC (oD ok_laid rfl) aN))) (.inl rfl) st189.enters
def cmp_isNaNString (s1:ByteArray):Option Bool :=
 some (!sEq s1 s1)
def un_cmp_isNaNString (p:ByteArray):Option Bool:=cmp_isNaNString p
def df_cmp_isNaNString:DFn TL:=DFn.of (DA.one (DT.one DI.str)) un_cmp_isNaNString (DA.one dB)
theorem run_cmp_isNaNString:DRun [] [] (envOf tab sl sh [(242,fd242)] []) 242 (DA.one (DT.one DI.str)) un_cmp_isNaNString (DA.one dB):=fun _=>by kernel_rfl
theorem ok_cmp_isNaNString:DOK PR 242 .pure df_cmp_isNaNString:=dok run_cmp_isNaNString (envOK_of base (aC (st242.okl rfl aN) aN) aN) (.inr rfl) st242.enters
def cmpCompareString (s1:ByteArray)(s2:ByteArray):Option Int :=
 ob (cmp_isNaNString s1) fun r0 =>
 ob (cmp_isNaNString s2) fun r1 =>
 cond (r0)
 (cond (r1)
 (some 0)
 (some (-1)))
 (cond (r1)
 (some 1)
 (cond (sLt s1 s2)
 (some (-1))
 (cond (!(sLt s1 s2 || sEq s1 s2))
 (some 1)
 (some 0))))
def un_cmpCompareString (p:ByteArray×ByteArray):Option Int:=cmpCompareString p.1 p.2
def df_cmpCompareString:DFn TL:=DFn.of (DA.cons (DT.one DI.str) (DA.one (DT.one DI.str))) un_cmpCompareString (DA.one dI)
theorem run_cmpCompareString:DRun [(242,df_cmp_isNaNString)] [] (envOf tab sl sh [(217,fd217)] [(242,.pure)]) 217 (DA.cons (DT.one DI.str) (DA.one (DT.one DI.str))) un_cmpCompareString (DA.one dI):=fun _=>by kernel_rfl
theorem ok_cmpCompareString:DOK PR 217 .pure df_cmpCompareString:=dok run_cmpCompareString (envOK_of base (aC (st217.okl rfl aN) aN) (aC (oD ok_cmp_isNaNString rfl) aN)) (.inr rfl) st217.enters
def coll_dot_compare (ex1:Entry)(ex2:Entry):Option Int :=
 ob (cmpCompareInt ex1.device ex2.device) fun r0 =>
 ob (cmpCompareInt ex1.epoch ex2.epoch) fun r1 =>
 ob (cmpCompareInt ex1.seq ex2.seq) fun r2 =>
 ob (cmpOrInt [r0,r1,r2]) fun r3 =>
 some r3
def un_coll_dot_compare (p:Entry×Entry):Option Int:=coll_dot_compare p.1 p.2
def df_coll_dot_compare:DFn TL:=DFn.of (DA.cons (DT.agg dc_Entry) (DA.one (DT.agg dc_Entry))) un_coll_dot_compare (DA.one dI)
theorem run_coll_dot_compare:DRun [(239,df_cmpCompareInt),(216,df_cmpOrInt)] [] (envOf tab sl sh [(212,fd212)] [(239,.pure),(216,.pure)]) 212 (DA.cons (DT.agg dc_Entry) (DA.one (DT.agg dc_Entry))) un_coll_dot_compare (DA.one dI):=fun _=>by kernel_rfl
theorem ok_coll_dot_compare:DOK PR 212 .pure df_coll_dot_compare:=dok run_coll_dot_compare (envOK_of base (aC (st212.okl rfl aN) aN) (aC (oD ok_cmpCompareInt rfl) (aC (oD ok_cmpOrInt rfl) aN))) (.inr rfl) st212.enters
abbrev tY18:=(List Reg)×Int×Int×ByteArray
def step_L235_2 (l1:List Reg)(i1:Int)(i2:Int)(s1:ByteArray):Option ((tY18)⊕((List Reg)×Int×ByteArray)) :=
 cond (decide (i1 < i2))
 (cond (decide (0≤(w64 ((w64 (i1+i2)).tdiv 2))))
 (cond (decide ((w64 ((w64 (i1+i2)).tdiv 2)) < (l1.length:Int)))
 (ob (l1[((w64 ((w64 (i1+i2)).tdiv 2))).toNat]?) fun e0 =>
 ob (cmpCompareString e0.key s1) fun r1 =>
 some (.inl (l1,(cond (decide (r1 < 0)) (w64 ((w64 ((w64 (i1+i2)).tdiv 2))+1)) i1),(cond (decide (r1 < 0)) i2 (w64 ((w64 (i1+i2)).tdiv 2))),s1)))
 none)
 none)
 (some (.inr (l1,i1,s1)))
def stp_L235_2 (p:tY18):Option ((tY18)⊕((List Reg)×Int×ByteArray)):=step_L235_2 p.1 p.2.1 p.2.2.1 p.2.2.2
def L235_2 (l1:List Reg)(i1:Int)(i2:Int)(s1:ByteArray):Option ((List Reg)×Int×ByteArray):=iterO stp_L235_2 ((i2 - i1).toNat+2) (l1,i1,i2,s1)
def ch_L235_2:kT (tY18):=kO (kS 2 (kC (Cod.xs (Cod.sc (kA 0))) (kC (Cod.xs (Cod.sc (Cod.clo 236 [] [(1,0)]))) (kC kI (kC kI kN)))) (kC (kR 0 142 j_lReg) (kC (Cod.var 1 9 (kC kE kN)) kN))) (fun p=>(p.2.1,p.1.2.2.1,p.1.2.2.2.1,p.2.2.1.1)) (fun (x:tY18)=>(((),((),(x.2.1,(x.2.2.1,())))),(x.1,((x.2.2.2,()),())))) (fun _=>rfl)
def co0_L235_2:kT ((List Reg)×Int×ByteArray):=kO (kS 4 (kC (Cod.xs (Cod.sc (kA 0))) (kC (Cod.xs (Cod.sc (Cod.clo 236 [] [(1,0)]))) (kC kI kN))) (kC (kR 0 142 j_lReg) (kC (Cod.var 1 9 (kC kE kN)) kN))) (fun p=>(p.2.1,p.1.2.2.1,p.2.2.1.1)) (fun (x:(List Reg)×Int×ByteArray)=>(((),((),(x.2.1,()))),(x.1,((x.2.2,()),())))) (fun _=>rfl)
def sl_L235_2:SFn TL:=SFn.one ch_L235_2.dec (fun p=>L235_2 p.1 p.2.1 p.2.2.1 p.2.2.2) (.exit 0) co0_L235_2.enc
def cs_lL235_2:cL:=[(217,df_cmpCompareString)]
def v_L235_2:Env:=envOf tab sl sh [(236,fd236)] [(217,.pure)]
theorem v_L235_2_ok:EnvOK PR (mkD cs_lL235_2 sZ) v_L235_2:=envOK_of base (aC (st236.okl rfl aN) aN) (aC (oD ok_cmpCompareString rfl) aN)
theorem run_L235_2 (x:tY18):Out.run (mkO cs_lL235_2 sZ) (evRound v_L235_2 12 20 fd235.an q_L235_2 (loopIn (loopsOf fd235.body) 2) (ch_L235_2.enc x)) (back ch_L235_2 co0_L235_2 fun e=>exE e (.exit 0))=stp_L235_2 x:=by kernel_rfl
theorem ok_L235_2:LoopOK PR (oneS sl_L235_2) nt235 q_L235_2 (loopIn (loopsOf fd235.body) 2) :=
  loop_one v_L235_2_ok (loops:=12) (k:=20) (an:=fd235.an) (by kernel_rfl) (FnSt.subl rfl st235.keys (aC (.inl (by kernel_rfl)) aN)) ch_L235_2 co0_L235_2 (.exit 0) rfl stp_L235_2 _ run_L235_2 (fun x y h=>⟨_,h⟩) (fun _=>below_iff.1 rfl)
abbrev tY19:=(List Entry)×Int×Int×Entry
def step_L240_2 (l1:List Entry)(i1:Int)(i2:Int)(ex1:Entry):Option ((tY19)⊕((List Entry)×Int×Entry)) :=
 cond (decide (i1 < i2))
 (cond (decide (0≤(w64 ((w64 (i1+i2)).tdiv 2))))
 (cond (decide ((w64 ((w64 (i1+i2)).tdiv 2)) < (l1.length:Int)))
 (ob (l1[((w64 ((w64 (i1+i2)).tdiv 2))).toNat]?) fun e0 =>
 ob (coll_dot_compare e0 ex1) fun r1 =>
 some (.inl (l1,(cond (decide (r1 < 0)) (w64 ((w64 ((w64 (i1+i2)).tdiv 2))+1)) i1),(cond (decide (r1 < 0)) i2 (w64 ((w64 (i1+i2)).tdiv 2))),ex1)))
 none)
 none)
 (some (.inr (l1,i1,ex1)))
def stp_L240_2 (p:tY19):Option ((tY19)⊕((List Entry)×Int×Entry)):=step_L240_2 p.1 p.2.1 p.2.2.1 p.2.2.2
def L240_2 (l1:List Entry)(i1:Int)(i2:Int)(ex1:Entry):Option ((List Entry)×Int×Entry):=iterO stp_L240_2 ((i2 - i1).toNat+2) (l1,i1,i2,ex1)
def ch_L240_2:kT (tY19):=kO (kS 3 (kC (Cod.xs (Cod.sc (kA 0))) (kC (Cod.xs (Cod.sc (Cod.clo 241 [] [(1,0),(2,0)]))) (kC kI (kC kI kN)))) (kC (kR 0 59 j_lEntry) (kC (Cod.var 1 279 (kC (Cod.clo 212 [] []) kN)) (kC (Cod.var 2 59 (kC kJ (kC kJ (kC kJ kN)))) kN)))) (fun ((_,_,z0,z1,_),z2,_,(z3,z4,z5,_),_)=>(z2,z0,z1,(Entry.mk z3 z4 z5))) (fun (x:tY19)=>(((),((),(x.2.1,(x.2.2.1,())))),(x.1,(((),()),((x.2.2.2.device,(x.2.2.2.epoch,(x.2.2.2.seq,()))),()))))) (fun _=>rfl)
def co0_L240_2:kT ((List Entry)×Int×Entry):=kO (kS 6 (kC (Cod.xs (Cod.sc (kA 0))) (kC (Cod.xs (Cod.sc (Cod.clo 241 [] [(1,0),(2,0)]))) (kC kI kN))) (kC (kR 0 59 j_lEntry) (kC (Cod.var 1 279 (kC (Cod.clo 212 [] []) kN)) (kC (Cod.var 2 59 (kC kJ (kC kJ (kC kJ kN)))) kN)))) (fun ((_,_,z0,_),z1,_,(z2,z3,z4,_),_)=>(z1,z0,(Entry.mk z2 z3 z4))) (fun (x:(List Entry)×Int×Entry)=>(((),((),(x.2.1,()))),(x.1,(((),()),((x.2.2.device,(x.2.2.epoch,(x.2.2.seq,()))),()))))) (fun _=>rfl)
def sl_L240_2:SFn TL:=SFn.one ch_L240_2.dec (fun p=>L240_2 p.1 p.2.1 p.2.2.1 p.2.2.2) (.exit 0) co0_L240_2.enc
def cs_lL240_2:cL:=[(212,df_coll_dot_compare)]
def v_L240_2:Env:=envOf tab sl sh [(241,fd241)] [(212,.pure)]
theorem v_L240_2_ok:EnvOK PR (mkD cs_lL240_2 sZ) v_L240_2:=envOK_of base (aC (st241.okl rfl aN) aN) (aC (oD ok_coll_dot_compare rfl) aN)
theorem run_L240_2 (x:tY19):Out.run (mkO cs_lL240_2 sZ) (evRound v_L240_2 12 20 fd240.an q_L240_2 (loopIn (loopsOf fd240.body) 2) (ch_L240_2.enc x)) (back ch_L240_2 co0_L240_2 fun e=>exE e (.exit 0))=stp_L240_2 x:=by kernel_rfl
theorem ok_L240_2:LoopOK PR (oneS sl_L240_2) nt240 q_L240_2 (loopIn (loopsOf fd240.body) 2) :=
  loop_one v_L240_2_ok (loops:=12) (k:=20) (an:=fd240.an) (by kernel_rfl) (FnSt.subl rfl st240.keys (aC (.inl (by kernel_rfl)) aN)) ch_L240_2 co0_L240_2 (.exit 0) rfl stp_L240_2 _ run_L240_2 (fun x y h=>⟨_,h⟩) (fun _=>below_iff.1 rfl)
abbrev tY20:=(List Elem)×Int×Int×Op
def step_L214_2 (l1:List Elem)(i1:Int)(i2:Int)(o1:Op):Option ((tY20)⊕((List Elem)×Int×Op)) :=
 cond (decide (i1 < i2))
 (cond (decide (0≤(w64 ((w64 (i1+i2)).tdiv 2))))
 (cond (decide ((w64 ((w64 (i1+i2)).tdiv 2)) < (l1.length:Int)))
 (ob (l1[((w64 ((w64 (i1+i2)).tdiv 2))).toNat]?) fun e0 =>
 ob (cmpCompareString e0.key o1.key) fun r1 =>
 ob (cmpCompareString e0.text o1.text) fun r2 =>
 ob (coll_dot_compare e0.dot o1.dot) fun r3 =>
 ob (cmpOrInt [r1,r2,r3]) fun r4 =>
 some (.inl (l1,(cond (decide (r4 < 0)) (w64 ((w64 ((w64 (i1+i2)).tdiv 2))+1)) i1),(cond (decide (r4 < 0)) i2 (w64 ((w64 (i1+i2)).tdiv 2))),o1)))
 none)
 none)
 (some (.inr (l1,i1,o1)))
def stp_L214_2 (p:tY20):Option ((tY20)⊕((List Elem)×Int×Op)):=step_L214_2 p.1 p.2.1 p.2.2.1 p.2.2.2
def L214_2 (l1:List Elem)(i1:Int)(i2:Int)(o1:Op):Option ((List Elem)×Int×Op):=iterO stp_L214_2 ((i2 - i1).toNat+2) (l1,i1,i2,o1)
def ch_L214_2:kT (tY20):=kO (kS 2 (kC (Cod.xs (Cod.sc (kA 0))) (kC (Cod.xs (Cod.sc (Cod.clo 215 [] [(1,0)]))) (kC kI (kC kI kN)))) (kC (kR 0 145 j_lElem) (kC (Cod.var 1 61 cc_Op) kN))) (fun p=>(p.2.1,p.1.2.2.1,p.1.2.2.2.1,p.2.2.1)) (fun (x:tY20)=>(((),((),(x.2.1,(x.2.2.1,())))),(x.1,(x.2.2.2,())))) (fun _=>rfl)
def co0_L214_2:kT ((List Elem)×Int×Op):=kO (kS 4 (kC (Cod.xs (Cod.sc (kA 0))) (kC (Cod.xs (Cod.sc (Cod.clo 215 [] [(1,0)]))) (kC kI kN))) (kC (kR 0 145 j_lElem) (kC (Cod.var 1 61 cc_Op) kN))) (fun p=>(p.2.1,p.1.2.2.1,p.2.2.1)) (fun (x:(List Elem)×Int×Op)=>(((),((),(x.2.1,()))),(x.1,(x.2.2,())))) (fun _=>rfl)
def sl_L214_2:SFn TL:=SFn.one ch_L214_2.dec (fun p=>L214_2 p.1 p.2.1 p.2.2.1 p.2.2.2) (.exit 0) co0_L214_2.enc
def cs_lL214_2:cL:=[(217,df_cmpCompareString),(212,df_coll_dot_compare),(216,df_cmpOrInt)]
def v_L214_2:Env:=envOf tab sl sh [(215,fd215)] [(217,.pure),(212,.pure),(216,.pure)]
theorem v_L214_2_ok:EnvOK PR (mkD cs_lL214_2 sZ) v_L214_2:=envOK_of base (aC (st215.okl rfl aN) aN) (aC (oD ok_cmpCompareString rfl) (aC (oD ok_coll_dot_compare rfl) (aC (oD ok_cmpOrInt rfl) aN)))
theorem run_L214_2 (x:tY20):Out.run (mkO cs_lL214_2 sZ) (evRound v_L214_2 12 20 fd214.an q_L214_2 (loopIn (loopsOf fd214.body) 2) (ch_L214_2.enc x)) (back ch_L214_2 co0_L214_2 fun e=>exE e (.exit 0))=stp_L214_2 x:=by kernel_rfl
theorem ok_L214_2:LoopOK PR (oneS sl_L214_2) nt214 q_L214_2 (loopIn (loopsOf fd214.body) 2) :=
  loop_one v_L214_2_ok (loops:=12) (k:=20) (an:=fd214.an) (by kernel_rfl) (FnSt.subl rfl st214.keys (aC (.inl (by kernel_rfl)) aN)) ch_L214_2 co0_L214_2 (.exit 0) rfl stp_L214_2 _ run_L214_2 (fun x y h=>⟨_,h⟩) (fun _=>below_iff.1 rfl)
abbrev tY21:=(List Elem)×Int×Int×Entry
def step_L220_5 (l1:List Elem)(i1:Int)(i2:Int)(ex1:Entry):Option ((tY21)⊕((List Elem)×Int×Entry)) :=
 cond (decide (i2 < (l1.length:Int)))
 (cond (decide (0≤i2))
 (cond (decide (i2 < (l1.length:Int)))
 (ob (l1[i2.toNat]?) fun e0 =>
 cond (!(cond (e0.dot.device == ex1.device) (cond (e0.dot.epoch == ex1.epoch) (cond (e0.dot.seq == ex1.seq) true false) false) false))
 (cond (decide (0≤i1))
 (cond (decide (i1 < (l1.length:Int)))
 (ob (l1[i1.toNat]?) fun _ =>
 some (.inl ((l1.set i1.toNat e0),(w64 (i1+1)),(w64 (i2+1)),ex1)))
 none)
 none)
 (some (.inl (l1,i1,(w64 (i2+1)),ex1))))
 none)
 none)
 (some (.inr (l1,i1,ex1)))
def stp_L220_5 (p:tY21):Option ((tY21)⊕((List Elem)×Int×Entry)):=step_L220_5 p.1 p.2.1 p.2.2.1 p.2.2.2
def L220_5 (l1:List Elem)(i1:Int)(i2:Int)(ex1:Entry):Option ((List Elem)×Int×Entry):=iterO stp_L220_5 (((l1.length:Int) - i2).toNat+2) (l1,i1,i2,ex1)
def ch_L220_5:kT (tY21):=kO (kS 2 (kC (Cod.xs (Cod.sc (kA 0))) (kC (Cod.xs (Cod.sc (Cod.clo 221 [] [(1,0)]))) (kC kI (kC kI kN)))) (kC (kR 0 145 j_lElem) (kC (Cod.var 1 59 (kC kJ (kC kJ (kC kJ kN)))) kN))) (fun ((_,_,z0,z1,_),z2,(z3,z4,z5,_),_)=>(z2,z0,z1,(Entry.mk z3 z4 z5))) (fun (x:tY21)=>(((),((),(x.2.1,(x.2.2.1,())))),(x.1,((x.2.2.2.device,(x.2.2.2.epoch,(x.2.2.2.seq,()))),())))) (fun _=>rfl)
def co0_L220_5:kT ((List Elem)×Int×Entry):=kO (kS 4 (kC (Cod.xs (Cod.sc (kA 0))) (kC kI kN)) (kC (kR 0 145 j_lElem) (kC (Cod.var 1 59 (kC kJ (kC kJ (kC kJ kN)))) kN))) (fun p=>(p.2.1,p.1.2.1,(Entry.mk p.2.2.1.1 p.2.2.1.2.1 p.2.2.1.2.2.1))) (fun (x:(List Elem)×Int×Entry)=>(((),(x.2.1,())),(x.1,((x.2.2.device,(x.2.2.epoch,(x.2.2.seq,()))),())))) (fun _=>rfl)
def sl_L220_5:SFn TL:=SFn.one ch_L220_5.dec (fun p=>L220_5 p.1 p.2.1 p.2.2.1 p.2.2.2) (.exit 0) co0_L220_5.enc
def v_L220_5:Env:=envOf tab sl sh [(221,fd221)] []
theorem v_L220_5_ok:EnvOK PR (mkD cZ sZ) v_L220_5:=envOK_of base (aC (st221.okl rfl aN) aN) aN
theorem run_L220_5 (x:tY21):Out.run (mkO cZ sZ) (evRound v_L220_5 12 20 fd220.an q_L220_5 (loopIn (loopsOf fd220.body) 5) (ch_L220_5.enc x)) (back ch_L220_5 co0_L220_5 fun e=>exE e (.exit 0))=stp_L220_5 x:=by kernel_rfl
theorem ok_L220_5:LoopOK PR (oneS sl_L220_5) nt220 q_L220_5 (loopIn (loopsOf fd220.body) 5) :=
  loop_one v_L220_5_ok (loops:=12) (k:=20) (an:=fd220.an) (by kernel_rfl) (FnSt.subl rfl st220.keys (aC (.inl (by kernel_rfl)) aN)) ch_L220_5 co0_L220_5 (.exit 0) rfl stp_L220_5 _ run_L220_5 (fun x y h=>⟨_,h⟩) (fun _=>below_iff.1 rfl)
abbrev tY22:=(List Elem)×Int×Int×Int×Entry
def step_L247_2 (l1:List Elem)(i1:Int)(i2:Int)(i3:Int)(ex1:Entry):Option ((tY22)⊕(((Int×Entry×(List Elem))⊕(Int×Entry×(List Elem))))) :=
 cond (decide (i3 < i2))
 (cond (decide (0≤i3))
 (cond (decide (i3 < (l1.length:Int)))
 (ob (l1[i3.toNat]?) fun e0 =>
 cond (cond (e0.dot.device == ex1.device) (cond (e0.dot.epoch == ex1.epoch) (cond (e0.dot.seq == ex1.seq) true false) false) false)
 (some (.inr (.inr (i3,ex1,l1))))
 (some (.inl (l1,i1,i2,(w64 (i3+1)),ex1))))
 none)
 none)
 (some (.inr (.inl (i1,ex1,l1))))
def stp_L247_2 (p:tY22):Option ((tY22)⊕(((Int×Entry×(List Elem))⊕(Int×Entry×(List Elem))))):=step_L247_2 p.1 p.2.1 p.2.2.1 p.2.2.2.1 p.2.2.2.2
def L247_2 (l1:List Elem)(i1:Int)(i2:Int)(i3:Int)(ex1:Entry):Option (((Int×Entry×(List Elem))⊕(Int×Entry×(List Elem)))):=iterO stp_L247_2 ((i2 - i3).toNat+2) (l1,i1,i2,i3,ex1)
def ch_L247_2:kT (tY22):=kO (kS 2 (kC (Cod.xs (Cod.sc (kA 0))) (kC (Cod.xs (Cod.sc (Cod.clo 221 [] [(1,0)]))) (kC kI (kC kI (kC kI kN))))) (kC (kR 0 145 j_lElem) (kC (Cod.var 1 59 (kC kJ (kC kJ (kC kJ kN)))) kN))) (fun ((_,_,z0,z1,z2,_),z3,(z4,z5,z6,_),_)=>(z3,z0,z1,z2,(Entry.mk z4 z5 z6))) (fun (x:tY22)=>(((),((),(x.2.1,(x.2.2.1,(x.2.2.2.1,()))))),(x.1,((x.2.2.2.2.device,(x.2.2.2.2.epoch,(x.2.2.2.2.seq,()))),())))) (fun _=>rfl)
def co0_L247_2:kT (Int×Entry×(List Elem)):=kO (kS 4 (kC kI kN) (kC (kR 0 145 j_lElem) (kC (Cod.var 1 59 (kC kJ (kC kJ (kC kJ kN)))) kN))) (fun ((z0,_),z1,(z2,z3,z4,_),_)=>(z0,(Entry.mk z2 z3 z4),z1)) (fun (x:Int×Entry×(List Elem))=>((x.1,()),(x.2.2,((x.2.1.device,(x.2.1.epoch,(x.2.1.seq,()))),())))) (fun _=>rfl)
def sl_L247_2:SFn TL:=SFn.two ch_L247_2.dec (fun p=>L247_2 p.1 p.2.1 p.2.2.1 p.2.2.2.1 p.2.2.2.2) (.exit 0) .ret co0_L247_2.enc co0_L247_2.enc
def v_L247_2:Env:=envOf tab sl sh [(221,fd221)] []
theorem v_L247_2_ok:EnvOK PR (mkD cZ sZ) v_L247_2:=envOK_of base (aC (st221.okl rfl aN) aN) aN
theorem run_L247_2 (x:tY22):Out.run (mkO cZ sZ) (evRound v_L247_2 12 20 fd247.an q_L247_2 (loopIn (loopsOf fd247.body) 2) (ch_L247_2.enc x)) (back2 ch_L247_2 co0_L247_2 co0_L247_2 (.exit 0) .ret)=stp_L247_2 x:=by kernel_rfl
theorem ok_L247_2:LoopOK PR (oneS sl_L247_2) nt247 q_L247_2 (loopIn (loopsOf fd247.body) 2) :=
  loop_two v_L247_2_ok (loops:=12) (k:=20) (an:=fd247.an) (by kernel_rfl) (FnSt.subl rfl st247.keys (aC (.inl (by kernel_rfl)) aN)) ch_L247_2 co0_L247_2 co0_L247_2 (.exit 0) .ret rfl rfl stp_L247_2 _ run_L247_2 (fun x y h=>⟨_,h⟩) (fun _=>below_iff.1 rfl)
abbrev tY23:=(List Entry)×Int×Int×Coll×Coll
def step_L192_2 (l1:List Entry)(i1:Int)(i2:Int)(c1:Coll)(c2:Coll):Option ((tY23)⊕(Coll×Coll)) :=
 cond (decide (i2 < i1))
 (cond (decide (0≤i2))
 (ob (l1[i2.toNat]?) fun e0 =>
 ob (L240_2 c1.gone 0 (c1.gone.length:Int) e0) fun y1 =>
 cond (decide (y1.2.1 < (y1.1.length:Int)))
 (cond (decide (0≤y1.2.1))
 (cond (decide (y1.2.1 < (y1.1.length:Int)))
 (ob (y1.1[y1.2.1.toNat]?) fun e2 =>
 ob (coll_dot_compare e2 y1.2.2) fun r3 =>
 cond (!(r3 == 0))
 (cond (decide (0≤y1.2.1))
 (cond (decide (y1.2.1≤(y1.1.length:Int)))
 (cond (fits ((((y1.1.take y1.2.1.toNat)++[e0])++((y1.1.take y1.1.length).drop y1.2.1.toNat)).length))
 (ob (L247_2 c1.elems 0 (c1.elems.length:Int) 0 e0) fun y4 =>
 two y4 (fun a5 =>
 some (.inl (l1,i1,(w64 (i2+1)),(Coll.mk c1.v c1.regs a5.2.2 (((y1.1.take y1.2.1.toNat)++[e0])++((y1.1.take y1.1.length).drop y1.2.1.toNat)) c1.sums c1.binds),c2))) (fun b6 =>
 cond (b6.1 == (-1))
 (some (.inl (l1,i1,(w64 (i2+1)),(Coll.mk c1.v c1.regs b6.2.2 (((y1.1.take y1.2.1.toNat)++[e0])++((y1.1.take y1.1.length).drop y1.2.1.toNat)) c1.sums c1.binds),c2)))
 (ob (L220_5 b6.2.2 b6.1 (w64 (b6.1+1)) b6.2.1) fun y7 =>
 cond (decide (0≤y7.2.1))
 (cond (decide (y7.2.1≤(y7.1.length:Int)))
 (cond (decide ((y7.1.length:Int)≤(y7.1.length:Int)))
 (cond (decide (0≤y7.2.1))
 (cond (decide (y7.2.1≤((((y7.1.take y7.2.1.toNat)++(List.replicate (((y7.1.length:Int)).toNat - y7.2.1.toNat) (Elem.mk s_empty s_empty 0 (Entry.mk 0 0 0))))++((y7.1.take y7.1.length).drop (y7.2.1.toNat+(((y7.1.length:Int)).toNat - y7.2.1.toNat)))).length:Int)))
 (some (.inl (l1,i1,(w64 (i2+1)),(Coll.mk c1.v c1.regs ((((y7.1.take y7.2.1.toNat)++(List.replicate (((y7.1.length:Int)).toNat - y7.2.1.toNat) (Elem.mk s_empty s_empty 0 (Entry.mk 0 0 0))))++((y7.1.take y7.1.length).drop (y7.2.1.toNat+(((y7.1.length:Int)).toNat - y7.2.1.toNat)))).take y7.2.1.toNat) (((y1.1.take y1.2.1.toNat)++[e0])++((y1.1.take y1.1.length).drop y1.2.1.toNat)) c1.sums c1.binds),c2)))
 none)
 none)
 none)
 none)
 none)))
 none)
 none)
 none)
 (ob (L247_2 c1.elems 0 (c1.elems.length:Int) 0 e0) fun y8 =>
 two y8 (fun a9 =>
 some (.inl (l1,i1,(w64 (i2+1)),(Coll.mk c1.v c1.regs a9.2.2 y1.1 c1.sums c1.binds),c2))) (fun b10 =>
 cond (b10.1 == (-1))
 (some (.inl (l1,i1,(w64 (i2+1)),(Coll.mk c1.v c1.regs b10.2.2 y1.1 c1.sums c1.binds),c2)))
 (ob (L220_5 b10.2.2 b10.1 (w64 (b10.1+1)) b10.2.1) fun y11 =>
 cond (decide (0≤y11.2.1))
 (cond (decide (y11.2.1≤(y11.1.length:Int)))
 (cond (decide ((y11.1.length:Int)≤(y11.1.length:Int)))
 (cond (decide (0≤y11.2.1))
 (cond (decide (y11.2.1≤((((y11.1.take y11.2.1.toNat)++(List.replicate (((y11.1.length:Int)).toNat - y11.2.1.toNat) (Elem.mk s_empty s_empty 0 (Entry.mk 0 0 0))))++((y11.1.take y11.1.length).drop (y11.2.1.toNat+(((y11.1.length:Int)).toNat - y11.2.1.toNat)))).length:Int)))
 (some (.inl (l1,i1,(w64 (i2+1)),(Coll.mk c1.v c1.regs ((((y11.1.take y11.2.1.toNat)++(List.replicate (((y11.1.length:Int)).toNat - y11.2.1.toNat) (Elem.mk s_empty s_empty 0 (Entry.mk 0 0 0))))++((y11.1.take y11.1.length).drop (y11.2.1.toNat+(((y11.1.length:Int)).toNat - y11.2.1.toNat)))).take y11.2.1.toNat) y1.1 c1.sums c1.binds),c2)))
 none)
 none)
 none)
 none)
 none))))
 none)
 none)
 (cond (decide (0≤y1.2.1))
 (cond (decide (y1.2.1≤(y1.1.length:Int)))
 (cond (fits ((((y1.1.take y1.2.1.toNat)++[e0])++((y1.1.take y1.1.length).drop y1.2.1.toNat)).length))
 (ob (L247_2 c1.elems 0 (c1.elems.length:Int) 0 e0) fun y12 =>
 two y12 (fun a13 =>
 some (.inl (l1,i1,(w64 (i2+1)),(Coll.mk c1.v c1.regs a13.2.2 (((y1.1.take y1.2.1.toNat)++[e0])++((y1.1.take y1.1.length).drop y1.2.1.toNat)) c1.sums c1.binds),c2))) (fun b14 =>
 cond (b14.1 == (-1))
 (some (.inl (l1,i1,(w64 (i2+1)),(Coll.mk c1.v c1.regs b14.2.2 (((y1.1.take y1.2.1.toNat)++[e0])++((y1.1.take y1.1.length).drop y1.2.1.toNat)) c1.sums c1.binds),c2)))
 (ob (L220_5 b14.2.2 b14.1 (w64 (b14.1+1)) b14.2.1) fun y15 =>
 cond (decide (0≤y15.2.1))
 (cond (decide (y15.2.1≤(y15.1.length:Int)))
 (cond (decide ((y15.1.length:Int)≤(y15.1.length:Int)))
 (cond (decide (0≤y15.2.1))
 (cond (decide (y15.2.1≤((((y15.1.take y15.2.1.toNat)++(List.replicate (((y15.1.length:Int)).toNat - y15.2.1.toNat) (Elem.mk s_empty s_empty 0 (Entry.mk 0 0 0))))++((y15.1.take y15.1.length).drop (y15.2.1.toNat+(((y15.1.length:Int)).toNat - y15.2.1.toNat)))).length:Int)))
 (some (.inl (l1,i1,(w64 (i2+1)),(Coll.mk c1.v c1.regs ((((y15.1.take y15.2.1.toNat)++(List.replicate (((y15.1.length:Int)).toNat - y15.2.1.toNat) (Elem.mk s_empty s_empty 0 (Entry.mk 0 0 0))))++((y15.1.take y15.1.length).drop (y15.2.1.toNat+(((y15.1.length:Int)).toNat - y15.2.1.toNat)))).take y15.2.1.toNat) (((y1.1.take y1.2.1.toNat)++[e0])++((y1.1.take y1.1.length).drop y1.2.1.toNat)) c1.sums c1.binds),c2)))
 none)
 none)
 none)
 none)
 none)))
 none)
 none)
 none))
 none)
 (some (.inr (c1,c2)))
def stp_L192_2 (p:tY23):Option ((tY23)⊕(Coll×Coll)):=step_L192_2 p.1 p.2.1 p.2.2.1 p.2.2.2.1 p.2.2.2.2
def L192_2 (l1:List Entry)(i1:Int)(i2:Int)(c1:Coll)(c2:Coll):Option (Coll×Coll):=iterO stp_L192_2 ((i1 - i2).toNat+2) (l1,i1,i2,c1,c2)
def ch_L192_2:kT (tY23):=kO (kS 13 (kC (kP 0 0) (kC (kP 1 0) (kC (kF j_lEntry) (kC kI (kC kI kN))))) (kC (Cod.var 0 37 (kC (kG j_lEntry) (kC (kA 2) (kC (kA 3) (kC (kA 4) (kC (kA 5) (kC (kA 6) kN))))))) (kC (Cod.var 1 37 (kC (kA 7) (kC (kA 8) (kC (kA 9) (kC (kA 10) (kC (kA 11) (kC (kA 12) kN))))))) (kC (kR 2 142 j_lReg) (kC (kR 3 145 j_lElem) (kC (kR 4 59 j_lEntry) (kC (kR 5 129 j_lSum) (kC (kR 6 149 j_lBind) (kC (kR 7 66 j_lEntry) (kC (kR 8 142 j_lReg) (kC (kR 9 145 j_lElem) (kC (kR 10 59 j_lEntry) (kC (kR 11 129 j_lSum) (kC (kR 12 149 j_lBind) kN)))))))))))))) (fun p=>(p.1.2.2.1,p.1.2.2.2.1,p.1.2.2.2.2.1,(Coll.mk p.2.1.1 p.2.2.2.1 p.2.2.2.2.1 p.2.2.2.2.2.1 p.2.2.2.2.2.2.1 p.2.2.2.2.2.2.2.1),(Coll.mk p.2.2.2.2.2.2.2.2.1 (t8 p.2).1 (t8 p.2).2.1 (t8 p.2).2.2.1 (t8 p.2).2.2.2.1 (t8 p.2).2.2.2.2.1))) (fun (x:tY23)=>(((),((),(x.1,(x.2.1,(x.2.2.1,()))))),((x.2.2.2.1.v,((),((),((),((),((),())))))),(((),((),((),((),((),((),())))))),(x.2.2.2.1.regs,(x.2.2.2.1.elems,(x.2.2.2.1.gone,(x.2.2.2.1.sums,(x.2.2.2.1.binds,(x.2.2.2.2.v,(x.2.2.2.2.regs,(x.2.2.2.2.elems,(x.2.2.2.2.gone,(x.2.2.2.2.sums,(x.2.2.2.2.binds,()))))))))))))))) (fun _=>rfl)
def co0_L192_2:kT (Coll×Coll):=kO (kS 26 (kC (kP 0 0) (kC (kP 1 0) kN)) (kC (Cod.var 0 37 (kC (kG j_lEntry) (kC (kA 2) (kC (kA 24) (kC (kA 25) (kC (kA 5) (kC (kA 6) kN))))))) (kC (Cod.var 1 37 (kC (kA 7) (kC (kA 8) (kC (kA 9) (kC (kA 10) (kC (kA 11) (kC (kA 12) kN))))))) (kC (kR 2 142 j_lReg) (kC (kR 5 129 j_lSum) (kC (kR 6 149 j_lBind) (kC (kR 7 66 j_lEntry) (kC (kR 8 142 j_lReg) (kC (kR 9 145 j_lElem) (kC (kR 10 59 j_lEntry) (kC (kR 11 129 j_lSum) (kC (kR 12 149 j_lBind) (kC (kR 24 145 j_lElem) (kC (kR 25 59 j_lEntry) kN)))))))))))))) (fun p=>((Coll.mk p.2.1.1 p.2.2.2.1 (t8 p.2).2.2.2.1 (t8 p.2).2.2.2.2.1 p.2.2.2.2.1 p.2.2.2.2.2.1),(Coll.mk p.2.2.2.2.2.2.1 p.2.2.2.2.2.2.2.1 p.2.2.2.2.2.2.2.2.1 (t8 p.2).1 (t8 p.2).2.1 (t8 p.2).2.2.1))) (fun (x:Coll×Coll)=>(((),((),())),((x.1.v,((),((),((),((),((),())))))),(((),((),((),((),((),((),())))))),(x.1.regs,(x.1.sums,(x.1.binds,(x.2.v,(x.2.regs,(x.2.elems,(x.2.gone,(x.2.sums,(x.2.binds,(x.1.elems,(x.1.gone,()))))))))))))))) (fun _=>rfl)
def sl_L192_2:SFn TL:=SFn.one ch_L192_2.dec (fun p=>L192_2 p.1 p.2.1 p.2.2.1 p.2.2.2.1 p.2.2.2.2) (.exit 0) co0_L192_2.enc
def cs_lL192_2:cL:=[(212,df_coll_dot_compare)]
def ss_lL192_2:sL:=[(340002,sl_L240_2),(320005,sl_L220_5),(347002,sl_L247_2)]
def v_L192_2:Env:=envOf tab sl sh [(213,fd213),(240,fd240),(241,fd241),(220,fd220),(247,fd247)] [(212,.pure),(219,(.ins 59))]
theorem v_L192_2_ok:EnvOK PR (mkD cs_lL192_2 ss_lL192_2) v_L192_2:=envOK_of base (aC (st213.okl rfl aN) (aC (st240.okl rfl (aC (lC ok_L240_2 rfl) aN)) (aC (st241.okl rfl aN) (aC (st220.okl rfl (aC (lC ok_L220_5 rfl) aN)) (aC (st247.okl rfl (aC (lC ok_L247_2 rfl) aN)) aN))))) (aC (oD ok_coll_dot_compare rfl) (aC (okIns okI_219) aN))
theorem run_L192_2 (x:tY23):Out.run (mkO cs_lL192_2 ss_lL192_2) (evRound v_L192_2 12 20 fd192.an q_L192_2 (loopIn (loopsOf fd192.body) 2) (ch_L192_2.enc x)) (back ch_L192_2 co0_L192_2 fun e=>exE e (.exit 0))=stp_L192_2 x:=by kernel_rfl
theorem ok_L192_2:LoopOK PR (oneS sl_L192_2) nt192 q_L192_2 (loopIn (loopsOf fd192.body) 2) :=
  loop_one v_L192_2_ok (loops:=12) (k:=20) (an:=fd192.an) (by kernel_rfl) (FnSt.subl rfl st192.keys (aC (.inl (by kernel_rfl)) aN)) ch_L192_2 co0_L192_2 (.exit 0) rfl stp_L192_2 _ run_L192_2 (fun x y h=>⟨_,h⟩) (fun _=>below_iff.1 rfl)
abbrev tY24:=(List Sum)×Int×Int×ByteArray
def step_L248_2 (l1:List Sum)(i1:Int)(i2:Int)(s1:ByteArray):Option ((tY24)⊕((List Sum)×Int×ByteArray)) :=
 cond (decide (i1 < i2))
 (cond (decide (0≤(w64 ((w64 (i1+i2)).tdiv 2))))
 (cond (decide ((w64 ((w64 (i1+i2)).tdiv 2)) < (l1.length:Int)))
 (ob (l1[((w64 ((w64 (i1+i2)).tdiv 2))).toNat]?) fun e0 =>
 ob (cmpCompareString e0.key s1) fun r1 =>
 some (.inl (l1,(cond (decide (r1 < 0)) (w64 ((w64 ((w64 (i1+i2)).tdiv 2))+1)) i1),(cond (decide (r1 < 0)) i2 (w64 ((w64 (i1+i2)).tdiv 2))),s1)))
 none)
 none)
 (some (.inr (l1,i1,s1)))
def stp_L248_2 (p:tY24):Option ((tY24)⊕((List Sum)×Int×ByteArray)):=step_L248_2 p.1 p.2.1 p.2.2.1 p.2.2.2
def L248_2 (l1:List Sum)(i1:Int)(i2:Int)(s1:ByteArray):Option ((List Sum)×Int×ByteArray):=iterO stp_L248_2 ((i2 - i1).toNat+2) (l1,i1,i2,s1)
def ch_L248_2:kT (tY24):=kO (kS 2 (kC (Cod.xs (Cod.sc (kA 0))) (kC (Cod.xs (Cod.sc (Cod.clo 249 [] [(1,0)]))) (kC kI (kC kI kN)))) (kC (kR 0 129 j_lSum) (kC (Cod.var 1 9 (kC kE kN)) kN))) (fun p=>(p.2.1,p.1.2.2.1,p.1.2.2.2.1,p.2.2.1.1)) (fun (x:tY24)=>(((),((),(x.2.1,(x.2.2.1,())))),(x.1,((x.2.2.2,()),())))) (fun _=>rfl)
def co0_L248_2:kT ((List Sum)×Int×ByteArray):=kO (kS 4 (kC (Cod.xs (Cod.sc (kA 0))) (kC (Cod.xs (Cod.sc (Cod.clo 249 [] [(1,0)]))) (kC kI kN))) (kC (kR 0 129 j_lSum) (kC (Cod.var 1 9 (kC kE kN)) kN))) (fun p=>(p.2.1,p.1.2.2.1,p.2.2.1.1)) (fun (x:(List Sum)×Int×ByteArray)=>(((),((),(x.2.1,()))),(x.1,((x.2.2,()),())))) (fun _=>rfl)
def sl_L248_2:SFn TL:=SFn.one ch_L248_2.dec (fun p=>L248_2 p.1 p.2.1 p.2.2.1 p.2.2.2) (.exit 0) co0_L248_2.enc
def cs_lL248_2:cL:=[(217,df_cmpCompareString)]
def v_L248_2:Env:=envOf tab sl sh [(249,fd249)] [(217,.pure)]
theorem v_L248_2_ok:EnvOK PR (mkD cs_lL248_2 sZ) v_L248_2:=envOK_of base (aC (st249.okl rfl aN) aN) (aC (oD ok_cmpCompareString rfl) aN)
theorem run_L248_2 (x:tY24):Out.run (mkO cs_lL248_2 sZ) (evRound v_L248_2 12 20 fd248.an q_L248_2 (loopIn (loopsOf fd248.body) 2) (ch_L248_2.enc x)) (back ch_L248_2 co0_L248_2 fun e=>exE e (.exit 0))=stp_L248_2 x:=by kernel_rfl
theorem ok_L248_2:LoopOK PR (oneS sl_L248_2) nt248 q_L248_2 (loopIn (loopsOf fd248.body) 2) :=
  loop_one v_L248_2_ok (loops:=12) (k:=20) (an:=fd248.an) (by kernel_rfl) (FnSt.subl rfl st248.keys (aC (.inl (by kernel_rfl)) aN)) ch_L248_2 co0_L248_2 (.exit 0) rfl stp_L248_2 _ run_L248_2 (fun x y h=>⟨_,h⟩) (fun _=>below_iff.1 rfl)
abbrev tY25:=(List Bind)×Int×Int×Int
def step_L252_2 (l1:List Bind)(i1:Int)(i2:Int)(i3:Int):Option ((tY25)⊕((List Bind)×Int×Int)) :=
 cond (decide (i1 < i2))
 (cond (decide (0≤(w64 ((w64 (i1+i2)).tdiv 2))))
 (cond (decide ((w64 ((w64 (i1+i2)).tdiv 2)) < (l1.length:Int)))
 (ob (l1[((w64 ((w64 (i1+i2)).tdiv 2))).toNat]?) fun e0 =>
 ob (cmpCompareInt e0.id_ i3) fun r1 =>
 some (.inl (l1,(cond (decide (r1 < 0)) (w64 ((w64 ((w64 (i1+i2)).tdiv 2))+1)) i1),(cond (decide (r1 < 0)) i2 (w64 ((w64 (i1+i2)).tdiv 2))),i3)))
 none)
 none)
 (some (.inr (l1,i1,i3)))
def stp_L252_2 (p:tY25):Option ((tY25)⊕((List Bind)×Int×Int)):=step_L252_2 p.1 p.2.1 p.2.2.1 p.2.2.2
def L252_2 (l1:List Bind)(i1:Int)(i2:Int)(i3:Int):Option ((List Bind)×Int×Int):=iterO stp_L252_2 ((i2 - i1).toNat+2) (l1,i1,i2,i3)
def ch_L252_2:kT (tY25):=kO (kS 2 (kC (Cod.xs (Cod.sc (kA 0))) (kC (Cod.xs (Cod.sc (Cod.clo 253 [] [(1,0)]))) (kC kI (kC kI kN)))) (kC (kR 0 149 j_lBind) (kC (Cod.var 1 3 (kC kJ kN)) kN))) (fun p=>(p.2.1,p.1.2.2.1,p.1.2.2.2.1,p.2.2.1.1)) (fun (x:tY25)=>(((),((),(x.2.1,(x.2.2.1,())))),(x.1,((x.2.2.2,()),())))) (fun _=>rfl)
def co0_L252_2:kT ((List Bind)×Int×Int):=kO (kS 4 (kC (Cod.xs (Cod.sc (kA 0))) (kC (Cod.xs (Cod.sc (Cod.clo 253 [] [(1,0)]))) (kC kI kN))) (kC (kR 0 149 j_lBind) (kC (Cod.var 1 3 (kC kJ kN)) kN))) (fun p=>(p.2.1,p.1.2.2.1,p.2.2.1.1)) (fun (x:(List Bind)×Int×Int)=>(((),((),(x.2.1,()))),(x.1,((x.2.2,()),())))) (fun _=>rfl)
def sl_L252_2:SFn TL:=SFn.one ch_L252_2.dec (fun p=>L252_2 p.1 p.2.1 p.2.2.1 p.2.2.2) (.exit 0) co0_L252_2.enc
def cs_lL252_2:cL:=[(239,df_cmpCompareInt)]
def v_L252_2:Env:=envOf tab sl sh [(253,fd253)] [(239,.pure)]
theorem v_L252_2_ok:EnvOK PR (mkD cs_lL252_2 sZ) v_L252_2:=envOK_of base (aC (st253.okl rfl aN) aN) (aC (oD ok_cmpCompareInt rfl) aN)
theorem run_L252_2 (x:tY25):Out.run (mkO cs_lL252_2 sZ) (evRound v_L252_2 12 20 fd252.an q_L252_2 (loopIn (loopsOf fd252.body) 2) (ch_L252_2.enc x)) (back ch_L252_2 co0_L252_2 fun e=>exE e (.exit 0))=stp_L252_2 x:=by kernel_rfl
theorem ok_L252_2:LoopOK PR (oneS sl_L252_2) nt252 q_L252_2 (loopIn (loopsOf fd252.body) 2) :=
  loop_one v_L252_2_ok (loops:=12) (k:=20) (an:=fd252.an) (by kernel_rfl) (FnSt.subl rfl st252.keys (aC (.inl (by kernel_rfl)) aN)) ch_L252_2 co0_L252_2 (.exit 0) rfl stp_L252_2 _ run_L252_2 (fun x y h=>⟨_,h⟩) (fun _=>below_iff.1 rfl)
def collApply (c1:Coll)(o1:Op):Option (Coll×Int) :=
 ob (collOwn c1) fun y0 =>
 ob (opsCheck o1) fun r1 =>
 cond (r1 != 0)
 (some (y0,r1))
 (ob (vectorStep y0.v o1.dot) fun r2 =>
 cond (r2.2 != 0)
 (some (y0,r2.2))
 (cond (o1.kind == 1)
 (ob (L235_2 y0.regs 0 (y0.regs.length:Int) o1.key) fun y3 =>
 cond (decide (y3.2.1 < (y3.1.length:Int)))
 (cond (decide (0≤y3.2.1))
 (cond (decide (y3.2.1 < (y3.1.length:Int)))
 (ob (y3.1[y3.2.1.toNat]?) fun e4 =>
 ob (cmpCompareString e4.key y3.2.2) fun r5 =>
 cond (!(r5 == 0))
 (cond (decide (0≤y3.2.1))
 (cond (decide (y3.2.1≤(y3.1.length:Int)))
 (cond (fits ((((y3.1.take y3.2.1.toNat)++[(Reg.mk o1.key o1.text o1.ver o1.time o1.dot)])++((y3.1.take y3.1.length).drop y3.2.1.toNat)).length))
 (ob (collOwn (Coll.mk r2.1 (((y3.1.take y3.2.1.toNat)++[(Reg.mk o1.key o1.text o1.ver o1.time o1.dot)])++((y3.1.take y3.1.length).drop y3.2.1.toNat)) y0.elems y0.gone y0.sums y0.binds)) fun y39 =>
 some (y39,0))
 none)
 none)
 none)
 (cond (decide (0≤y3.2.1))
 (cond (decide (y3.2.1 < (y3.1.length:Int)))
 (ob (y3.1[y3.2.1.toNat]?) fun e6 =>
 cond (decide (o1.time > e6.time))
 (cond (decide (0≤y3.2.1))
 (cond (decide (y3.2.1 < (y3.1.length:Int)))
 (ob (y3.1[y3.2.1.toNat]?) fun _ =>
 ob (collOwn (Coll.mk r2.1 (y3.1.set y3.2.1.toNat (Reg.mk o1.key o1.text o1.ver o1.time o1.dot)) y0.elems y0.gone y0.sums y0.binds)) fun y40 =>
 some (y40,0))
 none)
 none)
 (cond (decide (0≤y3.2.1))
 (cond (decide (y3.2.1 < (y3.1.length:Int)))
 (ob (y3.1[y3.2.1.toNat]?) fun e7 =>
 cond (o1.time == e7.time)
 (cond (decide (0≤y3.2.1))
 (cond (decide (y3.2.1 < (y3.1.length:Int)))
 (ob (y3.1[y3.2.1.toNat]?) fun e8 =>
 ob (coll_dot_compare o1.dot e8.dot) fun r9 =>
 cond (decide (r9 > 0))
 (cond (decide (0≤y3.2.1))
 (cond (decide (y3.2.1 < (y3.1.length:Int)))
 (ob (y3.1[y3.2.1.toNat]?) fun _ =>
 ob (collOwn (Coll.mk r2.1 (y3.1.set y3.2.1.toNat (Reg.mk o1.key o1.text o1.ver o1.time o1.dot)) y0.elems y0.gone y0.sums y0.binds)) fun y41 =>
 some (y41,0))
 none)
 none)
 (ob (collOwn (Coll.mk r2.1 y3.1 y0.elems y0.gone y0.sums y0.binds)) fun y42 =>
 some (y42,0)))
 none)
 none)
 (ob (collOwn (Coll.mk r2.1 y3.1 y0.elems y0.gone y0.sums y0.binds)) fun y43 =>
 some (y43,0)))
 none)
 none))
 none)
 none))
 none)
 none)
 (cond (decide (0≤y3.2.1))
 (cond (decide (y3.2.1≤(y3.1.length:Int)))
 (cond (fits ((((y3.1.take y3.2.1.toNat)++[(Reg.mk o1.key o1.text o1.ver o1.time o1.dot)])++((y3.1.take y3.1.length).drop y3.2.1.toNat)).length))
 (ob (collOwn (Coll.mk r2.1 (((y3.1.take y3.2.1.toNat)++[(Reg.mk o1.key o1.text o1.ver o1.time o1.dot)])++((y3.1.take y3.1.length).drop y3.2.1.toNat)) y0.elems y0.gone y0.sums y0.binds)) fun y44 =>
 some (y44,0))
 none)
 none)
 none))
 (cond (o1.kind == 2)
 (ob (L240_2 y0.gone 0 (y0.gone.length:Int) o1.dot) fun y12 =>
 cond (decide (y12.2.1 < (y12.1.length:Int)))
 (cond (decide (0≤y12.2.1))
 (cond (decide (y12.2.1 < (y12.1.length:Int)))
 (ob (y12.1[y12.2.1.toNat]?) fun e13 =>
 ob (coll_dot_compare e13 y12.2.2) fun r14 =>
 cond (r14 == 0)
 (ob (collOwn (Coll.mk r2.1 y0.regs y0.elems y12.1 y0.sums y0.binds)) fun y45 =>
 some (y45,0))
 (ob (L214_2 y0.elems 0 (y0.elems.length:Int) o1) fun y15 =>
 cond (decide (y15.2.1 < (y15.1.length:Int)))
 (cond (decide (0≤y15.2.1))
 (cond (decide (y15.2.1 < (y15.1.length:Int)))
 (ob (y15.1[y15.2.1.toNat]?) fun e16 =>
 ob (cmpCompareString e16.key y15.2.2.key) fun r17 =>
 ob (cmpCompareString e16.text y15.2.2.text) fun r18 =>
 ob (coll_dot_compare e16.dot y15.2.2.dot) fun r19 =>
 ob (cmpOrInt [r17,r18,r19]) fun _ =>
 cond (decide (0≤y15.2.1))
 (cond (decide (y15.2.1≤(y15.1.length:Int)))
 (cond (fits ((((y15.1.take y15.2.1.toNat)++[(Elem.mk y15.2.2.key y15.2.2.text y15.2.2.ver y15.2.2.dot)])++((y15.1.take y15.1.length).drop y15.2.1.toNat)).length))
 (ob (collOwn (Coll.mk r2.1 y0.regs (((y15.1.take y15.2.1.toNat)++[(Elem.mk y15.2.2.key y15.2.2.text y15.2.2.ver y15.2.2.dot)])++((y15.1.take y15.1.length).drop y15.2.1.toNat)) y12.1 y0.sums y0.binds)) fun y46 =>
 some (y46,0))
 none)
 none)
 none)
 none)
 none)
 (cond (decide (0≤y15.2.1))
 (cond (decide (y15.2.1≤(y15.1.length:Int)))
 (cond (fits ((((y15.1.take y15.2.1.toNat)++[(Elem.mk y15.2.2.key y15.2.2.text y15.2.2.ver y15.2.2.dot)])++((y15.1.take y15.1.length).drop y15.2.1.toNat)).length))
 (ob (collOwn (Coll.mk r2.1 y0.regs (((y15.1.take y15.2.1.toNat)++[(Elem.mk y15.2.2.key y15.2.2.text y15.2.2.ver y15.2.2.dot)])++((y15.1.take y15.1.length).drop y15.2.1.toNat)) y12.1 y0.sums y0.binds)) fun y47 =>
 some (y47,0))
 none)
 none)
 none)))
 none)
 none)
 (ob (L214_2 y0.elems 0 (y0.elems.length:Int) o1) fun y21 =>
 cond (decide (y21.2.1 < (y21.1.length:Int)))
 (cond (decide (0≤y21.2.1))
 (cond (decide (y21.2.1 < (y21.1.length:Int)))
 (ob (y21.1[y21.2.1.toNat]?) fun e22 =>
 ob (cmpCompareString e22.key y21.2.2.key) fun r23 =>
 ob (cmpCompareString e22.text y21.2.2.text) fun r24 =>
 ob (coll_dot_compare e22.dot y21.2.2.dot) fun r25 =>
 ob (cmpOrInt [r23,r24,r25]) fun _ =>
 cond (decide (0≤y21.2.1))
 (cond (decide (y21.2.1≤(y21.1.length:Int)))
 (cond (fits ((((y21.1.take y21.2.1.toNat)++[(Elem.mk y21.2.2.key y21.2.2.text y21.2.2.ver y21.2.2.dot)])++((y21.1.take y21.1.length).drop y21.2.1.toNat)).length))
 (ob (collOwn (Coll.mk r2.1 y0.regs (((y21.1.take y21.2.1.toNat)++[(Elem.mk y21.2.2.key y21.2.2.text y21.2.2.ver y21.2.2.dot)])++((y21.1.take y21.1.length).drop y21.2.1.toNat)) y12.1 y0.sums y0.binds)) fun y48 =>
 some (y48,0))
 none)
 none)
 none)
 none)
 none)
 (cond (decide (0≤y21.2.1))
 (cond (decide (y21.2.1≤(y21.1.length:Int)))
 (cond (fits ((((y21.1.take y21.2.1.toNat)++[(Elem.mk y21.2.2.key y21.2.2.text y21.2.2.ver y21.2.2.dot)])++((y21.1.take y21.1.length).drop y21.2.1.toNat)).length))
 (ob (collOwn (Coll.mk r2.1 y0.regs (((y21.1.take y21.2.1.toNat)++[(Elem.mk y21.2.2.key y21.2.2.text y21.2.2.ver y21.2.2.dot)])++((y21.1.take y21.1.length).drop y21.2.1.toNat)) y12.1 y0.sums y0.binds)) fun y49 =>
 some (y49,0))
 none)
 none)
 none)))
 (cond (o1.kind == 3)
 (ob (L192_2 o1.dots (o1.dots.length:Int) 0 (Coll.mk r2.1 y0.regs y0.elems y0.gone y0.sums y0.binds) (Coll.mk [] [] [] [] [] [])) fun y27 =>
 ob (collOwn y27.1) fun y50 =>
 some (y50,0))
 (cond (o1.kind == 4)
 (ob (L248_2 y0.sums 0 (y0.sums.length:Int) o1.key) fun y28 =>
 cond (decide (y28.2.1 < (y28.1.length:Int)))
 (cond (decide (0≤y28.2.1))
 (cond (decide (y28.2.1 < (y28.1.length:Int)))
 (ob (y28.1[y28.2.1.toNat]?) fun e29 =>
 ob (cmpCompareString e29.key y28.2.2) fun r30 =>
 cond (r30 == 0)
 (cond (decide (0≤y28.2.1))
 (cond (decide (y28.2.1 < (y28.1.length:Int)))
 (ob (y28.1[y28.2.1.toNat]?) fun e31 =>
 cond (decide (0≤y28.2.1))
 (cond (decide (y28.2.1 < (y28.1.length:Int)))
 (ob (y28.1[y28.2.1.toNat]?) fun e32 =>
 ob (collOwn (Coll.mk r2.1 y0.regs y0.elems y0.gone (y28.1.set y28.2.1.toNat (Sum.mk e32.key (w64 (e31.n+o1.n)))) y0.binds)) fun y51 =>
 some (y51,0))
 none)
 none)
 none)
 none)
 (cond (decide (0≤y28.2.1))
 (cond (decide (y28.2.1≤(y28.1.length:Int)))
 (cond (fits ((((y28.1.take y28.2.1.toNat)++[(Sum.mk o1.key o1.n)])++((y28.1.take y28.1.length).drop y28.2.1.toNat)).length))
 (ob (collOwn (Coll.mk r2.1 y0.regs y0.elems y0.gone (((y28.1.take y28.2.1.toNat)++[(Sum.mk o1.key o1.n)])++((y28.1.take y28.1.length).drop y28.2.1.toNat)) y0.binds)) fun y52 =>
 some (y52,0))
 none)
 none)
 none))
 none)
 none)
 (cond (decide (0≤y28.2.1))
 (cond (decide (y28.2.1≤(y28.1.length:Int)))
 (cond (fits ((((y28.1.take y28.2.1.toNat)++[(Sum.mk o1.key o1.n)])++((y28.1.take y28.1.length).drop y28.2.1.toNat)).length))
 (ob (collOwn (Coll.mk r2.1 y0.regs y0.elems y0.gone (((y28.1.take y28.2.1.toNat)++[(Sum.mk o1.key o1.n)])++((y28.1.take y28.1.length).drop y28.2.1.toNat)) y0.binds)) fun y53 =>
 some (y53,0))
 none)
 none)
 none))
 (cond (o1.kind == 5)
 (ob (L252_2 y0.binds 0 (y0.binds.length:Int) o1.n) fun y33 =>
 cond (decide (y33.2.1 < (y33.1.length:Int)))
 (cond (decide (0≤y33.2.1))
 (cond (decide (y33.2.1 < (y33.1.length:Int)))
 (ob (y33.1[y33.2.1.toNat]?) fun e34 =>
 ob (cmpCompareInt e34.id_ y33.2.2) fun r35 =>
 cond (!(r35 == 0))
 (cond (decide (0≤y33.2.1))
 (cond (decide (y33.2.1≤(y33.1.length:Int)))
 (cond (fits ((((y33.1.take y33.2.1.toNat)++[(Bind.mk o1.n o1.text o1.ver o1.dot)])++((y33.1.take y33.1.length).drop y33.2.1.toNat)).length))
 (ob (collOwn (Coll.mk r2.1 y0.regs y0.elems y0.gone y0.sums (((y33.1.take y33.2.1.toNat)++[(Bind.mk o1.n o1.text o1.ver o1.dot)])++((y33.1.take y33.1.length).drop y33.2.1.toNat)))) fun y54 =>
 some (y54,0))
 none)
 none)
 none)
 (cond (decide (0≤y33.2.1))
 (cond (decide (y33.2.1 < (y33.1.length:Int)))
 (ob (y33.1[y33.2.1.toNat]?) fun e36 =>
 ob (coll_dot_compare o1.dot e36.dot) fun r37 =>
 cond (decide (r37 < 0))
 (cond (decide (0≤y33.2.1))
 (cond (decide (y33.2.1 < (y33.1.length:Int)))
 (ob (y33.1[y33.2.1.toNat]?) fun _ =>
 ob (collOwn (Coll.mk r2.1 y0.regs y0.elems y0.gone y0.sums (y33.1.set y33.2.1.toNat (Bind.mk o1.n o1.text o1.ver o1.dot)))) fun y55 =>
 some (y55,0))
 none)
 none)
 (ob (collOwn (Coll.mk r2.1 y0.regs y0.elems y0.gone y0.sums y33.1)) fun y56 =>
 some (y56,0)))
 none)
 none))
 none)
 none)
 (cond (decide (0≤y33.2.1))
 (cond (decide (y33.2.1≤(y33.1.length:Int)))
 (cond (fits ((((y33.1.take y33.2.1.toNat)++[(Bind.mk o1.n o1.text o1.ver o1.dot)])++((y33.1.take y33.1.length).drop y33.2.1.toNat)).length))
 (ob (collOwn (Coll.mk r2.1 y0.regs y0.elems y0.gone y0.sums (((y33.1.take y33.2.1.toNat)++[(Bind.mk o1.n o1.text o1.ver o1.dot)])++((y33.1.take y33.1.length).drop y33.2.1.toNat)))) fun y57 =>
 some (y57,0))
 none)
 none)
 none))
 (ob (collOwn (Coll.mk r2.1 y0.regs y0.elems y0.gone y0.sums y0.binds)) fun y58 =>
 some (y58,0))))))))
def un_collApply (p:Coll×Op):Option (Coll×Int):=collApply p.1 p.2
def df_collApply:DFn TL:=DFn.of (DA.cons (DT.agg dc_Coll) (DA.one (DT.agg dc_Op))) un_collApply (DA.cons (DT.agg dc_Coll) (DA.one dI))
theorem run_collApply:DRun [(158,df_opsCheck),(189,df_vectorStep),(217,df_cmpCompareString),(212,df_coll_dot_compare),(216,df_cmpOrInt),(239,df_cmpCompareInt)] [(188,sf_collOwn),(335002,sl_L235_2),(340002,sl_L240_2),(314002,sl_L214_2),(292002,sl_L192_2),(348002,sl_L248_2),(352002,sl_L252_2)] (envOf tab sl sh [(160,fd160),(190,fd190),(210,fd210),(235,fd235),(236,fd236),(191,fd191),(213,fd213),(240,fd240),(241,fd241),(214,fd214),(215,fd215),(192,fd192),(193,fd193),(222,fd222),(248,fd248),(249,fd249),(194,fd194),(224,fd224),(252,fd252),(253,fd253)] [(188,.sum),(158,.pure),(189,.keep),(217,.pure),(211,(.ins 142)),(212,.pure),(216,.pure),(218,(.ins 145)),(223,(.ins 129)),(239,.pure),(225,(.ins 149))]) 160 (DA.cons (DT.agg dc_Coll) (DA.one (DT.agg dc_Op))) un_collApply (DA.cons (DT.agg dc_Coll) (DA.one dI)):=fun _=>by kernel_rfl
theorem ok_collApply:DOK PR 160 .keep df_collApply:=dok run_collApply (envOK_of base (aC (st160.okl rfl aN) (aC (st190.okl rfl aN) (aC (st210.okl rfl aN) (aC (st235.okl rfl (aC (lC ok_L235_2 rfl) aN)) (aC (st236.okl rfl aN) (aC (st191.okl rfl aN) (aC (st213.okl rfl aN) (aC (st240.okl rfl (aC (lC ok_L240_2 rfl) aN)) (aC (st241.okl rfl aN) (aC (st214.okl rfl (aC (lC ok_L214_2 rfl) aN)) (aC (st215.okl rfl aN) (aC (st192.okl rfl (aC (lC ok_L192_2 rfl) aN)) (aC (st193.okl rfl aN) (aC (st222.okl rfl aN) (aC (st248.okl rfl (aC (lC ok_L248_2 rfl) aN)) (aC (st249.okl rfl aN) (aC (st194.okl rfl aN) (aC (st224.okl rfl aN) (aC (st252.okl rfl (aC (lC ok_L252_2 rfl) aN)) (aC (st253.okl rfl aN) aN)))))))))))))))))))) (aC (okS rfl ok_collOwn) (aC (oD ok_opsCheck rfl) (aC (oD ok_vectorStep rfl) (aC (oD ok_cmpCompareString rfl) (aC (okIns okI_211) (aC (oD ok_coll_dot_compare rfl) (aC (oD ok_cmpOrInt rfl) (aC (okIns okI_218) (aC (okIns okI_223) (aC (oD ok_cmpCompareInt rfl) (aC (okIns okI_225) aN)))))))))))) (.inl rfl) st160.enters
def ledgerPut (bx1:Book)(lx1:Lease):Option (Book×Int) :=
 ob (ledgerOwn bx1) fun y0 =>
 ob (ledger_at y0 lx1.device lx1.epoch) fun r1 =>
 cond (decide (r1 < 0))
 (some (y0,2))
 (ob (ledgerLease lx1) fun y2 =>
 cond (decide (0≤r1))
 (cond (decide (r1 < (y0.leases.length:Int)))
 (ob (y0.leases[r1.toNat]?) fun _ =>
 some ((Book.mk y0.counters y0.free (y0.leases.set r1.toNat y2) y0.bound),0))
 none)
 none)
def un_ledgerPut (p:Book×Lease):Option (Book×Int):=ledgerPut p.1 p.2
def df_ledgerPut:DFn TL:=DFn.of (DA.cons (DT.agg dc_Book) (DA.one (DT.agg dc_Lease))) un_ledgerPut (DA.cons (DT.agg dc_Book) (DA.one dI))
theorem run_ledgerPut:DRun [(162,df_ledger_at)] [(124,sf_ledgerOwn),(151,sf_ledgerLease)] (envOf tab sl sh [(135,fd135)] [(124,.sum),(162,.pure),(151,.sum)]) 135 (DA.cons (DT.agg dc_Book) (DA.one (DT.agg dc_Lease))) un_ledgerPut (DA.cons (DT.agg dc_Book) (DA.one dI)):=fun _=>by kernel_rfl
theorem ok_ledgerPut:DOK PR 135 .keep df_ledgerPut:=dok run_ledgerPut (envOK_of base (aC (st135.okl rfl aN) aN) (aC (okS rfl ok_ledgerOwn) (aC (oD ok_ledger_at rfl) (aC (okS rfl ok_ledgerLease) aN)))) (.inl rfl) st135.enters
def clerkInclude (o1:Op)(c1:Clerk):Option (Int×Clerk) :=
 ob (clerkIncluded c1.d.log c1.c.device c1.c.epoch) fun r0 =>
 ob (ledgerFind c1.d.book c1.c.device c1.c.epoch) fun r1 =>
 ob (opsCheck o1) fun r2 =>
 cond (r2 != 0)
 (some (r2,c1))
 (cond (cond (o1.dot.device != c1.c.device) true (o1.dot.epoch != c1.c.epoch))
 (some (1,c1))
 (cond (decide (o1.dot.seq≤r0))
 (some (0,c1))
 (cond (decide (o1.dot.seq > (w64 (r0+1))))
 (some (12,c1))
 (cond (cond (cond (o1.kind == 4) true (o1.kind == 5)) (!r1.2) false)
 (some (14,c1))
 (ob (ledgerSpend r1.1 o1) fun r3 =>
 cond (r3.2 != 0)
 (some (r3.2,c1))
 (cond (decide ((c1.d.log.length:Int)≥2000))
 (some (11,c1))
 (cond (decide (0≤o1.coll) && decide (o1.coll < 3))
 (ob (collApply (Coll.sel (decide (o1.coll=0)) c1.d.colls.a0 (Coll.mk (cond (decide (o1.coll=1)) c1.d.colls.a1.v c1.d.colls.a2.v) (cond (decide (o1.coll=1)) c1.d.colls.a1.regs c1.d.colls.a2.regs) (cond (decide (o1.coll=1)) c1.d.colls.a1.elems c1.d.colls.a2.elems) (cond (decide (o1.coll=1)) c1.d.colls.a1.gone c1.d.colls.a2.gone) (cond (decide (o1.coll=1)) c1.d.colls.a1.sums c1.d.colls.a2.sums) (cond (decide (o1.coll=1)) c1.d.colls.a1.binds c1.d.colls.a2.binds))) o1) fun r4 =>
 cond (r4.2 != 0)
 (some (r4.2,c1))
 (cond (r1.2)
 (ob (ledgerPut c1.d.book r3.1) fun r5 =>
 cond (decide (0≤o1.coll) && decide (o1.coll < 3))
 (cond (fits ((c1.d.log++[o1]).length))
 (some (0,(Clerk.mk (Desk.mk r5.1 (A3Coll.mk (Coll.sel (decide (o1.coll=0)) r4.1 c1.d.colls.a0) (Coll.sel (decide (o1.coll=1)) r4.1 c1.d.colls.a1) (Coll.sel (decide (o1.coll=2)) r4.1 c1.d.colls.a2)) (c1.d.log++[o1]) c1.d.dev c1.d.lost c1.d.now) c1.c)))
 none)
 none)
 (cond (decide (0≤o1.coll) && decide (o1.coll < 3))
 (cond (fits ((c1.d.log++[o1]).length))
 (some (0,(Clerk.mk (Desk.mk c1.d.book (A3Coll.mk (Coll.sel (decide (o1.coll=0)) r4.1 c1.d.colls.a0) (Coll.sel (decide (o1.coll=1)) r4.1 c1.d.colls.a1) (Coll.sel (decide (o1.coll=2)) r4.1 c1.d.colls.a2)) (c1.d.log++[o1]) c1.d.dev c1.d.lost c1.d.now) c1.c)))
 none)
 none)))
 none)))))))
def hc2_Clerk:Cod (List (Nat×En TL)) Clerk:=kO (kC (Cod.var 0 100 (kC (kG j_lCounter) (kC (kG j_lRange) (kC (kG j_lLease) (kC (kG j_lInt) (kC (kG j_lEntry) (kC (kG j_lReg) (kC (kG j_lElem) (kC (kG j_lEntry) (kC (kG j_lSum) (kC (kG j_lBind) (kC (kG j_lEntry) (kC (kG j_lReg) (kC (kG j_lElem) (kC (kG j_lEntry) (kC (kG j_lSum) (kC (kG j_lBind) (kC (kG j_lEntry) (kC (kG j_lReg) (kC (kG j_lElem) (kC (kG j_lEntry) (kC (kG j_lSum) (kC (kG j_lBind) (kC (kA 1) (kC kJ (kC kJ (kC kJ (kC kJ (kC kJ (kC kJ (kC kJ (kC kJ (kC (kA 2) (kC (kA 3) (kC (kA 4) (kC kJ (kC kJ (kC kJ (kC kJ (kC kJ (kC kJ (kC kJ (kC kJ (kC (kA 5) (kC (kA 6) (kC (kA 7) (kC kJ (kC kJ (kC kJ (kC kJ (kC kJ (kC kJ (kC kJ (kC kJ (kC (kA 8) (kC (kA 9) (kC (kA 10) (kC kJ (kC kJ (kC kJ (kC kJ (kC kJ (kC kJ (kC kJ (kC kJ (kC (kA 11) (kC (kA 12) (kC (kA 13) (kC kJ (kC kJ (kC kJ (kC kJ (kC kJ (kC kJ (kC kJ (kC kJ (kC (kA 14) (kC (kA 15) (kC (kA 16) (kC kJ (kC kJ (kC kJ (kC kJ (kC kJ (kC kJ (kC kJ (kC kJ (kC (kA 17) (kC (kA 18) (kC (kA 19) (kC (kA 20) (kC kJ (kC kJ (kC kJ (kC kJ (kC kJ (kC kJ (kC (kG j_lWant) (kC (kG j_lOp) kN))))))))))))))))))))))))))))))))))))))))))))))))))))))))))))))))))))))))))))))))))))))))))))))))))) (kC (kR 1 61 j_lOp) (kC (kR 2 133 j_lSlice) (kC (kR 3 153 j_lRange) (kC (kR 4 3 j_lInt) (kC (kR 5 133 j_lSlice) (kC (kR 6 153 j_lRange) (kC (kR 7 3 j_lInt) (kC (kR 8 133 j_lSlice) (kC (kR 9 153 j_lRange) (kC (kR 10 3 j_lInt) (kC (kR 11 133 j_lSlice) (kC (kR 12 153 j_lRange) (kC (kR 13 3 j_lInt) (kC (kR 14 133 j_lSlice) (kC (kR 15 153 j_lRange) (kC (kR 16 3 j_lInt) (kC (kR 17 133 j_lSlice) (kC (kR 18 153 j_lRange) (kC (kR 19 3 j_lInt) (kC (kR 20 66 j_lEntry) kN))))))))))))))))))))) (fun p=>(Clerk.mk (Desk.mk (Book.mk p.1.1 p.1.2.1 p.1.2.2.1 p.1.2.2.2.1) (A3Coll.mk (Coll.mk p.1.2.2.2.2.1 p.1.2.2.2.2.2.1 p.1.2.2.2.2.2.2.1 p.1.2.2.2.2.2.2.2.1 (t8 p.1).1 (t8 p.1).2.1) (Coll.mk (t8 p.1).2.2.1 (t8 p.1).2.2.2.1 (t8 p.1).2.2.2.2.1 (t8 p.1).2.2.2.2.2.1 (t8 p.1).2.2.2.2.2.2.1 (t8 p.1).2.2.2.2.2.2.2.1) (Coll.mk (t8 (t8 p.1)).1 (t8 (t8 p.1)).2.1 (t8 (t8 p.1)).2.2.1 (t8 (t8 p.1)).2.2.2.1 (t8 (t8 p.1)).2.2.2.2.1 (t8 (t8 p.1)).2.2.2.2.2.1)) p.2.1 (A6Device.mk (Device.mk (t8 (t8 p.1)).2.2.2.2.2.2.2.1 (t8 (t8 (t8 p.1))).1 (Reply.mk (t8 (t8 (t8 p.1))).2.1 (t8 (t8 (t8 p.1))).2.2.1 (Lease.mk (t8 (t8 (t8 p.1))).2.2.2.1 (t8 (t8 (t8 p.1))).2.2.2.2.1 (t8 (t8 (t8 p.1))).2.2.2.2.2.1 (t8 (t8 (t8 p.1))).2.2.2.2.2.2.1 p.2.2.1 p.2.2.2.1 p.2.2.2.2.1))) (Device.mk (t32 p.1).2.2.1 (t32 p.1).2.2.2.1 (Reply.mk (t32 p.1).2.2.2.2.1 (t32 p.1).2.2.2.2.2.1 (Lease.mk (t32 p.1).2.2.2.2.2.2.1 (t32 p.1).2.2.2.2.2.2.2.1 (t8 (t32 p.1)).1 (t8 (t32 p.1)).2.1 p.2.2.2.2.2.1 p.2.2.2.2.2.2.1 p.2.2.2.2.2.2.2.1))) (Device.mk (t8 (t32 p.1)).2.2.2.2.2.1 (t8 (t32 p.1)).2.2.2.2.2.2.1 (Reply.mk (t8 (t32 p.1)).2.2.2.2.2.2.2.1 (t8 (t8 (t32 p.1))).1 (Lease.mk (t8 (t8 (t32 p.1))).2.1 (t8 (t8 (t32 p.1))).2.2.1 (t8 (t8 (t32 p.1))).2.2.2.1 (t8 (t8 (t32 p.1))).2.2.2.2.1 (t8 p).1 (t8 p).2.1 (t8 p).2.2.1))) (Device.mk (t8 (t8 (t8 (t32 p.1)))).1 (t8 (t8 (t8 (t32 p.1)))).2.1 (Reply.mk (t8 (t8 (t8 (t32 p.1)))).2.2.1 (t8 (t8 (t8 (t32 p.1)))).2.2.2.1 (Lease.mk (t8 (t8 (t8 (t32 p.1)))).2.2.2.2.1 (t8 (t8 (t8 (t32 p.1)))).2.2.2.2.2.1 (t8 (t8 (t8 (t32 p.1)))).2.2.2.2.2.2.1 (t8 (t8 (t8 (t32 p.1)))).2.2.2.2.2.2.2.1 (t8 p).2.2.2.1 (t8 p).2.2.2.2.1 (t8 p).2.2.2.2.2.1))) (Device.mk (t32 (t32 p.1)).2.2.2.1 (t32 (t32 p.1)).2.2.2.2.1 (Reply.mk (t32 (t32 p.1)).2.2.2.2.2.1 (t32 (t32 p.1)).2.2.2.2.2.2.1 (Lease.mk (t32 (t32 p.1)).2.2.2.2.2.2.2.1 (t8 (t32 (t32 p.1))).1 (t8 (t32 (t32 p.1))).2.1 (t8 (t32 (t32 p.1))).2.2.1 (t8 p).2.2.2.2.2.2.1 (t8 p).2.2.2.2.2.2.2.1 (t8 (t8 p)).1))) (Device.mk (t8 (t32 (t32 p.1))).2.2.2.2.2.2.1 (t8 (t32 (t32 p.1))).2.2.2.2.2.2.2.1 (Reply.mk (t8 (t8 (t32 (t32 p.1)))).1 (t8 (t8 (t32 (t32 p.1)))).2.1 (Lease.mk (t8 (t8 (t32 (t32 p.1)))).2.2.1 (t8 (t8 (t32 (t32 p.1)))).2.2.2.1 (t8 (t8 (t32 (t32 p.1)))).2.2.2.2.1 (t8 (t8 (t32 (t32 p.1)))).2.2.2.2.2.1 (t8 (t8 p)).2.1 (t8 (t8 p)).2.2.1 (t8 (t8 p)).2.2.2.1)))) (t8 (t8 p)).2.2.2.2.1 (t8 (t8 (t8 (t32 (t32 p.1))))).2.2.1) (Cmd.mk (t8 (t8 (t8 (t32 (t32 p.1))))).2.2.2.1 (t8 (t8 (t8 (t32 (t32 p.1))))).2.2.2.2.1 (t8 (t8 (t8 (t32 (t32 p.1))))).2.2.2.2.2.1 (t8 (t8 (t8 (t32 (t32 p.1))))).2.2.2.2.2.2.1 (t8 (t8 (t8 (t32 (t32 p.1))))).2.2.2.2.2.2.2.1 (t32 (t32 (t32 p.1))).1 (t32 (t32 (t32 p.1))).2.1))) (fun (x:Clerk)=>((x.d.book.counters,(x.d.book.free,(x.d.book.leases,(x.d.book.bound,(x.d.colls.a0.v,(x.d.colls.a0.regs,(x.d.colls.a0.elems,(x.d.colls.a0.gone,(x.d.colls.a0.sums,(x.d.colls.a0.binds,(x.d.colls.a1.v,(x.d.colls.a1.regs,(x.d.colls.a1.elems,(x.d.colls.a1.gone,(x.d.colls.a1.sums,(x.d.colls.a1.binds,(x.d.colls.a2.v,(x.d.colls.a2.regs,(x.d.colls.a2.elems,(x.d.colls.a2.gone,(x.d.colls.a2.sums,(x.d.colls.a2.binds,((),(x.d.dev.a0.epoch,(x.d.dev.a0.req,(x.d.dev.a0.reply.err,(x.d.dev.a0.reply.n,(x.d.dev.a0.reply.lease.device,(x.d.dev.a0.reply.lease.epoch,(x.d.dev.a0.reply.lease.until_,(x.d.dev.a0.reply.lease.last,((),((),((),(x.d.dev.a1.epoch,(x.d.dev.a1.req,(x.d.dev.a1.reply.err,(x.d.dev.a1.reply.n,(x.d.dev.a1.reply.lease.device,(x.d.dev.a1.reply.lease.epoch,(x.d.dev.a1.reply.lease.until_,(x.d.dev.a1.reply.lease.last,((),((),((),(x.d.dev.a2.epoch,(x.d.dev.a2.req,(x.d.dev.a2.reply.err,(x.d.dev.a2.reply.n,(x.d.dev.a2.reply.lease.device,(x.d.dev.a2.reply.lease.epoch,(x.d.dev.a2.reply.lease.until_,(x.d.dev.a2.reply.lease.last,((),((),((),(x.d.dev.a3.epoch,(x.d.dev.a3.req,(x.d.dev.a3.reply.err,(x.d.dev.a3.reply.n,(x.d.dev.a3.reply.lease.device,(x.d.dev.a3.reply.lease.epoch,(x.d.dev.a3.reply.lease.until_,(x.d.dev.a3.reply.lease.last,((),((),((),(x.d.dev.a4.epoch,(x.d.dev.a4.req,(x.d.dev.a4.reply.err,(x.d.dev.a4.reply.n,(x.d.dev.a4.reply.lease.device,(x.d.dev.a4.reply.lease.epoch,(x.d.dev.a4.reply.lease.until_,(x.d.dev.a4.reply.lease.last,((),((),((),(x.d.dev.a5.epoch,(x.d.dev.a5.req,(x.d.dev.a5.reply.err,(x.d.dev.a5.reply.n,(x.d.dev.a5.reply.lease.device,(x.d.dev.a5.reply.lease.epoch,(x.d.dev.a5.reply.lease.until_,(x.d.dev.a5.reply.lease.last,((),((),((),((),(x.d.now,(x.c.kind,(x.c.device,(x.c.epoch,(x.c.req,(x.c.n,(x.c.wants,(x.c.ops,())))))))))))))))))))))))))))))))))))))))))))))))))))))))))))))))))))))))))))))))))))))))))))))))))),(x.d.log,(x.d.dev.a0.reply.lease.slices,(x.d.dev.a0.reply.lease.ids,(x.d.dev.a0.reply.lease.used,(x.d.dev.a1.reply.lease.slices,(x.d.dev.a1.reply.lease.ids,(x.d.dev.a1.reply.lease.used,(x.d.dev.a2.reply.lease.slices,(x.d.dev.a2.reply.lease.ids,(x.d.dev.a2.reply.lease.used,(x.d.dev.a3.reply.lease.slices,(x.d.dev.a3.reply.lease.ids,(x.d.dev.a3.reply.lease.used,(x.d.dev.a4.reply.lease.slices,(x.d.dev.a4.reply.lease.ids,(x.d.dev.a4.reply.lease.used,(x.d.dev.a5.reply.lease.slices,(x.d.dev.a5.reply.lease.ids,(x.d.dev.a5.reply.lease.used,(x.d.lost,())))))))))))))))))))))) (fun _=>rfl)
def ch_clerkInclude:kT (Op×Clerk):=kO (kS 21 (kC (kP 0 0) (kC (Cod.xs (Cod.sa cc_Op)) kN)) hc2_Clerk) (fun p=>(p.1.2.1,p.2)) (fun (x:Op×Clerk)=>(((),(x.1,())),x.2)) (fun _=>rfl)
def hc3_Clerk:Cod (List (Nat×En TL)) Clerk:=kO (kC (Cod.var 0 100 (kC (kG j_lCounter) (kC (kG j_lRange) (kC (kG j_lLease) (kC (kG j_lInt) (kC (kG j_lEntry) (kC (kG j_lReg) (kC (kG j_lElem) (kC (kG j_lEntry) (kC (kG j_lSum) (kC (kG j_lBind) (kC (kG j_lEntry) (kC (kG j_lReg) (kC (kG j_lElem) (kC (kG j_lEntry) (kC (kG j_lSum) (kC (kG j_lBind) (kC (kG j_lEntry) (kC (kG j_lReg) (kC (kG j_lElem) (kC (kG j_lEntry) (kC (kG j_lSum) (kC (kG j_lBind) (kC (kA 42) (kC kJ (kC kJ (kC kJ (kC kJ (kC kJ (kC kJ (kC kJ (kC kJ (kC (kA 43) (kC (kA 44) (kC (kA 45) (kC kJ (kC kJ (kC kJ (kC kJ (kC kJ (kC kJ (kC kJ (kC kJ (kC (kA 46) (kC (kA 47) (kC (kA 48) (kC kJ (kC kJ (kC kJ (kC kJ (kC kJ (kC kJ (kC kJ (kC kJ (kC (kA 49) (kC (kA 50) (kC (kA 51) (kC kJ (kC kJ (kC kJ (kC kJ (kC kJ (kC kJ (kC kJ (kC kJ (kC (kA 52) (kC (kA 53) (kC (kA 54) (kC kJ (kC kJ (kC kJ (kC kJ (kC kJ (kC kJ (kC kJ (kC kJ (kC (kA 55) (kC (kA 56) (kC (kA 57) (kC kJ (kC kJ (kC kJ (kC kJ (kC kJ (kC kJ (kC kJ (kC kJ (kC (kA 58) (kC (kA 59) (kC (kA 60) (kC (kA 61) (kC kJ (kC kJ (kC kJ (kC kJ (kC kJ (kC kJ (kC (kG j_lWant) (kC (kG j_lOp) kN))))))))))))))))))))))))))))))))))))))))))))))))))))))))))))))))))))))))))))))))))))))))))))))))))) (kC (Cod.dead 1) (kC (Cod.dead 2) (kC (Cod.dead 3) (kC (Cod.dead 4) (kC (Cod.dead 5) (kC (Cod.dead 6) (kC (Cod.dead 7) (kC (Cod.dead 8) (kC (Cod.dead 9) (kC (Cod.dead 10) (kC (Cod.dead 11) (kC (Cod.dead 12) (kC (Cod.dead 13) (kC (Cod.dead 14) (kC (Cod.dead 15) (kC (Cod.dead 16) (kC (Cod.dead 17) (kC (Cod.dead 18) (kC (Cod.dead 19) (kC (Cod.dead 20) (kC (kR 42 61 j_lOp) (kC (kR 43 133 j_lSlice) (kC (kR 44 153 j_lRange) (kC (kR 45 3 j_lInt) (kC (kR 46 133 j_lSlice) (kC (kR 47 153 j_lRange) (kC (kR 48 3 j_lInt) (kC (kR 49 133 j_lSlice) (kC (kR 50 153 j_lRange) (kC (kR 51 3 j_lInt) (kC (kR 52 133 j_lSlice) (kC (kR 53 153 j_lRange) (kC (kR 54 3 j_lInt) (kC (kR 55 133 j_lSlice) (kC (kR 56 153 j_lRange) (kC (kR 57 3 j_lInt) (kC (kR 58 133 j_lSlice) (kC (kR 59 153 j_lRange) (kC (kR 60 3 j_lInt) (kC (kR 61 66 j_lEntry) kN))))))))))))))))))))))))))))))))))))))))) (fun p=>(Clerk.mk (Desk.mk (Book.mk p.1.1 p.1.2.1 p.1.2.2.1 p.1.2.2.2.1) (A3Coll.mk (Coll.mk p.1.2.2.2.2.1 p.1.2.2.2.2.2.1 p.1.2.2.2.2.2.2.1 p.1.2.2.2.2.2.2.2.1 (t8 p.1).1 (t8 p.1).2.1) (Coll.mk (t8 p.1).2.2.1 (t8 p.1).2.2.2.1 (t8 p.1).2.2.2.2.1 (t8 p.1).2.2.2.2.2.1 (t8 p.1).2.2.2.2.2.2.1 (t8 p.1).2.2.2.2.2.2.2.1) (Coll.mk (t8 (t8 p.1)).1 (t8 (t8 p.1)).2.1 (t8 (t8 p.1)).2.2.1 (t8 (t8 p.1)).2.2.2.1 (t8 (t8 p.1)).2.2.2.2.1 (t8 (t8 p.1)).2.2.2.2.2.1)) (t8 (t8 p)).2.2.2.2.2.1 (A6Device.mk (Device.mk (t8 (t8 p.1)).2.2.2.2.2.2.2.1 (t8 (t8 (t8 p.1))).1 (Reply.mk (t8 (t8 (t8 p.1))).2.1 (t8 (t8 (t8 p.1))).2.2.1 (Lease.mk (t8 (t8 (t8 p.1))).2.2.2.1 (t8 (t8 (t8 p.1))).2.2.2.2.1 (t8 (t8 (t8 p.1))).2.2.2.2.2.1 (t8 (t8 (t8 p.1))).2.2.2.2.2.2.1 (t8 (t8 p)).2.2.2.2.2.2.1 (t8 (t8 p)).2.2.2.2.2.2.2.1 (t8 (t8 (t8 p))).1))) (Device.mk (t32 p.1).2.2.1 (t32 p.1).2.2.2.1 (Reply.mk (t32 p.1).2.2.2.2.1 (t32 p.1).2.2.2.2.2.1 (Lease.mk (t32 p.1).2.2.2.2.2.2.1 (t32 p.1).2.2.2.2.2.2.2.1 (t8 (t32 p.1)).1 (t8 (t32 p.1)).2.1 (t8 (t8 (t8 p))).2.1 (t8 (t8 (t8 p))).2.2.1 (t8 (t8 (t8 p))).2.2.2.1))) (Device.mk (t8 (t32 p.1)).2.2.2.2.2.1 (t8 (t32 p.1)).2.2.2.2.2.2.1 (Reply.mk (t8 (t32 p.1)).2.2.2.2.2.2.2.1 (t8 (t8 (t32 p.1))).1 (Lease.mk (t8 (t8 (t32 p.1))).2.1 (t8 (t8 (t32 p.1))).2.2.1 (t8 (t8 (t32 p.1))).2.2.2.1 (t8 (t8 (t32 p.1))).2.2.2.2.1 (t8 (t8 (t8 p))).2.2.2.2.1 (t8 (t8 (t8 p))).2.2.2.2.2.1 (t8 (t8 (t8 p))).2.2.2.2.2.2.1))) (Device.mk (t8 (t8 (t8 (t32 p.1)))).1 (t8 (t8 (t8 (t32 p.1)))).2.1 (Reply.mk (t8 (t8 (t8 (t32 p.1)))).2.2.1 (t8 (t8 (t8 (t32 p.1)))).2.2.2.1 (Lease.mk (t8 (t8 (t8 (t32 p.1)))).2.2.2.2.1 (t8 (t8 (t8 (t32 p.1)))).2.2.2.2.2.1 (t8 (t8 (t8 (t32 p.1)))).2.2.2.2.2.2.1 (t8 (t8 (t8 (t32 p.1)))).2.2.2.2.2.2.2.1 (t8 (t8 (t8 p))).2.2.2.2.2.2.2.1 (t32 p).1 (t32 p).2.1))) (Device.mk (t32 (t32 p.1)).2.2.2.1 (t32 (t32 p.1)).2.2.2.2.1 (Reply.mk (t32 (t32 p.1)).2.2.2.2.2.1 (t32 (t32 p.1)).2.2.2.2.2.2.1 (Lease.mk (t32 (t32 p.1)).2.2.2.2.2.2.2.1 (t8 (t32 (t32 p.1))).1 (t8 (t32 (t32 p.1))).2.1 (t8 (t32 (t32 p.1))).2.2.1 (t32 p).2.2.1 (t32 p).2.2.2.1 (t32 p).2.2.2.2.1))) (Device.mk (t8 (t32 (t32 p.1))).2.2.2.2.2.2.1 (t8 (t32 (t32 p.1))).2.2.2.2.2.2.2.1 (Reply.mk (t8 (t8 (t32 (t32 p.1)))).1 (t8 (t8 (t32 (t32 p.1)))).2.1 (Lease.mk (t8 (t8 (t32 (t32 p.1)))).2.2.1 (t8 (t8 (t32 (t32 p.1)))).2.2.2.1 (t8 (t8 (t32 (t32 p.1)))).2.2.2.2.1 (t8 (t8 (t32 (t32 p.1)))).2.2.2.2.2.1 (t32 p).2.2.2.2.2.1 (t32 p).2.2.2.2.2.2.1 (t32 p).2.2.2.2.2.2.2.1)))) (t8 (t32 p)).1 (t8 (t8 (t8 (t32 (t32 p.1))))).2.2.1) (Cmd.mk (t8 (t8 (t8 (t32 (t32 p.1))))).2.2.2.1 (t8 (t8 (t8 (t32 (t32 p.1))))).2.2.2.2.1 (t8 (t8 (t8 (t32 (t32 p.1))))).2.2.2.2.2.1 (t8 (t8 (t8 (t32 (t32 p.1))))).2.2.2.2.2.2.1 (t8 (t8 (t8 (t32 (t32 p.1))))).2.2.2.2.2.2.2.1 (t32 (t32 (t32 p.1))).1 (t32 (t32 (t32 p.1))).2.1))) (fun (x:Clerk)=>((x.d.book.counters,(x.d.book.free,(x.d.book.leases,(x.d.book.bound,(x.d.colls.a0.v,(x.d.colls.a0.regs,(x.d.colls.a0.elems,(x.d.colls.a0.gone,(x.d.colls.a0.sums,(x.d.colls.a0.binds,(x.d.colls.a1.v,(x.d.colls.a1.regs,(x.d.colls.a1.elems,(x.d.colls.a1.gone,(x.d.colls.a1.sums,(x.d.colls.a1.binds,(x.d.colls.a2.v,(x.d.colls.a2.regs,(x.d.colls.a2.elems,(x.d.colls.a2.gone,(x.d.colls.a2.sums,(x.d.colls.a2.binds,((),(x.d.dev.a0.epoch,(x.d.dev.a0.req,(x.d.dev.a0.reply.err,(x.d.dev.a0.reply.n,(x.d.dev.a0.reply.lease.device,(x.d.dev.a0.reply.lease.epoch,(x.d.dev.a0.reply.lease.until_,(x.d.dev.a0.reply.lease.last,((),((),((),(x.d.dev.a1.epoch,(x.d.dev.a1.req,(x.d.dev.a1.reply.err,(x.d.dev.a1.reply.n,(x.d.dev.a1.reply.lease.device,(x.d.dev.a1.reply.lease.epoch,(x.d.dev.a1.reply.lease.until_,(x.d.dev.a1.reply.lease.last,((),((),((),(x.d.dev.a2.epoch,(x.d.dev.a2.req,(x.d.dev.a2.reply.err,(x.d.dev.a2.reply.n,(x.d.dev.a2.reply.lease.device,(x.d.dev.a2.reply.lease.epoch,(x.d.dev.a2.reply.lease.until_,(x.d.dev.a2.reply.lease.last,((),((),((),(x.d.dev.a3.epoch,(x.d.dev.a3.req,(x.d.dev.a3.reply.err,(x.d.dev.a3.reply.n,(x.d.dev.a3.reply.lease.device,(x.d.dev.a3.reply.lease.epoch,(x.d.dev.a3.reply.lease.until_,(x.d.dev.a3.reply.lease.last,((),((),((),(x.d.dev.a4.epoch,(x.d.dev.a4.req,(x.d.dev.a4.reply.err,(x.d.dev.a4.reply.n,(x.d.dev.a4.reply.lease.device,(x.d.dev.a4.reply.lease.epoch,(x.d.dev.a4.reply.lease.until_,(x.d.dev.a4.reply.lease.last,((),((),((),(x.d.dev.a5.epoch,(x.d.dev.a5.req,(x.d.dev.a5.reply.err,(x.d.dev.a5.reply.n,(x.d.dev.a5.reply.lease.device,(x.d.dev.a5.reply.lease.epoch,(x.d.dev.a5.reply.lease.until_,(x.d.dev.a5.reply.lease.last,((),((),((),((),(x.d.now,(x.c.kind,(x.c.device,(x.c.epoch,(x.c.req,(x.c.n,(x.c.wants,(x.c.ops,())))))))))))))))))))))))))))))))))))))))))))))))))))))))))))))))))))))))))))))))))))))))))))))))))),((),((),((),((),((),((),((),((),((),((),((),((),((),((),((),((),((),((),((),((),(x.d.log,(x.d.dev.a0.reply.lease.slices,(x.d.dev.a0.reply.lease.ids,(x.d.dev.a0.reply.lease.used,(x.d.dev.a1.reply.lease.slices,(x.d.dev.a1.reply.lease.ids,(x.d.dev.a1.reply.lease.used,(x.d.dev.a2.reply.lease.slices,(x.d.dev.a2.reply.lease.ids,(x.d.dev.a2.reply.lease.used,(x.d.dev.a3.reply.lease.slices,(x.d.dev.a3.reply.lease.ids,(x.d.dev.a3.reply.lease.used,(x.d.dev.a4.reply.lease.slices,(x.d.dev.a4.reply.lease.ids,(x.d.dev.a4.reply.lease.used,(x.d.dev.a5.reply.lease.slices,(x.d.dev.a5.reply.lease.ids,(x.d.dev.a5.reply.lease.used,(x.d.lost,())))))))))))))))))))))))))))))))))))))))))) (fun _=>rfl)
def co_clerkInclude:kT (Int×Clerk):=kO (kS 62 (kC kI kN) hc3_Clerk) (fun p=>(p.1.1,p.2)) (fun (x:Int×Clerk)=>((x.1,()),x.2)) (fun _=>rfl)
def un_clerkInclude (p:Op×Clerk):Option (Int×Clerk):=clerkInclude p.1 p.2
def sf_clerkInclude:SFn TL:=SFn.one ch_clerkInclude.dec un_clerkInclude .normal co_clerkInclude.enc
def cs_clerkInclude:cL:=[(133,df_clerkIncluded),(134,df_ledgerFind),(158,df_opsCheck),(159,df_ledgerSpend),(160,df_collApply),(135,df_ledgerPut)]
def env_clerkInclude:Env:=envOf tab sl sh [(132,fd132)] [(133,(.rd 22 61)),(134,.keep),(158,.pure),(159,.keep),(160,.keep),(135,.keep)]
theorem env_clerkInclude_ok:EnvOK PR (mkD cs_clerkInclude sZ) env_clerkInclude:=envOK_of base (aC (st132.okl rfl aN) aN) (aC (oD ok_clerkIncluded rfl) (aC (oD ok_ledgerFind rfl) (aC (oD ok_opsCheck rfl) (aC (oD ok_ledgerSpend rfl) (aC (oD ok_collApply rfl) (aC (oD ok_ledgerPut rfl) aN))))))
theorem run_clerkInclude (x:Op×Clerk):Out.run (mkO cs_clerkInclude sZ) (evSum env_clerkInclude 12 20 132 (ch_clerkInclude.enc x)) (back1 co_clerkInclude)=un_clerkInclude x:=by kernel_rfl
theorem ok_clerkInclude:SOK PR 132 sf_clerkInclude:=sum_one env_clerkInclude_ok (loops:=12) (n:=20) st132.enters ch_clerkInclude co_clerkInclude un_clerkInclude run_clerkInclude
abbrev tY26:=(List Op)×Int×Int×Clerk×Reply
def step_L86_8 (l1:List Op)(i1:Int)(i2:Int)(c1:Clerk)(rx1:Reply):Option ((tY26)⊕(((Clerk×Reply)⊕(Clerk×Reply×(List Slice)×(List Range)×(List Int))))) :=
 cond (decide (i2 < i1))
 (cond (decide (0≤i2))
 (ob (l1[i2.toNat]?) fun e0 =>
 ob (clerkInclude e0 c1) fun y1 =>
 cond (y1.1 != 0)
 (ob (desk_fail y1.1) fun r2 =>
 some (.inr (.inr (y1.2,r2,rx1.lease.slices,rx1.lease.ids,rx1.lease.used))))
 (some (.inl (l1,i1,(w64 (i2+1)),y1.2,rx1))))
 none)
 (some (.inr (.inl (c1,rx1))))
def stp_L86_8 (p:tY26):Option ((tY26)⊕(((Clerk×Reply)⊕(Clerk×Reply×(List Slice)×(List Range)×(List Int))))):=step_L86_8 p.1 p.2.1 p.2.2.1 p.2.2.2.1 p.2.2.2.2
def L86_8 (l1:List Op)(i1:Int)(i2:Int)(c1:Clerk)(rx1:Reply):Option (((Clerk×Reply)⊕(Clerk×Reply×(List Slice)×(List Range)×(List Int)))):=iterO stp_L86_8 ((i1 - i2).toNat+2) (l1,i1,i2,c1,rx1)
def ch_L86_8:kT (tY26):=kO (kS 25 (kC (kP 0 0) (kC (kP 1 0) (kC (Cod.xs (Cod.sc (Cod.clo 132 [(0,0)] []))) (kC (kF j_lOp) (kC kI (kC kI kN)))))) (kC (Cod.var 0 100 (kC (kG j_lCounter) (kC (kG j_lRange) (kC (kG j_lLease) (kC (kG j_lInt) (kC (kG j_lEntry) (kC (kG j_lReg) (kC (kG j_lElem) (kC (kG j_lEntry) (kC (kG j_lSum) (kC (kG j_lBind) (kC (kG j_lEntry) (kC (kG j_lReg) (kC (kG j_lElem) (kC (kG j_lEntry) (kC (kG j_lSum) (kC (kG j_lBind) (kC (kG j_lEntry) (kC (kG j_lReg) (kC (kG j_lElem) (kC (kG j_lEntry) (kC (kG j_lSum) (kC (kG j_lBind) (kC (kA 2) (kC kJ (kC kJ (kC kJ (kC kJ (kC kJ (kC kJ (kC kJ (kC kJ (kC (kA 3) (kC (kA 4) (kC (kA 5) (kC kJ (kC kJ (kC kJ (kC kJ (kC kJ (kC kJ (kC kJ (kC kJ (kC (kA 6) (kC (kA 7) (kC (kA 8) (kC kJ (kC kJ (kC kJ (kC kJ (kC kJ (kC kJ (kC kJ (kC kJ (kC (kA 9) (kC (kA 10) (kC (kA 11) (kC kJ (kC kJ (kC kJ (kC kJ (kC kJ (kC kJ (kC kJ (kC kJ (kC (kA 12) (kC (kA 13) (kC (kA 14) (kC kJ (kC kJ (kC kJ (kC kJ (kC kJ (kC kJ (kC kJ (kC kJ (kC (kA 15) (kC (kA 16) (kC (kA 17) (kC kJ (kC kJ (kC kJ (kC kJ (kC kJ (kC kJ (kC kJ (kC kJ (kC (kA 18) (kC (kA 19) (kC (kA 20) (kC (kA 21) (kC kJ (kC kJ (kC kJ (kC kJ (kC kJ (kC kJ (kC (kG j_lWant) (kC (kG j_lOp) kN))))))))))))))))))))))))))))))))))))))))))))))))))))))))))))))))))))))))))))))))))))))))))))))))))) (kC (Cod.var 1 45 (kC kJ (kC kJ (kC kJ (kC kJ (kC kJ (kC kJ (kC (kA 22) (kC (kA 23) (kC (kA 24) kN)))))))))) (kC (kR 2 61 j_lOp) (kC (kR 3 133 j_lSlice) (kC (kR 4 153 j_lRange) (kC (kR 5 3 j_lInt) (kC (kR 6 133 j_lSlice) (kC (kR 7 153 j_lRange) (kC (kR 8 3 j_lInt) (kC (kR 9 133 j_lSlice) (kC (kR 10 153 j_lRange) (kC (kR 11 3 j_lInt) (kC (kR 12 133 j_lSlice) (kC (kR 13 153 j_lRange) (kC (kR 14 3 j_lInt) (kC (kR 15 133 j_lSlice) (kC (kR 16 153 j_lRange) (kC (kR 17 3 j_lInt) (kC (kR 18 133 j_lSlice) (kC (kR 19 153 j_lRange) (kC (kR 20 3 j_lInt) (kC (kR 21 66 j_lEntry) (kC (kR 22 133 j_lSlice) (kC (kR 23 153 j_lRange) (kC (kR 24 3 j_lInt) kN)))))))))))))))))))))))))) (fun p=>(p.1.2.2.2.1,p.1.2.2.2.2.1,p.1.2.2.2.2.2.1,(Clerk.mk (Desk.mk (Book.mk p.2.1.1 p.2.1.2.1 p.2.1.2.2.1 p.2.1.2.2.2.1) (A3Coll.mk (Coll.mk p.2.1.2.2.2.2.1 p.2.1.2.2.2.2.2.1 p.2.1.2.2.2.2.2.2.1 p.2.1.2.2.2.2.2.2.2.1 (t8 p.2.1).1 (t8 p.2.1).2.1) (Coll.mk (t8 p.2.1).2.2.1 (t8 p.2.1).2.2.2.1 (t8 p.2.1).2.2.2.2.1 (t8 p.2.1).2.2.2.2.2.1 (t8 p.2.1).2.2.2.2.2.2.1 (t8 p.2.1).2.2.2.2.2.2.2.1) (Coll.mk (t8 (t8 p.2.1)).1 (t8 (t8 p.2.1)).2.1 (t8 (t8 p.2.1)).2.2.1 (t8 (t8 p.2.1)).2.2.2.1 (t8 (t8 p.2.1)).2.2.2.2.1 (t8 (t8 p.2.1)).2.2.2.2.2.1)) p.2.2.2.1 (A6Device.mk (Device.mk (t8 (t8 p.2.1)).2.2.2.2.2.2.2.1 (t8 (t8 (t8 p.2.1))).1 (Reply.mk (t8 (t8 (t8 p.2.1))).2.1 (t8 (t8 (t8 p.2.1))).2.2.1 (Lease.mk (t8 (t8 (t8 p.2.1))).2.2.2.1 (t8 (t8 (t8 p.2.1))).2.2.2.2.1 (t8 (t8 (t8 p.2.1))).2.2.2.2.2.1 (t8 (t8 (t8 p.2.1))).2.2.2.2.2.2.1 p.2.2.2.2.1 p.2.2.2.2.2.1 p.2.2.2.2.2.2.1))) (Device.mk (t32 p.2.1).2.2.1 (t32 p.2.1).2.2.2.1 (Reply.mk (t32 p.2.1).2.2.2.2.1 (t32 p.2.1).2.2.2.2.2.1 (Lease.mk (t32 p.2.1).2.2.2.2.2.2.1 (t32 p.2.1).2.2.2.2.2.2.2.1 (t8 (t32 p.2.1)).1 (t8 (t32 p.2.1)).2.1 p.2.2.2.2.2.2.2.1 p.2.2.2.2.2.2.2.2.1 (t8 p.2).1))) (Device.mk (t8 (t32 p.2.1)).2.2.2.2.2.1 (t8 (t32 p.2.1)).2.2.2.2.2.2.1 (Reply.mk (t8 (t32 p.2.1)).2.2.2.2.2.2.2.1 (t8 (t8 (t32 p.2.1))).1 (Lease.mk (t8 (t8 (t32 p.2.1))).2.1 (t8 (t8 (t32 p.2.1))).2.2.1 (t8 (t8 (t32 p.2.1))).2.2.2.1 (t8 (t8 (t32 p.2.1))).2.2.2.2.1 (t8 p.2).2.1 (t8 p.2).2.2.1 (t8 p.2).2.2.2.1))) (Device.mk (t8 (t8 (t8 (t32 p.2.1)))).1 (t8 (t8 (t8 (t32 p.2.1)))).2.1 (Reply.mk (t8 (t8 (t8 (t32 p.2.1)))).2.2.1 (t8 (t8 (t8 (t32 p.2.1)))).2.2.2.1 (Lease.mk (t8 (t8 (t8 (t32 p.2.1)))).2.2.2.2.1 (t8 (t8 (t8 (t32 p.2.1)))).2.2.2.2.2.1 (t8 (t8 (t8 (t32 p.2.1)))).2.2.2.2.2.2.1 (t8 (t8 (t8 (t32 p.2.1)))).2.2.2.2.2.2.2.1 (t8 p.2).2.2.2.2.1 (t8 p.2).2.2.2.2.2.1 (t8 p.2).2.2.2.2.2.2.1))) (Device.mk (t32 (t32 p.2.1)).2.2.2.1 (t32 (t32 p.2.1)).2.2.2.2.1 (Reply.mk (t32 (t32 p.2.1)).2.2.2.2.2.1 (t32 (t32 p.2.1)).2.2.2.2.2.2.1 (Lease.mk (t32 (t32 p.2.1)).2.2.2.2.2.2.2.1 (t8 (t32 (t32 p.2.1))).1 (t8 (t32 (t32 p.2.1))).2.1 (t8 (t32 (t32 p.2.1))).2.2.1 (t8 p.2).2.2.2.2.2.2.2.1 (t8 (t8 p.2)).1 (t8 (t8 p.2)).2.1))) (Device.mk (t8 (t32 (t32 p.2.1))).2.2.2.2.2.2.1 (t8 (t32 (t32 p.2.1))).2.2.2.2.2.2.2.1 (Reply.mk (t8 (t8 (t32 (t32 p.2.1)))).1 (t8 (t8 (t32 (t32 p.2.1)))).2.1 (Lease.mk (t8 (t8 (t32 (t32 p.2.1)))).2.2.1 (t8 (t8 (t32 (t32 p.2.1)))).2.2.2.1 (t8 (t8 (t32 (t32 p.2.1)))).2.2.2.2.1 (t8 (t8 (t32 (t32 p.2.1)))).2.2.2.2.2.1 (t8 (t8 p.2)).2.2.1 (t8 (t8 p.2)).2.2.2.1 (t8 (t8 p.2)).2.2.2.2.1)))) (t8 (t8 p.2)).2.2.2.2.2.1 (t8 (t8 (t8 (t32 (t32 p.2.1))))).2.2.1) (Cmd.mk (t8 (t8 (t8 (t32 (t32 p.2.1))))).2.2.2.1 (t8 (t8 (t8 (t32 (t32 p.2.1))))).2.2.2.2.1 (t8 (t8 (t8 (t32 (t32 p.2.1))))).2.2.2.2.2.1 (t8 (t8 (t8 (t32 (t32 p.2.1))))).2.2.2.2.2.2.1 (t8 (t8 (t8 (t32 (t32 p.2.1))))).2.2.2.2.2.2.2.1 (t32 (t32 (t32 p.2.1))).1 (t32 (t32 (t32 p.2.1))).2.1)),(Reply.mk p.2.2.1.1 p.2.2.1.2.1 (Lease.mk p.2.2.1.2.2.1 p.2.2.1.2.2.2.1 p.2.2.1.2.2.2.2.1 p.2.2.1.2.2.2.2.2.1 (t8 (t8 p.2)).2.2.2.2.2.2.1 (t8 (t8 p.2)).2.2.2.2.2.2.2.1 (t8 (t8 (t8 p.2))).1)))) (fun (x:tY26)=>(((),((),((),(x.1,(x.2.1,(x.2.2.1,())))))),((x.2.2.2.1.d.book.counters,(x.2.2.2.1.d.book.free,(x.2.2.2.1.d.book.leases,(x.2.2.2.1.d.book.bound,(x.2.2.2.1.d.colls.a0.v,(x.2.2.2.1.d.colls.a0.regs,(x.2.2.2.1.d.colls.a0.elems,(x.2.2.2.1.d.colls.a0.gone,(x.2.2.2.1.d.colls.a0.sums,(x.2.2.2.1.d.colls.a0.binds,(x.2.2.2.1.d.colls.a1.v,(x.2.2.2.1.d.colls.a1.regs,(x.2.2.2.1.d.colls.a1.elems,(x.2.2.2.1.d.colls.a1.gone,(x.2.2.2.1.d.colls.a1.sums,(x.2.2.2.1.d.colls.a1.binds,(x.2.2.2.1.d.colls.a2.v,(x.2.2.2.1.d.colls.a2.regs,(x.2.2.2.1.d.colls.a2.elems,(x.2.2.2.1.d.colls.a2.gone,(x.2.2.2.1.d.colls.a2.sums,(x.2.2.2.1.d.colls.a2.binds,((),(x.2.2.2.1.d.dev.a0.epoch,(x.2.2.2.1.d.dev.a0.req,(x.2.2.2.1.d.dev.a0.reply.err,(x.2.2.2.1.d.dev.a0.reply.n,(x.2.2.2.1.d.dev.a0.reply.lease.device,(x.2.2.2.1.d.dev.a0.reply.lease.epoch,(x.2.2.2.1.d.dev.a0.reply.lease.until_,(x.2.2.2.1.d.dev.a0.reply.lease.last,((),((),((),(x.2.2.2.1.d.dev.a1.epoch,(x.2.2.2.1.d.dev.a1.req,(x.2.2.2.1.d.dev.a1.reply.err,(x.2.2.2.1.d.dev.a1.reply.n,(x.2.2.2.1.d.dev.a1.reply.lease.device,(x.2.2.2.1.d.dev.a1.reply.lease.epoch,(x.2.2.2.1.d.dev.a1.reply.lease.until_,(x.2.2.2.1.d.dev.a1.reply.lease.last,((),((),((),(x.2.2.2.1.d.dev.a2.epoch,(x.2.2.2.1.d.dev.a2.req,(x.2.2.2.1.d.dev.a2.reply.err,(x.2.2.2.1.d.dev.a2.reply.n,(x.2.2.2.1.d.dev.a2.reply.lease.device,(x.2.2.2.1.d.dev.a2.reply.lease.epoch,(x.2.2.2.1.d.dev.a2.reply.lease.until_,(x.2.2.2.1.d.dev.a2.reply.lease.last,((),((),((),(x.2.2.2.1.d.dev.a3.epoch,(x.2.2.2.1.d.dev.a3.req,(x.2.2.2.1.d.dev.a3.reply.err,(x.2.2.2.1.d.dev.a3.reply.n,(x.2.2.2.1.d.dev.a3.reply.lease.device,(x.2.2.2.1.d.dev.a3.reply.lease.epoch,(x.2.2.2.1.d.dev.a3.reply.lease.until_,(x.2.2.2.1.d.dev.a3.reply.lease.last,((),((),((),(x.2.2.2.1.d.dev.a4.epoch,(x.2.2.2.1.d.dev.a4.req,(x.2.2.2.1.d.dev.a4.reply.err,(x.2.2.2.1.d.dev.a4.reply.n,(x.2.2.2.1.d.dev.a4.reply.lease.device,(x.2.2.2.1.d.dev.a4.reply.lease.epoch,(x.2.2.2.1.d.dev.a4.reply.lease.until_,(x.2.2.2.1.d.dev.a4.reply.lease.last,((),((),((),(x.2.2.2.1.d.dev.a5.epoch,(x.2.2.2.1.d.dev.a5.req,(x.2.2.2.1.d.dev.a5.reply.err,(x.2.2.2.1.d.dev.a5.reply.n,(x.2.2.2.1.d.dev.a5.reply.lease.device,(x.2.2.2.1.d.dev.a5.reply.lease.epoch,(x.2.2.2.1.d.dev.a5.reply.lease.until_,(x.2.2.2.1.d.dev.a5.reply.lease.last,((),((),((),((),(x.2.2.2.1.d.now,(x.2.2.2.1.c.kind,(x.2.2.2.1.c.device,(x.2.2.2.1.c.epoch,(x.2.2.2.1.c.req,(x.2.2.2.1.c.n,(x.2.2.2.1.c.wants,(x.2.2.2.1.c.ops,())))))))))))))))))))))))))))))))))))))))))))))))))))))))))))))))))))))))))))))))))))))))))))))))))),((x.2.2.2.2.err,(x.2.2.2.2.n,(x.2.2.2.2.lease.device,(x.2.2.2.2.lease.epoch,(x.2.2.2.2.lease.until_,(x.2.2.2.2.lease.last,((),((),((),()))))))))),(x.2.2.2.1.d.log,(x.2.2.2.1.d.dev.a0.reply.lease.slices,(x.2.2.2.1.d.dev.a0.reply.lease.ids,(x.2.2.2.1.d.dev.a0.reply.lease.used,(x.2.2.2.1.d.dev.a1.reply.lease.slices,(x.2.2.2.1.d.dev.a1.reply.lease.ids,(x.2.2.2.1.d.dev.a1.reply.lease.used,(x.2.2.2.1.d.dev.a2.reply.lease.slices,(x.2.2.2.1.d.dev.a2.reply.lease.ids,(x.2.2.2.1.d.dev.a2.reply.lease.used,(x.2.2.2.1.d.dev.a3.reply.lease.slices,(x.2.2.2.1.d.dev.a3.reply.lease.ids,(x.2.2.2.1.d.dev.a3.reply.lease.used,(x.2.2.2.1.d.dev.a4.reply.lease.slices,(x.2.2.2.1.d.dev.a4.reply.lease.ids,(x.2.2.2.1.d.dev.a4.reply.lease.used,(x.2.2.2.1.d.dev.a5.reply.lease.slices,(x.2.2.2.1.d.dev.a5.reply.lease.ids,(x.2.2.2.1.d.dev.a5.reply.lease.used,(x.2.2.2.1.d.lost,(x.2.2.2.2.lease.slices,(x.2.2.2.2.lease.ids,(x.2.2.2.2.lease.used,()))))))))))))))))))))))))))) (fun _=>rfl)
def co0_L86_8:kT (Clerk×Reply):=kO (kS 50 (kC (kP 0 0) (kC (kP 1 0) kN)) (kC (Cod.var 0 100 (kC (kG j_lCounter) (kC (kG j_lRange) (kC (kG j_lLease) (kC (kG j_lInt) (kC (kG j_lEntry) (kC (kG j_lReg) (kC (kG j_lElem) (kC (kG j_lEntry) (kC (kG j_lSum) (kC (kG j_lBind) (kC (kG j_lEntry) (kC (kG j_lReg) (kC (kG j_lElem) (kC (kG j_lEntry) (kC (kG j_lSum) (kC (kG j_lBind) (kC (kG j_lEntry) (kC (kG j_lReg) (kC (kG j_lElem) (kC (kG j_lEntry) (kC (kG j_lSum) (kC (kG j_lBind) (kC (kA 30) (kC kJ (kC kJ (kC kJ (kC kJ (kC kJ (kC kJ (kC kJ (kC kJ (kC (kA 31) (kC (kA 32) (kC (kA 33) (kC kJ (kC kJ (kC kJ (kC kJ (kC kJ (kC kJ (kC kJ (kC kJ (kC (kA 34) (kC (kA 35) (kC (kA 36) (kC kJ (kC kJ (kC kJ (kC kJ (kC kJ (kC kJ (kC kJ (kC kJ (kC (kA 37) (kC (kA 38) (kC (kA 39) (kC kJ (kC kJ (kC kJ (kC kJ (kC kJ (kC kJ (kC kJ (kC kJ (kC (kA 40) (kC (kA 41) (kC (kA 42) (kC kJ (kC kJ (kC kJ (kC kJ (kC kJ (kC kJ (kC kJ (kC kJ (kC (kA 43) (kC (kA 44) (kC (kA 45) (kC kJ (kC kJ (kC kJ (kC kJ (kC kJ (kC kJ (kC kJ (kC kJ (kC (kA 46) (kC (kA 47) (kC (kA 48) (kC (kA 49) (kC kJ (kC kJ (kC kJ (kC kJ (kC kJ (kC kJ (kC (kG j_lWant) (kC (kG j_lOp) kN))))))))))))))))))))))))))))))))))))))))))))))))))))))))))))))))))))))))))))))))))))))))))))))))))) (kC (Cod.var 1 45 (kC kJ (kC kJ (kC kJ (kC kJ (kC kJ (kC kJ (kC (kA 22) (kC (kA 23) (kC (kA 24) kN)))))))))) (kC (kR 22 133 j_lSlice) (kC (kR 23 153 j_lRange) (kC (kR 24 3 j_lInt) (kC (kR 30 61 j_lOp) (kC (kR 31 133 j_lSlice) (kC (kR 32 153 j_lRange) (kC (kR 33 3 j_lInt) (kC (kR 34 133 j_lSlice) (kC (kR 35 153 j_lRange) (kC (kR 36 3 j_lInt) (kC (kR 37 133 j_lSlice) (kC (kR 38 153 j_lRange) (kC (kR 39 3 j_lInt) (kC (kR 40 133 j_lSlice) (kC (kR 41 153 j_lRange) (kC (kR 42 3 j_lInt) (kC (kR 43 133 j_lSlice) (kC (kR 44 153 j_lRange) (kC (kR 45 3 j_lInt) (kC (kR 46 133 j_lSlice) (kC (kR 47 153 j_lRange) (kC (kR 48 3 j_lInt) (kC (kR 49 66 j_lEntry) kN)))))))))))))))))))))))))) (fun p=>((Clerk.mk (Desk.mk (Book.mk p.2.1.1 p.2.1.2.1 p.2.1.2.2.1 p.2.1.2.2.2.1) (A3Coll.mk (Coll.mk p.2.1.2.2.2.2.1 p.2.1.2.2.2.2.2.1 p.2.1.2.2.2.2.2.2.1 p.2.1.2.2.2.2.2.2.2.1 (t8 p.2.1).1 (t8 p.2.1).2.1) (Coll.mk (t8 p.2.1).2.2.1 (t8 p.2.1).2.2.2.1 (t8 p.2.1).2.2.2.2.1 (t8 p.2.1).2.2.2.2.2.1 (t8 p.2.1).2.2.2.2.2.2.1 (t8 p.2.1).2.2.2.2.2.2.2.1) (Coll.mk (t8 (t8 p.2.1)).1 (t8 (t8 p.2.1)).2.1 (t8 (t8 p.2.1)).2.2.1 (t8 (t8 p.2.1)).2.2.2.1 (t8 (t8 p.2.1)).2.2.2.2.1 (t8 (t8 p.2.1)).2.2.2.2.2.1)) p.2.2.2.2.2.2.1 (A6Device.mk (Device.mk (t8 (t8 p.2.1)).2.2.2.2.2.2.2.1 (t8 (t8 (t8 p.2.1))).1 (Reply.mk (t8 (t8 (t8 p.2.1))).2.1 (t8 (t8 (t8 p.2.1))).2.2.1 (Lease.mk (t8 (t8 (t8 p.2.1))).2.2.2.1 (t8 (t8 (t8 p.2.1))).2.2.2.2.1 (t8 (t8 (t8 p.2.1))).2.2.2.2.2.1 (t8 (t8 (t8 p.2.1))).2.2.2.2.2.2.1 p.2.2.2.2.2.2.2.1 p.2.2.2.2.2.2.2.2.1 (t8 p.2).1))) (Device.mk (t32 p.2.1).2.2.1 (t32 p.2.1).2.2.2.1 (Reply.mk (t32 p.2.1).2.2.2.2.1 (t32 p.2.1).2.2.2.2.2.1 (Lease.mk (t32 p.2.1).2.2.2.2.2.2.1 (t32 p.2.1).2.2.2.2.2.2.2.1 (t8 (t32 p.2.1)).1 (t8 (t32 p.2.1)).2.1 (t8 p.2).2.1 (t8 p.2).2.2.1 (t8 p.2).2.2.2.1))) (Device.mk (t8 (t32 p.2.1)).2.2.2.2.2.1 (t8 (t32 p.2.1)).2.2.2.2.2.2.1 (Reply.mk (t8 (t32 p.2.1)).2.2.2.2.2.2.2.1 (t8 (t8 (t32 p.2.1))).1 (Lease.mk (t8 (t8 (t32 p.2.1))).2.1 (t8 (t8 (t32 p.2.1))).2.2.1 (t8 (t8 (t32 p.2.1))).2.2.2.1 (t8 (t8 (t32 p.2.1))).2.2.2.2.1 (t8 p.2).2.2.2.2.1 (t8 p.2).2.2.2.2.2.1 (t8 p.2).2.2.2.2.2.2.1))) (Device.mk (t8 (t8 (t8 (t32 p.2.1)))).1 (t8 (t8 (t8 (t32 p.2.1)))).2.1 (Reply.mk (t8 (t8 (t8 (t32 p.2.1)))).2.2.1 (t8 (t8 (t8 (t32 p.2.1)))).2.2.2.1 (Lease.mk (t8 (t8 (t8 (t32 p.2.1)))).2.2.2.2.1 (t8 (t8 (t8 (t32 p.2.1)))).2.2.2.2.2.1 (t8 (t8 (t8 (t32 p.2.1)))).2.2.2.2.2.2.1 (t8 (t8 (t8 (t32 p.2.1)))).2.2.2.2.2.2.2.1 (t8 p.2).2.2.2.2.2.2.2.1 (t8 (t8 p.2)).1 (t8 (t8 p.2)).2.1))) (Device.mk (t32 (t32 p.2.1)).2.2.2.1 (t32 (t32 p.2.1)).2.2.2.2.1 (Reply.mk (t32 (t32 p.2.1)).2.2.2.2.2.1 (t32 (t32 p.2.1)).2.2.2.2.2.2.1 (Lease.mk (t32 (t32 p.2.1)).2.2.2.2.2.2.2.1 (t8 (t32 (t32 p.2.1))).1 (t8 (t32 (t32 p.2.1))).2.1 (t8 (t32 (t32 p.2.1))).2.2.1 (t8 (t8 p.2)).2.2.1 (t8 (t8 p.2)).2.2.2.1 (t8 (t8 p.2)).2.2.2.2.1))) (Device.mk (t8 (t32 (t32 p.2.1))).2.2.2.2.2.2.1 (t8 (t32 (t32 p.2.1))).2.2.2.2.2.2.2.1 (Reply.mk (t8 (t8 (t32 (t32 p.2.1)))).1 (t8 (t8 (t32 (t32 p.2.1)))).2.1 (Lease.mk (t8 (t8 (t32 (t32 p.2.1)))).2.2.1 (t8 (t8 (t32 (t32 p.2.1)))).2.2.2.1 (t8 (t8 (t32 (t32 p.2.1)))).2.2.2.2.1 (t8 (t8 (t32 (t32 p.2.1)))).2.2.2.2.2.1 (t8 (t8 p.2)).2.2.2.2.2.1 (t8 (t8 p.2)).2.2.2.2.2.2.1 (t8 (t8 p.2)).2.2.2.2.2.2.2.1)))) (t8 (t8 (t8 p.2))).1 (t8 (t8 (t8 (t32 (t32 p.2.1))))).2.2.1) (Cmd.mk (t8 (t8 (t8 (t32 (t32 p.2.1))))).2.2.2.1 (t8 (t8 (t8 (t32 (t32 p.2.1))))).2.2.2.2.1 (t8 (t8 (t8 (t32 (t32 p.2.1))))).2.2.2.2.2.1 (t8 (t8 (t8 (t32 (t32 p.2.1))))).2.2.2.2.2.2.1 (t8 (t8 (t8 (t32 (t32 p.2.1))))).2.2.2.2.2.2.2.1 (t32 (t32 (t32 p.2.1))).1 (t32 (t32 (t32 p.2.1))).2.1)),(Reply.mk p.2.2.1.1 p.2.2.1.2.1 (Lease.mk p.2.2.1.2.2.1 p.2.2.1.2.2.2.1 p.2.2.1.2.2.2.2.1 p.2.2.1.2.2.2.2.2.1 p.2.2.2.1 p.2.2.2.2.1 p.2.2.2.2.2.1)))) (fun (x:Clerk×Reply)=>(((),((),())),((x.1.d.book.counters,(x.1.d.book.free,(x.1.d.book.leases,(x.1.d.book.bound,(x.1.d.colls.a0.v,(x.1.d.colls.a0.regs,(x.1.d.colls.a0.elems,(x.1.d.colls.a0.gone,(x.1.d.colls.a0.sums,(x.1.d.colls.a0.binds,(x.1.d.colls.a1.v,(x.1.d.colls.a1.regs,(x.1.d.colls.a1.elems,(x.1.d.colls.a1.gone,(x.1.d.colls.a1.sums,(x.1.d.colls.a1.binds,(x.1.d.colls.a2.v,(x.1.d.colls.a2.regs,(x.1.d.colls.a2.elems,(x.1.d.colls.a2.gone,(x.1.d.colls.a2.sums,(x.1.d.colls.a2.binds,((),(x.1.d.dev.a0.epoch,(x.1.d.dev.a0.req,(x.1.d.dev.a0.reply.err,(x.1.d.dev.a0.reply.n,(x.1.d.dev.a0.reply.lease.device,(x.1.d.dev.a0.reply.lease.epoch,(x.1.d.dev.a0.reply.lease.until_,(x.1.d.dev.a0.reply.lease.last,((),((),((),(x.1.d.dev.a1.epoch,(x.1.d.dev.a1.req,(x.1.d.dev.a1.reply.err,(x.1.d.dev.a1.reply.n,(x.1.d.dev.a1.reply.lease.device,(x.1.d.dev.a1.reply.lease.epoch,(x.1.d.dev.a1.reply.lease.until_,(x.1.d.dev.a1.reply.lease.last,((),((),((),(x.1.d.dev.a2.epoch,(x.1.d.dev.a2.req,(x.1.d.dev.a2.reply.err,(x.1.d.dev.a2.reply.n,(x.1.d.dev.a2.reply.lease.device,(x.1.d.dev.a2.reply.lease.epoch,(x.1.d.dev.a2.reply.lease.until_,(x.1.d.dev.a2.reply.lease.last,((),((),((),(x.1.d.dev.a3.epoch,(x.1.d.dev.a3.req,(x.1.d.dev.a3.reply.err,(x.1.d.dev.a3.reply.n,(x.1.d.dev.a3.reply.lease.device,(x.1.d.dev.a3.reply.lease.epoch,(x.1.d.dev.a3.reply.lease.until_,(x.1.d.dev.a3.reply.lease.last,((),((),((),(x.1.d.dev.a4.epoch,(x.1.d.dev.a4.req,(x.1.d.dev.a4.reply.err,(x.1.d.dev.a4.reply.n,(x.1.d.dev.a4.reply.lease.device,(x.1.d.dev.a4.reply.lease.epoch,(x.1.d.dev.a4.reply.lease.until_,(x.1.d.dev.a4.reply.lease.last,((),((),((),(x.1.d.dev.a5.epoch,(x.1.d.dev.a5.req,(x.1.d.dev.a5.reply.err,(x.1.d.dev.a5.reply.n,(x.1.d.dev.a5.reply.lease.device,(x.1.d.dev.a5.reply.lease.epoch,(x.1.d.dev.a5.reply.lease.until_,(x.1.d.dev.a5.reply.lease.last,((),((),((),((),(x.1.d.now,(x.1.c.kind,(x.1.c.device,(x.1.c.epoch,(x.1.c.req,(x.1.c.n,(x.1.c.wants,(x.1.c.ops,())))))))))))))))))))))))))))))))))))))))))))))))))))))))))))))))))))))))))))))))))))))))))))))))))),((x.2.err,(x.2.n,(x.2.lease.device,(x.2.lease.epoch,(x.2.lease.until_,(x.2.lease.last,((),((),((),()))))))))),(x.2.lease.slices,(x.2.lease.ids,(x.2.lease.used,(x.1.d.log,(x.1.d.dev.a0.reply.lease.slices,(x.1.d.dev.a0.reply.lease.ids,(x.1.d.dev.a0.reply.lease.used,(x.1.d.dev.a1.reply.lease.slices,(x.1.d.dev.a1.reply.lease.ids,(x.1.d.dev.a1.reply.lease.used,(x.1.d.dev.a2.reply.lease.slices,(x.1.d.dev.a2.reply.lease.ids,(x.1.d.dev.a2.reply.lease.used,(x.1.d.dev.a3.reply.lease.slices,(x.1.d.dev.a3.reply.lease.ids,(x.1.d.dev.a3.reply.lease.used,(x.1.d.dev.a4.reply.lease.slices,(x.1.d.dev.a4.reply.lease.ids,(x.1.d.dev.a4.reply.lease.used,(x.1.d.dev.a5.reply.lease.slices,(x.1.d.dev.a5.reply.lease.ids,(x.1.d.dev.a5.reply.lease.used,(x.1.d.lost,()))))))))))))))))))))))))))) (fun _=>rfl)
def co1_L86_8:kT (Clerk×Reply×(List Slice)×(List Range)×(List Int)):=kO (kS 50 (kC (kP 0 0) (kC (kP 1 0) kN)) (kC (Cod.var 0 100 (kC (kG j_lCounter) (kC (kG j_lRange) (kC (kG j_lLease) (kC (kG j_lInt) (kC (kG j_lEntry) (kC (kG j_lReg) (kC (kG j_lElem) (kC (kG j_lEntry) (kC (kG j_lSum) (kC (kG j_lBind) (kC (kG j_lEntry) (kC (kG j_lReg) (kC (kG j_lElem) (kC (kG j_lEntry) (kC (kG j_lSum) (kC (kG j_lBind) (kC (kG j_lEntry) (kC (kG j_lReg) (kC (kG j_lElem) (kC (kG j_lEntry) (kC (kG j_lSum) (kC (kG j_lBind) (kC (kA 30) (kC kJ (kC kJ (kC kJ (kC kJ (kC kJ (kC kJ (kC kJ (kC kJ (kC (kA 31) (kC (kA 32) (kC (kA 33) (kC kJ (kC kJ (kC kJ (kC kJ (kC kJ (kC kJ (kC kJ (kC kJ (kC (kA 34) (kC (kA 35) (kC (kA 36) (kC kJ (kC kJ (kC kJ (kC kJ (kC kJ (kC kJ (kC kJ (kC kJ (kC (kA 37) (kC (kA 38) (kC (kA 39) (kC kJ (kC kJ (kC kJ (kC kJ (kC kJ (kC kJ (kC kJ (kC kJ (kC (kA 40) (kC (kA 41) (kC (kA 42) (kC kJ (kC kJ (kC kJ (kC kJ (kC kJ (kC kJ (kC kJ (kC kJ (kC (kA 43) (kC (kA 44) (kC (kA 45) (kC kJ (kC kJ (kC kJ (kC kJ (kC kJ (kC kJ (kC kJ (kC kJ (kC (kA 46) (kC (kA 47) (kC (kA 48) (kC (kA 49) (kC kJ (kC kJ (kC kJ (kC kJ (kC kJ (kC kJ (kC (kG j_lWant) (kC (kG j_lOp) kN))))))))))))))))))))))))))))))))))))))))))))))))))))))))))))))))))))))))))))))))))))))))))))))))))) (kC (Cod.var 1 45 cc_Reply) (kC (kR 22 133 j_lSlice) (kC (kR 23 153 j_lRange) (kC (kR 24 3 j_lInt) (kC (kR 30 61 j_lOp) (kC (kR 31 133 j_lSlice) (kC (kR 32 153 j_lRange) (kC (kR 33 3 j_lInt) (kC (kR 34 133 j_lSlice) (kC (kR 35 153 j_lRange) (kC (kR 36 3 j_lInt) (kC (kR 37 133 j_lSlice) (kC (kR 38 153 j_lRange) (kC (kR 39 3 j_lInt) (kC (kR 40 133 j_lSlice) (kC (kR 41 153 j_lRange) (kC (kR 42 3 j_lInt) (kC (kR 43 133 j_lSlice) (kC (kR 44 153 j_lRange) (kC (kR 45 3 j_lInt) (kC (kR 46 133 j_lSlice) (kC (kR 47 153 j_lRange) (kC (kR 48 3 j_lInt) (kC (kR 49 66 j_lEntry) kN)))))))))))))))))))))))))) (fun p=>((Clerk.mk (Desk.mk (Book.mk p.2.1.1 p.2.1.2.1 p.2.1.2.2.1 p.2.1.2.2.2.1) (A3Coll.mk (Coll.mk p.2.1.2.2.2.2.1 p.2.1.2.2.2.2.2.1 p.2.1.2.2.2.2.2.2.1 p.2.1.2.2.2.2.2.2.2.1 (t8 p.2.1).1 (t8 p.2.1).2.1) (Coll.mk (t8 p.2.1).2.2.1 (t8 p.2.1).2.2.2.1 (t8 p.2.1).2.2.2.2.1 (t8 p.2.1).2.2.2.2.2.1 (t8 p.2.1).2.2.2.2.2.2.1 (t8 p.2.1).2.2.2.2.2.2.2.1) (Coll.mk (t8 (t8 p.2.1)).1 (t8 (t8 p.2.1)).2.1 (t8 (t8 p.2.1)).2.2.1 (t8 (t8 p.2.1)).2.2.2.1 (t8 (t8 p.2.1)).2.2.2.2.1 (t8 (t8 p.2.1)).2.2.2.2.2.1)) p.2.2.2.2.2.2.1 (A6Device.mk (Device.mk (t8 (t8 p.2.1)).2.2.2.2.2.2.2.1 (t8 (t8 (t8 p.2.1))).1 (Reply.mk (t8 (t8 (t8 p.2.1))).2.1 (t8 (t8 (t8 p.2.1))).2.2.1 (Lease.mk (t8 (t8 (t8 p.2.1))).2.2.2.1 (t8 (t8 (t8 p.2.1))).2.2.2.2.1 (t8 (t8 (t8 p.2.1))).2.2.2.2.2.1 (t8 (t8 (t8 p.2.1))).2.2.2.2.2.2.1 p.2.2.2.2.2.2.2.1 p.2.2.2.2.2.2.2.2.1 (t8 p.2).1))) (Device.mk (t32 p.2.1).2.2.1 (t32 p.2.1).2.2.2.1 (Reply.mk (t32 p.2.1).2.2.2.2.1 (t32 p.2.1).2.2.2.2.2.1 (Lease.mk (t32 p.2.1).2.2.2.2.2.2.1 (t32 p.2.1).2.2.2.2.2.2.2.1 (t8 (t32 p.2.1)).1 (t8 (t32 p.2.1)).2.1 (t8 p.2).2.1 (t8 p.2).2.2.1 (t8 p.2).2.2.2.1))) (Device.mk (t8 (t32 p.2.1)).2.2.2.2.2.1 (t8 (t32 p.2.1)).2.2.2.2.2.2.1 (Reply.mk (t8 (t32 p.2.1)).2.2.2.2.2.2.2.1 (t8 (t8 (t32 p.2.1))).1 (Lease.mk (t8 (t8 (t32 p.2.1))).2.1 (t8 (t8 (t32 p.2.1))).2.2.1 (t8 (t8 (t32 p.2.1))).2.2.2.1 (t8 (t8 (t32 p.2.1))).2.2.2.2.1 (t8 p.2).2.2.2.2.1 (t8 p.2).2.2.2.2.2.1 (t8 p.2).2.2.2.2.2.2.1))) (Device.mk (t8 (t8 (t8 (t32 p.2.1)))).1 (t8 (t8 (t8 (t32 p.2.1)))).2.1 (Reply.mk (t8 (t8 (t8 (t32 p.2.1)))).2.2.1 (t8 (t8 (t8 (t32 p.2.1)))).2.2.2.1 (Lease.mk (t8 (t8 (t8 (t32 p.2.1)))).2.2.2.2.1 (t8 (t8 (t8 (t32 p.2.1)))).2.2.2.2.2.1 (t8 (t8 (t8 (t32 p.2.1)))).2.2.2.2.2.2.1 (t8 (t8 (t8 (t32 p.2.1)))).2.2.2.2.2.2.2.1 (t8 p.2).2.2.2.2.2.2.2.1 (t8 (t8 p.2)).1 (t8 (t8 p.2)).2.1))) (Device.mk (t32 (t32 p.2.1)).2.2.2.1 (t32 (t32 p.2.1)).2.2.2.2.1 (Reply.mk (t32 (t32 p.2.1)).2.2.2.2.2.1 (t32 (t32 p.2.1)).2.2.2.2.2.2.1 (Lease.mk (t32 (t32 p.2.1)).2.2.2.2.2.2.2.1 (t8 (t32 (t32 p.2.1))).1 (t8 (t32 (t32 p.2.1))).2.1 (t8 (t32 (t32 p.2.1))).2.2.1 (t8 (t8 p.2)).2.2.1 (t8 (t8 p.2)).2.2.2.1 (t8 (t8 p.2)).2.2.2.2.1))) (Device.mk (t8 (t32 (t32 p.2.1))).2.2.2.2.2.2.1 (t8 (t32 (t32 p.2.1))).2.2.2.2.2.2.2.1 (Reply.mk (t8 (t8 (t32 (t32 p.2.1)))).1 (t8 (t8 (t32 (t32 p.2.1)))).2.1 (Lease.mk (t8 (t8 (t32 (t32 p.2.1)))).2.2.1 (t8 (t8 (t32 (t32 p.2.1)))).2.2.2.1 (t8 (t8 (t32 (t32 p.2.1)))).2.2.2.2.1 (t8 (t8 (t32 (t32 p.2.1)))).2.2.2.2.2.1 (t8 (t8 p.2)).2.2.2.2.2.1 (t8 (t8 p.2)).2.2.2.2.2.2.1 (t8 (t8 p.2)).2.2.2.2.2.2.2.1)))) (t8 (t8 (t8 p.2))).1 (t8 (t8 (t8 (t32 (t32 p.2.1))))).2.2.1) (Cmd.mk (t8 (t8 (t8 (t32 (t32 p.2.1))))).2.2.2.1 (t8 (t8 (t8 (t32 (t32 p.2.1))))).2.2.2.2.1 (t8 (t8 (t8 (t32 (t32 p.2.1))))).2.2.2.2.2.1 (t8 (t8 (t8 (t32 (t32 p.2.1))))).2.2.2.2.2.2.1 (t8 (t8 (t8 (t32 (t32 p.2.1))))).2.2.2.2.2.2.2.1 (t32 (t32 (t32 p.2.1))).1 (t32 (t32 (t32 p.2.1))).2.1)),p.2.2.1,p.2.2.2.1,p.2.2.2.2.1,p.2.2.2.2.2.1)) (fun (x:Clerk×Reply×(List Slice)×(List Range)×(List Int))=>(((),((),())),((x.1.d.book.counters,(x.1.d.book.free,(x.1.d.book.leases,(x.1.d.book.bound,(x.1.d.colls.a0.v,(x.1.d.colls.a0.regs,(x.1.d.colls.a0.elems,(x.1.d.colls.a0.gone,(x.1.d.colls.a0.sums,(x.1.d.colls.a0.binds,(x.1.d.colls.a1.v,(x.1.d.colls.a1.regs,(x.1.d.colls.a1.elems,(x.1.d.colls.a1.gone,(x.1.d.colls.a1.sums,(x.1.d.colls.a1.binds,(x.1.d.colls.a2.v,(x.1.d.colls.a2.regs,(x.1.d.colls.a2.elems,(x.1.d.colls.a2.gone,(x.1.d.colls.a2.sums,(x.1.d.colls.a2.binds,((),(x.1.d.dev.a0.epoch,(x.1.d.dev.a0.req,(x.1.d.dev.a0.reply.err,(x.1.d.dev.a0.reply.n,(x.1.d.dev.a0.reply.lease.device,(x.1.d.dev.a0.reply.lease.epoch,(x.1.d.dev.a0.reply.lease.until_,(x.1.d.dev.a0.reply.lease.last,((),((),((),(x.1.d.dev.a1.epoch,(x.1.d.dev.a1.req,(x.1.d.dev.a1.reply.err,(x.1.d.dev.a1.reply.n,(x.1.d.dev.a1.reply.lease.device,(x.1.d.dev.a1.reply.lease.epoch,(x.1.d.dev.a1.reply.lease.until_,(x.1.d.dev.a1.reply.lease.last,((),((),((),(x.1.d.dev.a2.epoch,(x.1.d.dev.a2.req,(x.1.d.dev.a2.reply.err,(x.1.d.dev.a2.reply.n,(x.1.d.dev.a2.reply.lease.device,(x.1.d.dev.a2.reply.lease.epoch,(x.1.d.dev.a2.reply.lease.until_,(x.1.d.dev.a2.reply.lease.last,((),((),((),(x.1.d.dev.a3.epoch,(x.1.d.dev.a3.req,(x.1.d.dev.a3.reply.err,(x.1.d.dev.a3.reply.n,(x.1.d.dev.a3.reply.lease.device,(x.1.d.dev.a3.reply.lease.epoch,(x.1.d.dev.a3.reply.lease.until_,(x.1.d.dev.a3.reply.lease.last,((),((),((),(x.1.d.dev.a4.epoch,(x.1.d.dev.a4.req,(x.1.d.dev.a4.reply.err,(x.1.d.dev.a4.reply.n,(x.1.d.dev.a4.reply.lease.device,(x.1.d.dev.a4.reply.lease.epoch,(x.1.d.dev.a4.reply.lease.until_,(x.1.d.dev.a4.reply.lease.last,((),((),((),(x.1.d.dev.a5.epoch,(x.1.d.dev.a5.req,(x.1.d.dev.a5.reply.err,(x.1.d.dev.a5.reply.n,(x.1.d.dev.a5.reply.lease.device,(x.1.d.dev.a5.reply.lease.epoch,(x.1.d.dev.a5.reply.lease.until_,(x.1.d.dev.a5.reply.lease.last,((),((),((),((),(x.1.d.now,(x.1.c.kind,(x.1.c.device,(x.1.c.epoch,(x.1.c.req,(x.1.c.n,(x.1.c.wants,(x.1.c.ops,())))))))))))))))))))))))))))))))))))))))))))))))))))))))))))))))))))))))))))))))))))))))))))))))))),(x.2.1,(x.2.2.1,(x.2.2.2.1,(x.2.2.2.2,(x.1.d.log,(x.1.d.dev.a0.reply.lease.slices,(x.1.d.dev.a0.reply.lease.ids,(x.1.d.dev.a0.reply.lease.used,(x.1.d.dev.a1.reply.lease.slices,(x.1.d.dev.a1.reply.lease.ids,(x.1.d.dev.a1.reply.lease.used,(x.1.d.dev.a2.reply.lease.slices,(x.1.d.dev.a2.reply.lease.ids,(x.1.d.dev.a2.reply.lease.used,(x.1.d.dev.a3.reply.lease.slices,(x.1.d.dev.a3.reply.lease.ids,(x.1.d.dev.a3.reply.lease.used,(x.1.d.dev.a4.reply.lease.slices,(x.1.d.dev.a4.reply.lease.ids,(x.1.d.dev.a4.reply.lease.used,(x.1.d.dev.a5.reply.lease.slices,(x.1.d.dev.a5.reply.lease.ids,(x.1.d.dev.a5.reply.lease.used,(x.1.d.lost,()))))))))))))))))))))))))))) (fun _=>rfl)
def sl_L86_8:SFn TL:=SFn.two ch_L86_8.dec (fun p=>L86_8 p.1 p.2.1 p.2.2.1 p.2.2.2.1 p.2.2.2.2) (.exit 0) .ret co0_L86_8.enc co1_L86_8.enc
def cs_lL86_8:cL:=[(39,df_desk_fail)]
def ss_lL86_8:sL:=[(132,sf_clerkInclude)]
def v_L86_8:Env:=envOf tab sl sh [] [(132,.sum),(39,.keep)]
theorem v_L86_8_ok:EnvOK PR (mkD cs_lL86_8 ss_lL86_8) v_L86_8:=envOK_of base aN (aC (okS rfl ok_clerkInclude) (aC (oD ok_desk_fail rfl) aN))
theorem run_L86_8 (x:tY26):Out.run (mkO cs_lL86_8 ss_lL86_8) (evRound v_L86_8 12 20 fd86.an q_L86_8 (loopIn (loopsOf fd86.body) 8) (ch_L86_8.enc x)) (back2 ch_L86_8 co0_L86_8 co1_L86_8 (.exit 0) .ret)=stp_L86_8 x:=by kernel_rfl
theorem ok_L86_8:LoopOK PR (oneS sl_L86_8) nt86 q_L86_8 (loopIn (loopsOf fd86.body) 8) :=
  loop_two v_L86_8_ok (loops:=12) (k:=20) (an:=fd86.an) (by kernel_rfl) (FnSt.subl rfl st86.keys (aC (.inl (by kernel_rfl)) aN)) ch_L86_8 co0_L86_8 co1_L86_8 (.exit 0) .ret rfl rfl stp_L86_8 _ run_L86_8 (fun x y h=>⟨_,h⟩) (fun _=>below_iff.1 rfl)
def clerkMerge (c1:Clerk):Option (Reply×Clerk) :=
 cond (decide (0≤c1.c.device) && decide (c1.c.device < 6))
 (cond (cond ((cond (decide (c1.c.device=0)) c1.d.dev.a0.epoch (cond (decide (c1.c.device=1)) c1.d.dev.a1.epoch (cond (decide (c1.c.device=2)) c1.d.dev.a2.epoch (cond (decide (c1.c.device=3)) c1.d.dev.a3.epoch (cond (decide (c1.c.device=4)) c1.d.dev.a4.epoch c1.d.dev.a5.epoch))))) == 0) true (decide (c1.c.epoch > (cond (decide (c1.c.device=0)) c1.d.dev.a0.epoch (cond (decide (c1.c.device=1)) c1.d.dev.a1.epoch (cond (decide (c1.c.device=2)) c1.d.dev.a2.epoch (cond (decide (c1.c.device=3)) c1.d.dev.a3.epoch (cond (decide (c1.c.device=4)) c1.d.dev.a4.epoch c1.d.dev.a5.epoch))))))))
 (ob (desk_fail 2) fun r1 =>
 some (r1,c1))
 (cond (decide (c1.c.epoch < (cond (decide (c1.c.device=0)) c1.d.dev.a0.epoch (cond (decide (c1.c.device=1)) c1.d.dev.a1.epoch (cond (decide (c1.c.device=2)) c1.d.dev.a2.epoch (cond (decide (c1.c.device=3)) c1.d.dev.a3.epoch (cond (decide (c1.c.device=4)) c1.d.dev.a4.epoch c1.d.dev.a5.epoch)))))))
 (ob (desk_fail 16) fun r2 =>
 some (r2,c1))
 (ob (clerkLost c1.d.lost c1.c.device (cond (decide (c1.c.device=0)) c1.d.dev.a0.epoch (cond (decide (c1.c.device=1)) c1.d.dev.a1.epoch (cond (decide (c1.c.device=2)) c1.d.dev.a2.epoch (cond (decide (c1.c.device=3)) c1.d.dev.a3.epoch (cond (decide (c1.c.device=4)) c1.d.dev.a4.epoch c1.d.dev.a5.epoch)))))) fun r0 =>
 cond (r0)
 (ob (desk_fail 16) fun r3 =>
 some (r3,c1))
 (cond (decide ((c1.c.ops.length:Int) > 20))
 (ob (desk_fail 4) fun r4 =>
 some (r4,c1))
 (ob (L86_8 c1.c.ops (c1.c.ops.length:Int) 0 c1 (Reply.mk 0 0 (Lease.mk 0 0 0 0 [] [] []))) fun y5 =>
 two y5 (fun a6 =>
 ob (clerkIncluded a6.1.d.log a6.1.c.device a6.1.c.epoch) fun r8 =>
 some ((Reply.mk 0 r8 (Lease.mk 0 0 0 0 [] [] [])),a6.1)) (fun b7 =>
 some (b7.2.1,b7.1)))))))
 none
def hc4_Clerk:Cod (List (Nat×En TL)) Clerk:=kO (kC (Cod.var 0 100 (kC (kG j_lCounter) (kC (kG j_lRange) (kC (kG j_lLease) (kC (kG j_lInt) (kC (kG j_lEntry) (kC (kG j_lReg) (kC (kG j_lElem) (kC (kG j_lEntry) (kC (kG j_lSum) (kC (kG j_lBind) (kC (kG j_lEntry) (kC (kG j_lReg) (kC (kG j_lElem) (kC (kG j_lEntry) (kC (kG j_lSum) (kC (kG j_lBind) (kC (kG j_lEntry) (kC (kG j_lReg) (kC (kG j_lElem) (kC (kG j_lEntry) (kC (kG j_lSum) (kC (kG j_lBind) (kC (kA 86) (kC kJ (kC kJ (kC kJ (kC kJ (kC kJ (kC kJ (kC kJ (kC kJ (kC (kA 87) (kC (kA 88) (kC (kA 89) (kC kJ (kC kJ (kC kJ (kC kJ (kC kJ (kC kJ (kC kJ (kC kJ (kC (kA 90) (kC (kA 91) (kC (kA 92) (kC kJ (kC kJ (kC kJ (kC kJ (kC kJ (kC kJ (kC kJ (kC kJ (kC (kA 93) (kC (kA 94) (kC (kA 95) (kC kJ (kC kJ (kC kJ (kC kJ (kC kJ (kC kJ (kC kJ (kC kJ (kC (kA 96) (kC (kA 97) (kC (kA 98) (kC kJ (kC kJ (kC kJ (kC kJ (kC kJ (kC kJ (kC kJ (kC kJ (kC (kA 99) (kC (kA 100) (kC (kA 101) (kC kJ (kC kJ (kC kJ (kC kJ (kC kJ (kC kJ (kC kJ (kC kJ (kC (kA 102) (kC (kA 103) (kC (kA 104) (kC (kA 105) (kC kJ (kC kJ (kC kJ (kC kJ (kC kJ (kC kJ (kC (kG j_lWant) (kC (kG j_lOp) kN))))))))))))))))))))))))))))))))))))))))))))))))))))))))))))))))))))))))))))))))))))))))))))))))))) (kC (Cod.dead 1) (kC (Cod.dead 2) (kC (Cod.dead 3) (kC (Cod.dead 4) (kC (Cod.dead 5) (kC (Cod.dead 6) (kC (Cod.dead 7) (kC (Cod.dead 8) (kC (Cod.dead 9) (kC (Cod.dead 10) (kC (Cod.dead 11) (kC (Cod.dead 12) (kC (Cod.dead 13) (kC (Cod.dead 14) (kC (Cod.dead 15) (kC (Cod.dead 16) (kC (Cod.dead 17) (kC (Cod.dead 18) (kC (Cod.dead 19) (kC (Cod.dead 20) (kC (Cod.dead 21) (kC (Cod.dead 22) (kC (Cod.dead 23) (kC (Cod.dead 24) (kC (Cod.dead 25) (kC (Cod.dead 26) (kC (Cod.dead 27) (kC (Cod.dead 28) (kC (Cod.dead 29) (kC (Cod.dead 30) (kC (Cod.dead 31) (kC (Cod.dead 32) (kC (Cod.dead 33) (kC (Cod.dead 34) (kC (Cod.dead 35) (kC (Cod.dead 36) (kC (Cod.dead 37) (kC (Cod.dead 38) (kC (Cod.dead 39) (kC (Cod.dead 40) (kC (Cod.dead 41) (kC (Cod.dead 42) (kC (kR 86 61 j_lOp) (kC (kR 87 133 j_lSlice) (kC (kR 88 153 j_lRange) (kC (kR 89 3 j_lInt) (kC (kR 90 133 j_lSlice) (kC (kR 91 153 j_lRange) (kC (kR 92 3 j_lInt) (kC (kR 93 133 j_lSlice) (kC (kR 94 153 j_lRange) (kC (kR 95 3 j_lInt) (kC (kR 96 133 j_lSlice) (kC (kR 97 153 j_lRange) (kC (kR 98 3 j_lInt) (kC (kR 99 133 j_lSlice) (kC (kR 100 153 j_lRange) (kC (kR 101 3 j_lInt) (kC (kR 102 133 j_lSlice) (kC (kR 103 153 j_lRange) (kC (kR 104 3 j_lInt) (kC (kR 105 66 j_lEntry) kN))))))))))))))))))))))))))))))))))))))))))))))))))))))))))))))) (fun p=>(Clerk.mk (Desk.mk (Book.mk p.1.1 p.1.2.1 p.1.2.2.1 p.1.2.2.2.1) (A3Coll.mk (Coll.mk p.1.2.2.2.2.1 p.1.2.2.2.2.2.1 p.1.2.2.2.2.2.2.1 p.1.2.2.2.2.2.2.2.1 (t8 p.1).1 (t8 p.1).2.1) (Coll.mk (t8 p.1).2.2.1 (t8 p.1).2.2.2.1 (t8 p.1).2.2.2.2.1 (t8 p.1).2.2.2.2.2.1 (t8 p.1).2.2.2.2.2.2.1 (t8 p.1).2.2.2.2.2.2.2.1) (Coll.mk (t8 (t8 p.1)).1 (t8 (t8 p.1)).2.1 (t8 (t8 p.1)).2.2.1 (t8 (t8 p.1)).2.2.2.1 (t8 (t8 p.1)).2.2.2.2.1 (t8 (t8 p.1)).2.2.2.2.2.1)) (t8 (t32 p)).2.2.2.1 (A6Device.mk (Device.mk (t8 (t8 p.1)).2.2.2.2.2.2.2.1 (t8 (t8 (t8 p.1))).1 (Reply.mk (t8 (t8 (t8 p.1))).2.1 (t8 (t8 (t8 p.1))).2.2.1 (Lease.mk (t8 (t8 (t8 p.1))).2.2.2.1 (t8 (t8 (t8 p.1))).2.2.2.2.1 (t8 (t8 (t8 p.1))).2.2.2.2.2.1 (t8 (t8 (t8 p.1))).2.2.2.2.2.2.1 (t8 (t32 p)).2.2.2.2.1 (t8 (t32 p)).2.2.2.2.2.1 (t8 (t32 p)).2.2.2.2.2.2.1))) (Device.mk (t32 p.1).2.2.1 (t32 p.1).2.2.2.1 (Reply.mk (t32 p.1).2.2.2.2.1 (t32 p.1).2.2.2.2.2.1 (Lease.mk (t32 p.1).2.2.2.2.2.2.1 (t32 p.1).2.2.2.2.2.2.2.1 (t8 (t32 p.1)).1 (t8 (t32 p.1)).2.1 (t8 (t32 p)).2.2.2.2.2.2.2.1 (t8 (t8 (t32 p))).1 (t8 (t8 (t32 p))).2.1))) (Device.mk (t8 (t32 p.1)).2.2.2.2.2.1 (t8 (t32 p.1)).2.2.2.2.2.2.1 (Reply.mk (t8 (t32 p.1)).2.2.2.2.2.2.2.1 (t8 (t8 (t32 p.1))).1 (Lease.mk (t8 (t8 (t32 p.1))).2.1 (t8 (t8 (t32 p.1))).2.2.1 (t8 (t8 (t32 p.1))).2.2.2.1 (t8 (t8 (t32 p.1))).2.2.2.2.1 (t8 (t8 (t32 p))).2.2.1 (t8 (t8 (t32 p))).2.2.2.1 (t8 (t8 (t32 p))).2.2.2.2.1))) (Device.mk (t8 (t8 (t8 (t32 p.1)))).1 (t8 (t8 (t8 (t32 p.1)))).2.1 (Reply.mk (t8 (t8 (t8 (t32 p.1)))).2.2.1 (t8 (t8 (t8 (t32 p.1)))).2.2.2.1 (Lease.mk (t8 (t8 (t8 (t32 p.1)))).2.2.2.2.1 (t8 (t8 (t8 (t32 p.1)))).2.2.2.2.2.1 (t8 (t8 (t8 (t32 p.1)))).2.2.2.2.2.2.1 (t8 (t8 (t8 (t32 p.1)))).2.2.2.2.2.2.2.1 (t8 (t8 (t32 p))).2.2.2.2.2.1 (t8 (t8 (t32 p))).2.2.2.2.2.2.1 (t8 (t8 (t32 p))).2.2.2.2.2.2.2.1))) (Device.mk (t32 (t32 p.1)).2.2.2.1 (t32 (t32 p.1)).2.2.2.2.1 (Reply.mk (t32 (t32 p.1)).2.2.2.2.2.1 (t32 (t32 p.1)).2.2.2.2.2.2.1 (Lease.mk (t32 (t32 p.1)).2.2.2.2.2.2.2.1 (t8 (t32 (t32 p.1))).1 (t8 (t32 (t32 p.1))).2.1 (t8 (t32 (t32 p.1))).2.2.1 (t8 (t8 (t8 (t32 p)))).1 (t8 (t8 (t8 (t32 p)))).2.1 (t8 (t8 (t8 (t32 p)))).2.2.1))) (Device.mk (t8 (t32 (t32 p.1))).2.2.2.2.2.2.1 (t8 (t32 (t32 p.1))).2.2.2.2.2.2.2.1 (Reply.mk (t8 (t8 (t32 (t32 p.1)))).1 (t8 (t8 (t32 (t32 p.1)))).2.1 (Lease.mk (t8 (t8 (t32 (t32 p.1)))).2.2.1 (t8 (t8 (t32 (t32 p.1)))).2.2.2.1 (t8 (t8 (t32 (t32 p.1)))).2.2.2.2.1 (t8 (t8 (t32 (t32 p.1)))).2.2.2.2.2.1 (t8 (t8 (t8 (t32 p)))).2.2.2.1 (t8 (t8 (t8 (t32 p)))).2.2.2.2.1 (t8 (t8 (t8 (t32 p)))).2.2.2.2.2.1)))) (t8 (t8 (t8 (t32 p)))).2.2.2.2.2.2.1 (t8 (t8 (t8 (t32 (t32 p.1))))).2.2.1) (Cmd.mk (t8 (t8 (t8 (t32 (t32 p.1))))).2.2.2.1 (t8 (t8 (t8 (t32 (t32 p.1))))).2.2.2.2.1 (t8 (t8 (t8 (t32 (t32 p.1))))).2.2.2.2.2.1 (t8 (t8 (t8 (t32 (t32 p.1))))).2.2.2.2.2.2.1 (t8 (t8 (t8 (t32 (t32 p.1))))).2.2.2.2.2.2.2.1 (t32 (t32 (t32 p.1))).1 (t32 (t32 (t32 p.1))).2.1))) (fun (x:Clerk)=>((x.d.book.counters,(x.d.book.free,(x.d.book.leases,(x.d.book.bound,(x.d.colls.a0.v,(x.d.colls.a0.regs,(x.d.colls.a0.elems,(x.d.colls.a0.gone,(x.d.colls.a0.sums,(x.d.colls.a0.binds,(x.d.colls.a1.v,(x.d.colls.a1.regs,(x.d.colls.a1.elems,(x.d.colls.a1.gone,(x.d.colls.a1.sums,(x.d.colls.a1.binds,(x.d.colls.a2.v,(x.d.colls.a2.regs,(x.d.colls.a2.elems,(x.d.colls.a2.gone,(x.d.colls.a2.sums,(x.d.colls.a2.binds,((),(x.d.dev.a0.epoch,(x.d.dev.a0.req,(x.d.dev.a0.reply.err,(x.d.dev.a0.reply.n,(x.d.dev.a0.reply.lease.device,(x.d.dev.a0.reply.lease.epoch,(x.d.dev.a0.reply.lease.until_,(x.d.dev.a0.reply.lease.last,((),((),((),(x.d.dev.a1.epoch,(x.d.dev.a1.req,(x.d.dev.a1.reply.err,(x.d.dev.a1.reply.n,(x.d.dev.a1.reply.lease.device,(x.d.dev.a1.reply.lease.epoch,(x.d.dev.a1.reply.lease.until_,(x.d.dev.a1.reply.lease.last,((),((),((),(x.d.dev.a2.epoch,(x.d.dev.a2.req,(x.d.dev.a2.reply.err,(x.d.dev.a2.reply.n,(x.d.dev.a2.reply.lease.device,(x.d.dev.a2.reply.lease.epoch,(x.d.dev.a2.reply.lease.until_,(x.d.dev.a2.reply.lease.last,((),((),((),(x.d.dev.a3.epoch,(x.d.dev.a3.req,(x.d.dev.a3.reply.err,(x.d.dev.a3.reply.n,(x.d.dev.a3.reply.lease.device,(x.d.dev.a3.reply.lease.epoch,(x.d.dev.a3.reply.lease.until_,(x.d.dev.a3.reply.lease.last,((),((),((),(x.d.dev.a4.epoch,(x.d.dev.a4.req,(x.d.dev.a4.reply.err,(x.d.dev.a4.reply.n,(x.d.dev.a4.reply.lease.device,(x.d.dev.a4.reply.lease.epoch,(x.d.dev.a4.reply.lease.until_,(x.d.dev.a4.reply.lease.last,((),((),((),(x.d.dev.a5.epoch,(x.d.dev.a5.req,(x.d.dev.a5.reply.err,(x.d.dev.a5.reply.n,(x.d.dev.a5.reply.lease.device,(x.d.dev.a5.reply.lease.epoch,(x.d.dev.a5.reply.lease.until_,(x.d.dev.a5.reply.lease.last,((),((),((),((),(x.d.now,(x.c.kind,(x.c.device,(x.c.epoch,(x.c.req,(x.c.n,(x.c.wants,(x.c.ops,())))))))))))))))))))))))))))))))))))))))))))))))))))))))))))))))))))))))))))))))))))))))))))))))))),((),((),((),((),((),((),((),((),((),((),((),((),((),((),((),((),((),((),((),((),((),((),((),((),((),((),((),((),((),((),((),((),((),((),((),((),((),((),((),((),((),((),(x.d.log,(x.d.dev.a0.reply.lease.slices,(x.d.dev.a0.reply.lease.ids,(x.d.dev.a0.reply.lease.used,(x.d.dev.a1.reply.lease.slices,(x.d.dev.a1.reply.lease.ids,(x.d.dev.a1.reply.lease.used,(x.d.dev.a2.reply.lease.slices,(x.d.dev.a2.reply.lease.ids,(x.d.dev.a2.reply.lease.used,(x.d.dev.a3.reply.lease.slices,(x.d.dev.a3.reply.lease.ids,(x.d.dev.a3.reply.lease.used,(x.d.dev.a4.reply.lease.slices,(x.d.dev.a4.reply.lease.ids,(x.d.dev.a4.reply.lease.used,(x.d.dev.a5.reply.lease.slices,(x.d.dev.a5.reply.lease.ids,(x.d.dev.a5.reply.lease.used,(x.d.lost,())))))))))))))))))))))))))))))))))))))))))))))))))))))))))))))))) (fun _=>rfl)
def co_clerkMerge:kT (Reply×Clerk):=kO (kS 106 (kC (Cod.xs (Cod.sa cc_Reply)) kN) hc4_Clerk) (fun p=>(p.1.1,p.2)) (fun (x:Reply×Clerk)=>((x.1,()),x.2)) (fun _=>rfl)
def un_clerkMerge (p:Clerk):Option (Reply×Clerk):=clerkMerge p
def sf_clerkMerge:SFn TL:=SFn.one ch_clerkRegister.dec un_clerkMerge .normal co_clerkMerge.enc
def cs_clerkMerge:cL:=[(129,df_clerkLost),(39,df_desk_fail),(133,df_clerkIncluded)]
def ss_clerkMerge:sL:=[(186008,sl_L86_8)]
def env_clerkMerge:Env:=envOf tab sl sh [(86,fd86),(130,fd130),(128,fd128)] [(129,(.rd 89 66)),(39,.keep),(133,(.rd 22 61))]
theorem env_clerkMerge_ok:EnvOK PR (mkD cs_clerkMerge ss_clerkMerge) env_clerkMerge:=envOK_of base (aC (st86.okl rfl (aC (lC ok_L86_8 rfl) aN)) (aC (st130.okl rfl aN) (aC (st128.okl rfl aN) aN))) (aC (oD ok_clerkLost rfl) (aC (oD ok_desk_fail rfl) (aC (oD ok_clerkIncluded rfl) aN)))
theorem run_clerkMerge (x:Clerk):Out.run (mkO cs_clerkMerge ss_clerkMerge) (evSum env_clerkMerge 12 20 86 (ch_clerkRegister.enc x)) (back1 co_clerkMerge)=un_clerkMerge x:=by kernel_rfl
theorem ok_clerkMerge:SOK PR 86 sf_clerkMerge:=sum_one env_clerkMerge_ok (loops:=12) (n:=20) st86.enters ch_clerkRegister co_clerkMerge un_clerkMerge run_clerkMerge
def clerkShut (c1:Clerk):Option (Reply×Clerk) :=
 cond (decide (0≤c1.c.device) && decide (c1.c.device < 6))
 (cond (cond ((cond (decide (c1.c.device=0)) c1.d.dev.a0.epoch (cond (decide (c1.c.device=1)) c1.d.dev.a1.epoch (cond (decide (c1.c.device=2)) c1.d.dev.a2.epoch (cond (decide (c1.c.device=3)) c1.d.dev.a3.epoch (cond (decide (c1.c.device=4)) c1.d.dev.a4.epoch c1.d.dev.a5.epoch))))) == 0) true (decide (c1.c.epoch > (cond (decide (c1.c.device=0)) c1.d.dev.a0.epoch (cond (decide (c1.c.device=1)) c1.d.dev.a1.epoch (cond (decide (c1.c.device=2)) c1.d.dev.a2.epoch (cond (decide (c1.c.device=3)) c1.d.dev.a3.epoch (cond (decide (c1.c.device=4)) c1.d.dev.a4.epoch c1.d.dev.a5.epoch))))))))
 (ob (desk_fail 2) fun r1 =>
 some (r1,c1))
 (cond (decide (c1.c.epoch < (cond (decide (c1.c.device=0)) c1.d.dev.a0.epoch (cond (decide (c1.c.device=1)) c1.d.dev.a1.epoch (cond (decide (c1.c.device=2)) c1.d.dev.a2.epoch (cond (decide (c1.c.device=3)) c1.d.dev.a3.epoch (cond (decide (c1.c.device=4)) c1.d.dev.a4.epoch c1.d.dev.a5.epoch)))))))
 (ob (desk_fail 16) fun r2 =>
 some (r2,c1))
 (ob (clerkLost c1.d.lost c1.c.device (cond (decide (c1.c.device=0)) c1.d.dev.a0.epoch (cond (decide (c1.c.device=1)) c1.d.dev.a1.epoch (cond (decide (c1.c.device=2)) c1.d.dev.a2.epoch (cond (decide (c1.c.device=3)) c1.d.dev.a3.epoch (cond (decide (c1.c.device=4)) c1.d.dev.a4.epoch c1.d.dev.a5.epoch)))))) fun r0 =>
 cond (r0)
 (ob (desk_fail 16) fun r3 =>
 some (r3,c1))
 (ob (ledgerFind c1.d.book c1.c.device c1.c.epoch) fun r4 =>
 cond (!r4.2)
 (ob (desk_fail 2) fun r5 =>
 some (r5,c1))
 (ob (clerkIncluded c1.d.log c1.c.device c1.c.epoch) fun r6 =>
 cond (cond (decide (c1.c.n < r6)) true (decide (c1.c.n > 1073741824)))
 (ob (desk_fail 1) fun r7 =>
 some (r7,c1))
 (ob (ledgerPut c1.d.book (Lease.mk r4.1.device r4.1.epoch r4.1.until_ c1.c.n r4.1.slices r4.1.ids r4.1.used)) fun r8 =>
 some ((Reply.mk 0 0 (Lease.mk 0 0 0 0 [] [] [])),(Clerk.mk (Desk.mk r8.1 c1.d.colls c1.d.log c1.d.dev c1.d.lost c1.d.now) c1.c))))))))
 none
def un_clerkShut (p:Clerk):Option (Reply×Clerk):=clerkShut p
def sf_clerkShut:SFn TL:=SFn.one ch_clerkRegister.dec un_clerkShut .normal co_clerkCheckout.enc
def cs_clerkShut:cL:=[(129,df_clerkLost),(39,df_desk_fail),(134,df_ledgerFind),(133,df_clerkIncluded),(135,df_ledgerPut)]
def env_clerkShut:Env:=envOf tab sl sh [(87,fd87),(130,fd130),(128,fd128)] [(129,(.rd 89 66)),(39,.keep),(134,.keep),(133,(.rd 22 61)),(135,.keep)]
theorem env_clerkShut_ok:EnvOK PR (mkD cs_clerkShut sZ) env_clerkShut:=envOK_of base (aC (st87.okl rfl aN) (aC (st130.okl rfl aN) (aC (st128.okl rfl aN) aN))) (aC (oD ok_clerkLost rfl) (aC (oD ok_desk_fail rfl) (aC (oD ok_ledgerFind rfl) (aC (oD ok_clerkIncluded rfl) (aC (oD ok_ledgerPut rfl) aN)))))
theorem run_clerkShut (x:Clerk):Out.run (mkO cs_clerkShut sZ) (evSum env_clerkShut 12 20 87 (ch_clerkRegister.enc x)) (back1 co_clerkCheckout)=un_clerkShut x:=by kernel_rfl
theorem ok_clerkShut:SOK PR 87 sf_clerkShut:=sum_one env_clerkShut_ok (loops:=12) (n:=20) st87.enters ch_clerkRegister co_clerkCheckout un_clerkShut run_clerkShut
abbrev tY27:=Int×(List Slice)×Int×Int×Book×Book×Lease
def step_L136_7 (i1:Int)(l1:List Slice)(i2:Int)(i3:Int)(bx1:Book)(bx2:Book)(lx1:Lease):Option ((tY27)⊕(Int×Book×Book×Lease)) :=
 cond (decide (i3 < i2))
 (cond (decide (0≤i3))
 (ob (l1[i3.toNat]?) fun e0 =>
 ob (ledger_counter bx1 e0.key) fun r1 =>
 cond (decide (r1≥0))
 (cond (decide (0≤r1))
 (cond (decide (r1 < (bx1.counters.length:Int)))
 (ob (bx1.counters[r1.toNat]?) fun e2 =>
 cond (decide (0≤r1))
 (cond (decide (r1 < (bx1.counters.length:Int)))
 (ob (bx1.counters[r1.toNat]?) fun e3 =>
 cond (decide (0≤r1))
 (cond (decide (r1 < ((bx1.counters.set r1.toNat (Counter.mk e3.key e3.coll e3.lo e3.hi e3.start (w64 (e2.up_+(w64 (e0.up_ - e0.usedUp)))) e3.down_)).length:Int)))
 (ob ((bx1.counters.set r1.toNat (Counter.mk e3.key e3.coll e3.lo e3.hi e3.start (w64 (e2.up_+(w64 (e0.up_ - e0.usedUp)))) e3.down_))[r1.toNat]?) fun e4 =>
 cond (decide (0≤r1))
 (cond (decide (r1 < ((bx1.counters.set r1.toNat (Counter.mk e3.key e3.coll e3.lo e3.hi e3.start (w64 (e2.up_+(w64 (e0.up_ - e0.usedUp)))) e3.down_)).length:Int)))
 (ob ((bx1.counters.set r1.toNat (Counter.mk e3.key e3.coll e3.lo e3.hi e3.start (w64 (e2.up_+(w64 (e0.up_ - e0.usedUp)))) e3.down_))[r1.toNat]?) fun e5 =>
 some (.inl (i1,l1,i2,(w64 (i3+1)),(Book.mk ((bx1.counters.set r1.toNat (Counter.mk e3.key e3.coll e3.lo e3.hi e3.start (w64 (e2.up_+(w64 (e0.up_ - e0.usedUp)))) e3.down_)).set r1.toNat (Counter.mk e5.key e5.coll e5.lo e5.hi e5.start e5.up_ (w64 (e4.down_+(w64 (e0.down_ - e0.usedDown)))))) bx1.free bx1.leases bx1.bound),bx2,lx1)))
 none)
 none)
 none)
 none)
 none)
 none)
 none)
 none)
 (some (.inl (i1,l1,i2,(w64 (i3+1)),bx1,bx2,lx1))))
 none)
 (some (.inr (i1,bx1,bx2,lx1)))
def stp_L136_7 (p:tY27):Option ((tY27)⊕(Int×Book×Book×Lease)):=step_L136_7 p.1 p.2.1 p.2.2.1 p.2.2.2.1 p.2.2.2.2.1 p.2.2.2.2.2.1 p.2.2.2.2.2.2
def L136_7 (i1:Int)(l1:List Slice)(i2:Int)(i3:Int)(bx1:Book)(bx2:Book)(lx1:Lease):Option (Int×Book×Book×Lease):=iterO stp_L136_7 ((i2 - i3).toNat+2) (i1,l1,i2,i3,bx1,bx2,lx1)
def ch_L136_7:kT (tY27):=kO (kS 11 (kC (kP 0 0) (kC (kP 1 0) (kC kI (kC (kP 2 0) (kC (kF j_lSlice) (kC kI (kC kI kN))))))) (kC (Cod.var 0 29 (kC (kA 3) (kC (kA 4) (kC (kA 5) (kC (kA 6) kN))))) (kC (Cod.var 1 29 (kC (kA 7) (kC (kA 8) (kC (kA 9) (kC (kA 10) kN))))) (kC (Cod.var 2 43 cc_Lease) (kC (kR 3 65 j_lCounter) (kC (kR 4 153 j_lRange) (kC (kR 5 43 j_lLease) (kC (kR 6 3 j_lInt) (kC (kR 7 65 j_lCounter) (kC (kR 8 153 j_lRange) (kC (kR 9 43 j_lLease) (kC (kR 10 3 j_lInt) kN)))))))))))) (fun p=>(p.1.2.2.1,p.1.2.2.2.2.1,p.1.2.2.2.2.2.1,p.1.2.2.2.2.2.2.1,(Book.mk p.2.2.2.2.1 p.2.2.2.2.2.1 p.2.2.2.2.2.2.1 p.2.2.2.2.2.2.2.1),(Book.mk p.2.2.2.2.2.2.2.2.1 (t8 p.2).1 (t8 p.2).2.1 (t8 p.2).2.2.1),p.2.2.2.1)) (fun (x:tY27)=>(((),((),(x.1,((),(x.2.1,(x.2.2.1,(x.2.2.2.1,()))))))),(((),((),((),((),())))),(((),((),((),((),())))),(x.2.2.2.2.2.2,(x.2.2.2.2.1.counters,(x.2.2.2.2.1.free,(x.2.2.2.2.1.leases,(x.2.2.2.2.1.bound,(x.2.2.2.2.2.1.counters,(x.2.2.2.2.2.1.free,(x.2.2.2.2.2.1.leases,(x.2.2.2.2.2.1.bound,()))))))))))))) (fun _=>rfl)
def co0_L136_7:kT (Int×Book×Book×Lease):=kO (kS 22 (kC (kP 0 0) (kC (kP 1 0) (kC kI (kC (kP 2 0) kN)))) (kC (Cod.var 0 29 (kC (kA 3) (kC (kA 4) (kC (kA 5) (kC (kA 6) kN))))) (kC (Cod.var 1 29 (kC (kA 7) (kC (kA 8) (kC (kA 9) (kC (kA 10) kN))))) (kC (Cod.var 2 43 cc_Lease) (kC (kR 3 65 j_lCounter) (kC (kR 4 153 j_lRange) (kC (kR 5 43 j_lLease) (kC (kR 6 3 j_lInt) (kC (kR 7 65 j_lCounter) (kC (kR 8 153 j_lRange) (kC (kR 9 43 j_lLease) (kC (kR 10 3 j_lInt) kN)))))))))))) (fun p=>(p.1.2.2.1,(Book.mk p.2.2.2.2.1 p.2.2.2.2.2.1 p.2.2.2.2.2.2.1 p.2.2.2.2.2.2.2.1),(Book.mk p.2.2.2.2.2.2.2.2.1 (t8 p.2).1 (t8 p.2).2.1 (t8 p.2).2.2.1),p.2.2.2.1)) (fun (x:Int×Book×Book×Lease)=>(((),((),(x.1,((),())))),(((),((),((),((),())))),(((),((),((),((),())))),(x.2.2.2,(x.2.1.counters,(x.2.1.free,(x.2.1.leases,(x.2.1.bound,(x.2.2.1.counters,(x.2.2.1.free,(x.2.2.1.leases,(x.2.2.1.bound,()))))))))))))) (fun _=>rfl)
def sl_L136_7:SFn TL:=SFn.one ch_L136_7.dec (fun p=>L136_7 p.1 p.2.1 p.2.2.1 p.2.2.2.1 p.2.2.2.2.1 p.2.2.2.2.2.1 p.2.2.2.2.2.2) (.exit 0) co0_L136_7.enc
def cs_lL136_7:cL:=[(121,df_ledger_counter)]
def v_L136_7:Env:=envOf tab sl sh [] [(121,.pure)]
theorem v_L136_7_ok:EnvOK PR (mkD cs_lL136_7 sZ) v_L136_7:=envOK_of base aN (aC (oD ok_ledger_counter rfl) aN)
theorem run_L136_7 (x:tY27):Out.run (mkO cs_lL136_7 sZ) (evRound v_L136_7 12 20 fd136.an q_L136_7 (loopIn (loopsOf fd136.body) 7) (ch_L136_7.enc x)) (back ch_L136_7 co0_L136_7 fun e=>exE e (.exit 0))=stp_L136_7 x:=by kernel_rfl
theorem ok_L136_7:LoopOK PR (oneS sl_L136_7) nt136 q_L136_7 (loopIn (loopsOf fd136.body) 7) :=
  loop_one v_L136_7_ok (loops:=12) (k:=20) (an:=fd136.an) (by kernel_rfl) (FnSt.subl rfl st136.keys (aC (.inl (by kernel_rfl)) (aC (.inl (by kernel_rfl)) (aC (.inl (by kernel_rfl)) aN)))) ch_L136_7 co0_L136_7 (.exit 0) rfl stp_L136_7 _ run_L136_7 (fun x y h=>⟨_,h⟩) (fun _=>below_iff.1 rfl)
abbrev tY28:=Int×(List Range)×(List Range)×Int×Int×(List Range)×Int×Int
def step_L163_11 (i1:Int)(l1:List Range)(l2:List Range)(i2:Int)(i3:Int)(l3:List Range)(i4:Int)(i5:Int):Option ((tY28)⊕(Int×(List Range)×(List Range)×Int×Int×(List Range))) :=
 cond (decide (i5 < i4))
 (cond (decide (0≤i5))
 (cond (decide (i5 < (l3.length:Int)))
 (ob (l3[i5.toNat]?) fun e0 =>
 cond (decide (e0.from_ < e0.to_))
 (cond (fits ((l1++[e0]).length))
 (some (.inl (i1,(l1++[e0]),l2,i2,i3,l3,i4,(w64 (i5+1)))))
 none)
 (some (.inl (i1,l1,l2,i2,i3,l3,i4,(w64 (i5+1))))))
 none)
 none)
 (some (.inr (i1,l1,l2,i2,i3,l3)))
def stp_L163_11 (p:tY28):Option ((tY28)⊕(Int×(List Range)×(List Range)×Int×Int×(List Range))):=step_L163_11 p.1 p.2.1 p.2.2.1 p.2.2.2.1 p.2.2.2.2.1 p.2.2.2.2.2.1 p.2.2.2.2.2.2.1 p.2.2.2.2.2.2.2
def L163_11 (i1:Int)(l1:List Range)(l2:List Range)(i2:Int)(i3:Int)(l3:List Range)(i4:Int)(i5:Int):Option (Int×(List Range)×(List Range)×Int×Int×(List Range)):=iterO stp_L163_11 ((i4 - i5).toNat+2) (i1,l1,l2,i2,i3,l3,i4,i5)
def ch_L163_11:kT (tY28):=kO (kS 2 (kC kI (kC (Cod.xs (Cod.sc (kA 0))) (kC (kF j_lRange) (kC kI (kC kI (kC (Cod.xs (Cod.sc (kA 1))) (kC kI (kC kI kN)))))))) (kC (kR 0 153 j_lRange) (kC (kR 1 153 j_lRange) kN))) (fun ((z0,_,z1,z2,z3,_,z4,z5,_),z6,z7,_)=>(z0,z6,z1,z2,z3,z7,z4,z5)) (fun (x:tY28)=>((x.1,((),(x.2.2.1,(x.2.2.2.1,(x.2.2.2.2.1,((),(x.2.2.2.2.2.2.1,(x.2.2.2.2.2.2.2,())))))))),(x.2.1,(x.2.2.2.2.2.1,())))) (fun _=>rfl)
def co0_L163_11:kT (Int×(List Range)×(List Range)×Int×Int×(List Range)):=kO (kS 4 (kC kI (kC (Cod.xs (Cod.sc (kA 3))) (kC (kF j_lRange) (kC kI (kC kI kN))))) (kC (kR 1 153 j_lRange) (kC (kR 3 153 j_lRange) kN))) (fun ((z0,_,z1,z2,z3,_),z4,z5,_)=>(z0,z5,z1,z2,z3,z4)) (fun (x:Int×(List Range)×(List Range)×Int×Int×(List Range))=>((x.1,((),(x.2.2.1,(x.2.2.2.1,(x.2.2.2.2.1,()))))),(x.2.2.2.2.2,(x.2.1,())))) (fun _=>rfl)
def sl_L163_11:SFn TL:=SFn.one ch_L163_11.dec (fun p=>L163_11 p.1 p.2.1 p.2.2.1 p.2.2.2.1 p.2.2.2.2.1 p.2.2.2.2.2.1 p.2.2.2.2.2.2.1 p.2.2.2.2.2.2.2) (.exit 2) co0_L163_11.enc
def v_L163_11:Env:=envOf tab sl sh [] []
theorem v_L163_11_ok:EnvOK PR (mkD cZ sZ) v_L163_11:=envOK_of base aN aN
theorem run_L163_11 (x:tY28):Out.run (mkO cZ sZ) (evRound v_L163_11 12 20 fd163.an q_L163_11 (loopIn (loopsOf fd163.body) 11) (ch_L163_11.enc x)) (back ch_L163_11 co0_L163_11 fun e=>exE e (.exit 2))=stp_L163_11 x:=by kernel_rfl
theorem ok_L163_11:LoopOK PR (oneS sl_L163_11) nt163 q_L163_11 (loopIn (loopsOf fd163.body) 11) :=
  loop_one v_L163_11_ok (loops:=12) (k:=20) (an:=fd163.an) (by kernel_rfl) (FnSt.subl rfl st163.keys (aC (.inl (by kernel_rfl)) (aC (.inl (by kernel_rfl)) aN))) ch_L163_11 co0_L163_11 (.exit 2) rfl stp_L163_11 _ run_L163_11 (fun x y h=>⟨_,h⟩) (fun _=>below_iff.1 rfl)
abbrev tY29:=Int×(List Range)×(List Range)×Int×Int
def step_L163_5 (i1:Int)(l1:List Range)(l2:List Range)(i2:Int)(i3:Int):Option ((tY29)⊕((List Range))) :=
 cond (decide (i3 < i2))
 (cond (decide (0≤i3))
 (ob (l2[i3.toNat]?) fun e0 =>
 cond (cond (decide (i1≥e0.from_)) (decide (i1 < e0.to_)) false)
 (ob (L163_11 i1 l1 l2 i2 i3 [(Range.mk e0.from_ i1),(Range.mk (w64 (i1+1)) e0.to_)] ([(Range.mk e0.from_ i1),(Range.mk (w64 (i1+1)) e0.to_)].length:Int) 0) fun y1 =>
 some (.inl (y1.1,y1.2.1,y1.2.2.1,y1.2.2.2.1,(w64 (y1.2.2.2.2.1+1)))))
 (ob (L163_11 i1 l1 l2 i2 i3 [e0] ([e0].length:Int) 0) fun y2 =>
 some (.inl (y2.1,y2.2.1,y2.2.2.1,y2.2.2.2.1,(w64 (y2.2.2.2.2.1+1))))))
 none)
 (some (.inr l1))
def stp_L163_5 (p:tY29):Option ((tY29)⊕((List Range))):=step_L163_5 p.1 p.2.1 p.2.2.1 p.2.2.2.1 p.2.2.2.2
def L163_5 (i1:Int)(l1:List Range)(l2:List Range)(i2:Int)(i3:Int):Option ((List Range)):=iterO stp_L163_5 ((i2 - i3).toNat+2) (i1,l1,l2,i2,i3)
def ch_L163_5:kT (tY29):=kO (kS 1 (kC kI (kC (Cod.xs (Cod.sc (kA 0))) (kC (kF j_lRange) (kC kI (kC kI kN))))) (kC (kR 0 153 j_lRange) kN)) (fun ((z0,_,z1,z2,z3,_),z4,_)=>(z0,z4,z1,z2,z3)) (fun (x:tY29)=>((x.1,((),(x.2.2.1,(x.2.2.2.1,(x.2.2.2.2,()))))),(x.2.1,()))) (fun _=>rfl)
def co0_L163_5:kT ((List Range)):=kO (kS 2 (kC (Cod.xs (Cod.sc (kA 1))) kN) (kC (kR 1 153 j_lRange) kN)) (fun p=>p.2.1) (fun (x:(List Range))=>(((),()),(x,()))) (fun _=>rfl)
def sl_L163_5:SFn TL:=SFn.one ch_L163_5.dec (fun p=>L163_5 p.1 p.2.1 p.2.2.1 p.2.2.2.1 p.2.2.2.2) (.exit 0) co0_L163_5.enc
def ss_lL163_5:sL:=[(263011,sl_L163_11)]
def v_L163_5:Env:=envOf tab sl sh [] []
theorem v_L163_5_ok:EnvOK PR (mkD cZ ss_lL163_5) v_L163_5:=envOK_of base aN aN
theorem run_L163_5 (x:tY29):Out.run (mkO cZ ss_lL163_5) (evRound v_L163_5 12 20 fd163.an q_L163_5 (loopIn (loopsOf fd163.body) 5) (ch_L163_5.enc x)) (back ch_L163_5 co0_L163_5 fun e=>exE e (.exit 0))=stp_L163_5 x:=by kernel_rfl
theorem ok_L163_5:LoopOK PR (oneS sl_L163_5) nt163 q_L163_5 (loopIn (loopsOf fd163.body) 5) :=
  loop_one v_L163_5_ok (loops:=12) (k:=20) (an:=fd163.an) (by kernel_rfl) (FnSt.subl rfl st163.keys (aC (.inl (by kernel_rfl)) (aC (.inr (lC ok_L163_11 rfl)) aN))) ch_L163_5 co0_L163_5 (.exit 0) rfl stp_L163_5 _ run_L163_5 (fun x y h=>⟨_,h⟩) (fun _=>below_iff.1 rfl)
def rangesLess (l1:List Range)(i1:Int):Option ((List Range)×Bool) :=
 ob (rangesHas l1 i1) fun r0 =>
 cond (!r0)
 (some ([],false))
 (ob (L163_5 i1 [] l1 (l1.length:Int) 0) fun y1 =>
 ob (rangesOwn y1) fun y2 =>
 some (y2,true))
def un_rangesLess (p:(List Range)×Int):Option ((List Range)×Bool):=rangesLess p.1 p.2
def df_rangesLess:DFn TL:=DFn.of (DA.cons (DT.one di_lRange) (DA.one dI)) un_rangesLess (DA.cons (DT.one di_lRange) (DA.one dB))
theorem run_rangesLess:DRun [(187,df_rangesHas)] [(150,sf_rangesOwn),(263005,sl_L163_5),(263011,sl_L163_11)] (envOf tab sl sh [(163,fd163)] [(187,.pure),(150,.sum)]) 163 (DA.cons (DT.one di_lRange) (DA.one dI)) un_rangesLess (DA.cons (DT.one di_lRange) (DA.one dB)):=fun _=>by kernel_rfl
theorem ok_rangesLess:DOK PR 163 .keep df_rangesLess:=dok run_rangesLess (envOK_of base (aC (st163.okl rfl (aC (lC ok_L163_5 rfl) (aC (lC ok_L163_11 rfl) aN))) aN) (aC (oD ok_rangesHas rfl) (aC (okS rfl ok_rangesOwn) aN))) (.inl rfl) st163.enters
abbrev tY30:=Int×(List Range)×(List Int)×Int×Int×Book×Book
def step_L136_16 (i1:Int)(l1:List Range)(l2:List Int)(i2:Int)(i3:Int)(bx1:Book)(bx2:Book):Option ((tY30)⊕(Int×(List Range)×Book×Book)) :=
 cond (decide (i3 < i2))
 (cond (decide (0≤i3))
 (ob (l2[i3.toNat]?) fun e0 =>
 ob (rangesLess l1 e0) fun r1 =>
 ob (bsearchInt bx1.bound e0) fun r2 =>
 cond (!r2.2)
 (cond (decide (0≤r2.1))
 (cond (decide (r2.1≤(bx1.bound.length:Int)))
 (cond (fits ((((bx1.bound.take r2.1.toNat)++[e0])++((bx1.bound.take bx1.bound.length).drop r2.1.toNat)).length))
 (some (.inl (i1,(cond r1.2 r1.1 l1),l2,i2,(w64 (i3+1)),(Book.mk bx1.counters bx1.free bx1.leases (((bx1.bound.take r2.1.toNat)++[e0])++((bx1.bound.take bx1.bound.length).drop r2.1.toNat))),bx2)))
 none)
 none)
 none)
 (some (.inl (i1,(cond r1.2 r1.1 l1),l2,i2,(w64 (i3+1)),bx1,bx2))))
 none)
 (some (.inr (i1,l1,bx1,bx2)))
def stp_L136_16 (p:tY30):Option ((tY30)⊕(Int×(List Range)×Book×Book)):=step_L136_16 p.1 p.2.1 p.2.2.1 p.2.2.2.1 p.2.2.2.2.1 p.2.2.2.2.2.1 p.2.2.2.2.2.2
def L136_16 (i1:Int)(l1:List Range)(l2:List Int)(i2:Int)(i3:Int)(bx1:Book)(bx2:Book):Option (Int×(List Range)×Book×Book):=iterO stp_L136_16 ((i2 - i3).toNat+2) (i1,l1,l2,i2,i3,bx1,bx2)
def ch_L136_16:kT (tY30):=kO (kS 10 (kC (kP 0 0) (kC (kP 1 0) (kC kI (kC (kF j_lRange) (kC (kF j_lInt) (kC kI (kC kI kN))))))) (kC (Cod.var 0 29 (kC (kA 2) (kC (kA 3) (kC (kA 4) (kC (kA 5) kN))))) (kC (Cod.var 1 29 (kC (kA 6) (kC (kA 7) (kC (kA 8) (kC (kA 9) kN))))) (kC (kR 2 65 j_lCounter) (kC (kR 3 153 j_lRange) (kC (kR 4 43 j_lLease) (kC (kR 5 3 j_lInt) (kC (kR 6 65 j_lCounter) (kC (kR 7 153 j_lRange) (kC (kR 8 43 j_lLease) (kC (kR 9 3 j_lInt) kN))))))))))) (fun p=>(p.1.2.2.1,p.1.2.2.2.1,p.1.2.2.2.2.1,p.1.2.2.2.2.2.1,p.1.2.2.2.2.2.2.1,(Book.mk p.2.2.2.1 p.2.2.2.2.1 p.2.2.2.2.2.1 p.2.2.2.2.2.2.1),(Book.mk p.2.2.2.2.2.2.2.1 p.2.2.2.2.2.2.2.2.1 (t8 p.2).1 (t8 p.2).2.1))) (fun (x:tY30)=>(((),((),(x.1,(x.2.1,(x.2.2.1,(x.2.2.2.1,(x.2.2.2.2.1,()))))))),(((),((),((),((),())))),(((),((),((),((),())))),(x.2.2.2.2.2.1.counters,(x.2.2.2.2.2.1.free,(x.2.2.2.2.2.1.leases,(x.2.2.2.2.2.1.bound,(x.2.2.2.2.2.2.counters,(x.2.2.2.2.2.2.free,(x.2.2.2.2.2.2.leases,(x.2.2.2.2.2.2.bound,())))))))))))) (fun _=>rfl)
def co0_L136_16:kT (Int×(List Range)×Book×Book):=kO (kS 20 (kC (kP 0 0) (kC (kP 1 0) (kC kI (kC (kF j_lRange) kN)))) (kC (Cod.var 0 29 (kC (kA 2) (kC (kA 3) (kC (kA 4) (kC (kA 19) kN))))) (kC (Cod.var 1 29 (kC (kA 6) (kC (kA 7) (kC (kA 8) (kC (kA 9) kN))))) (kC (kR 2 65 j_lCounter) (kC (kR 3 153 j_lRange) (kC (kR 4 43 j_lLease) (kC (kR 6 65 j_lCounter) (kC (kR 7 153 j_lRange) (kC (kR 8 43 j_lLease) (kC (kR 9 3 j_lInt) (kC (kR 19 3 j_lInt) kN))))))))))) (fun p=>(p.1.2.2.1,p.1.2.2.2.1,(Book.mk p.2.2.2.1 p.2.2.2.2.1 p.2.2.2.2.2.1 (t8 p.2).2.1),(Book.mk p.2.2.2.2.2.2.1 p.2.2.2.2.2.2.2.1 p.2.2.2.2.2.2.2.2.1 (t8 p.2).1))) (fun (x:Int×(List Range)×Book×Book)=>(((),((),(x.1,(x.2.1,())))),(((),((),((),((),())))),(((),((),((),((),())))),(x.2.2.1.counters,(x.2.2.1.free,(x.2.2.1.leases,(x.2.2.2.counters,(x.2.2.2.free,(x.2.2.2.leases,(x.2.2.2.bound,(x.2.2.1.bound,())))))))))))) (fun _=>rfl)
def sl_L136_16:SFn TL:=SFn.one ch_L136_16.dec (fun p=>L136_16 p.1 p.2.1 p.2.2.1 p.2.2.2.1 p.2.2.2.2.1 p.2.2.2.2.2.1 p.2.2.2.2.2.2) (.exit 2) co0_L136_16.enc
def cs_lL136_16:cL:=[(163,df_rangesLess),(164,df_bsearchInt)]
def v_L136_16:Env:=envOf tab sl sh [] [(163,.keep),(164,.pure),(165,(.ins 3))]
theorem v_L136_16_ok:EnvOK PR (mkD cs_lL136_16 sZ) v_L136_16:=envOK_of base aN (aC (oD ok_rangesLess rfl) (aC (oD ok_bsearchInt rfl) (aC (okIns okI_165) aN)))
theorem run_L136_16 (x:tY30):Out.run (mkO cs_lL136_16 sZ) (evRound v_L136_16 12 20 fd136.an q_L136_16 (loopIn (loopsOf fd136.body) 16) (ch_L136_16.enc x)) (back ch_L136_16 co0_L136_16 fun e=>exE e (.exit 2))=stp_L136_16 x:=by kernel_rfl
theorem ok_L136_16:LoopOK PR (oneS sl_L136_16) nt136 q_L136_16 (loopIn (loopsOf fd136.body) 16) :=
  loop_one v_L136_16_ok (loops:=12) (k:=20) (an:=fd136.an) (by kernel_rfl) (FnSt.subl rfl st136.keys (aC (.inl (by kernel_rfl)) (aC (.inl (by kernel_rfl)) (aC (.inl (by kernel_rfl)) aN)))) ch_L136_16 co0_L136_16 (.exit 2) rfl stp_L136_16 _ run_L136_16 (fun x y h=>⟨_,h⟩) (fun _=>below_iff.1 rfl)
abbrev tY31:=Int×(List Range)×Int×Int×Book×Book
def step_L136_26 (i1:Int)(l1:List Range)(i2:Int)(i3:Int)(bx1:Book)(bx2:Book):Option ((tY31)⊕(Int×Book×Book)) :=
 cond (decide (i3 < i2))
 (cond (decide (0≤i3))
 (ob (l1[i3.toNat]?) fun e0 =>
 ob (rangesAdd bx1.free e0) fun r1 =>
 some (.inl (i1,l1,i2,(w64 (i3+1)),(Book.mk bx1.counters r1 bx1.leases bx1.bound),bx2)))
 none)
 (some (.inr (i1,bx1,bx2)))
def stp_L136_26 (p:tY31):Option ((tY31)⊕(Int×Book×Book)):=step_L136_26 p.1 p.2.1 p.2.2.1 p.2.2.2.1 p.2.2.2.2.1 p.2.2.2.2.2
def L136_26 (i1:Int)(l1:List Range)(i2:Int)(i3:Int)(bx1:Book)(bx2:Book):Option (Int×Book×Book):=iterO stp_L136_26 ((i2 - i3).toNat+2) (i1,l1,i2,i3,bx1,bx2)
def ch_L136_26:kT (tY31):=kO (kS 8 (kC (kP 0 0) (kC (kP 1 0) (kC kI (kC (kF j_lRange) (kC kI (kC kI kN)))))) (kC (Cod.var 0 29 (kC (kA 2) (kC (kG j_lRange) (kC (kA 3) (kC (kA 4) kN))))) (kC (Cod.var 1 29 (kC (kA 5) (kC (kG j_lRange) (kC (kA 6) (kC (kA 7) kN))))) (kC (kR 2 65 j_lCounter) (kC (kR 3 43 j_lLease) (kC (kR 4 3 j_lInt) (kC (kR 5 65 j_lCounter) (kC (kR 6 43 j_lLease) (kC (kR 7 3 j_lInt) kN))))))))) (fun ((_,_,z0,z1,z2,z3,_),(_,z4,_),(_,z5,_),z6,z7,z8,z9,z10,z11,_)=>(z0,z1,z2,z3,(Book.mk z6 z4 z7 z8),(Book.mk z9 z5 z10 z11))) (fun (x:tY31)=>(((),((),(x.1,(x.2.1,(x.2.2.1,(x.2.2.2.1,())))))),(((),(x.2.2.2.2.1.free,((),((),())))),(((),(x.2.2.2.2.2.free,((),((),())))),(x.2.2.2.2.1.counters,(x.2.2.2.2.1.leases,(x.2.2.2.2.1.bound,(x.2.2.2.2.2.counters,(x.2.2.2.2.2.leases,(x.2.2.2.2.2.bound,())))))))))) (fun _=>rfl)
def co0_L136_26:kT (Int×Book×Book):=kO (kS 16 (kC (kP 0 0) (kC (kP 1 0) (kC kI kN))) (kC (Cod.var 0 29 (kC (kA 2) (kC (kG j_lRange) (kC (kA 3) (kC (kA 4) kN))))) (kC (Cod.var 1 29 (kC (kA 5) (kC (kG j_lRange) (kC (kA 6) (kC (kA 7) kN))))) (kC (kR 2 65 j_lCounter) (kC (kR 3 43 j_lLease) (kC (kR 4 3 j_lInt) (kC (kR 5 65 j_lCounter) (kC (kR 6 43 j_lLease) (kC (kR 7 3 j_lInt) kN))))))))) (fun ((_,_,z0,_),(_,z1,_),(_,z2,_),z3,z4,z5,z6,z7,z8,_)=>(z0,(Book.mk z3 z1 z4 z5),(Book.mk z6 z2 z7 z8))) (fun (x:Int×Book×Book)=>(((),((),(x.1,()))),(((),(x.2.1.free,((),((),())))),(((),(x.2.2.free,((),((),())))),(x.2.1.counters,(x.2.1.leases,(x.2.1.bound,(x.2.2.counters,(x.2.2.leases,(x.2.2.bound,())))))))))) (fun _=>rfl)
def sl_L136_26:SFn TL:=SFn.one ch_L136_26.dec (fun p=>L136_26 p.1 p.2.1 p.2.2.1 p.2.2.2.1 p.2.2.2.2.1 p.2.2.2.2.2) (.exit 4) co0_L136_26.enc
def cs_lL136_26:cL:=[(123,df_rangesAdd)]
def v_L136_26:Env:=envOf tab sl sh [] [(123,.keep)]
theorem v_L136_26_ok:EnvOK PR (mkD cs_lL136_26 sZ) v_L136_26:=envOK_of base aN (aC (oD ok_rangesAdd rfl) aN)
theorem run_L136_26 (x:tY31):Out.run (mkO cs_lL136_26 sZ) (evRound v_L136_26 12 20 fd136.an q_L136_26 (loopIn (loopsOf fd136.body) 26) (ch_L136_26.enc x)) (back ch_L136_26 co0_L136_26 fun e=>exE e (.exit 4))=stp_L136_26 x:=by kernel_rfl
theorem ok_L136_26:LoopOK PR (oneS sl_L136_26) nt136 q_L136_26 (loopIn (loopsOf fd136.body) 26) :=
  loop_one v_L136_26_ok (loops:=12) (k:=20) (an:=fd136.an) (by kernel_rfl) (FnSt.subl rfl st136.keys (aC (.inl (by kernel_rfl)) (aC (.inl (by kernel_rfl)) (aC (.inl (by kernel_rfl)) aN)))) ch_L136_26 co0_L136_26 (.exit 4) rfl stp_L136_26 _ run_L136_26 (fun x y h=>⟨_,h⟩) (fun _=>below_iff.1 rfl)
end
end Go.Proofs.YtcjpeijiaojeiaaGreat
