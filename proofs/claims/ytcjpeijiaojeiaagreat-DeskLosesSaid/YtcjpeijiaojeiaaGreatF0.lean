/- By program (gen.py): the functions in their typed form. -/
import Derived.Test.YtcjpeijiaojeiaaGreatFn
import Derived.Test.YtcjpeijiaojeiaaGreatHa
import Derived.Test.YtcjpeijiaojeiaaGreatLb
namespace Go.Proofs.YtcjpeijiaojeiaaGreat
open Go Go.Ev
set_option maxRecDepth 1000000
noncomputable section
abbrev cL:=List (Nat×DFn TL)
abbrev sL:=List (Nat×SFn TL)
def cZ:cL:=[]
def sZ:sL:=[]
abbrev kI:Cod (X TL) Int:=Cod.xs (Cod.sc (Cod.im (Cod.int .i64)))
abbrev kB:Cod (X TL) Bool:=Cod.xs (Cod.sc (Cod.im Cod.bool))
abbrev kD:Cod (C TL) Bool:=Cod.im Cod.bool
abbrev kE:Cod (C TL) ByteArray:=Cod.im Cod.str
abbrev kR {T:Type}(i:Nat)(e:TypeId)(j:Cod.Inj TL T):=Cod.arr i e j
abbrev kA (i:Nat):Cod (C TL) Unit:=Cod.ar i
abbrev kO {α β γ:Type}(c:Cod α β)(f:β→γ)(g:γ→β)(h:∀ b,g (f b)=b):=Cod.iso c f g h
abbrev kS {β γ:Type}(n:Nat)(a:Cod (List (X TL)) β)(b:Cod (List (Nat×En TL)) γ):=Cod.cst n a b
abbrev kT:=Cod (Cst TL)
abbrev kF {T:Type}(j:Cod.Inj TL T):Cod (X TL) T:=Cod.xs (Cod.sc (Cod.im (Cod.fz j)))
abbrev kG {T:Type}(j:Cod.Inj TL T):Cod (C TL) T:=Cod.im (Cod.fz j)
abbrev kP (a b:Nat):Cod (X TL) Unit:=Cod.xs (Cod.sc (Cod.ptr a b))
abbrev kJ:Cod (C TL) Int:=Cod.im (Cod.int .i64)
abbrev kC {α β γ:Type}(c:Cod α β)(d:Cod (List α) γ):=Cod.cons c d
abbrev kN {α:Type}:Cod (List α) Unit:=Cod.nil
abbrev dI:DT TL Int:=DT.one (DI.int .i64)
abbrev dB:DT TL Bool:=DT.one DI.bool
def DRun (cs:cL)(ss:sL)(E:Env)(f:FuncId){X Y:Type}(a:DA TL X)(u:X→Option Y)(r:DA TL Y):Prop:=∀ x,Out.run (mkO cs ss) (evOrc E 12 20 f (a.enc x)) r.dec=u x
theorem dok {P:Program}{cs:cL}{ss:sL}{E:Env}{f:FuncId}{kd:OrcKind}{X Y:Type}{a:DA TL X}{u:X→Option Y}{r:DA TL Y}(h:DRun cs ss E f a u r)(hE:EnvOK P (mkD cs ss) E)(hk:kd=.keep∨kd=.pure)(hen:Enters P f):DOK P f kd (DFn.of a u r):=data_of hE hk hen a u r h
theorem lC {P:Program}{nt:Nat}{q:LoopA}{b:Code}{d:SFn TL}{cs:cL}{ss:sL}(h:LoopOK P (oneS d) nt q b)(hd:lookU ss q.sid=some d):LoopOK P (mkD cs ss) nt q b:=LoopOK.cast h hd
theorem oD {P:Program}{cs:cL}{ss:sL}{f:Nat}{k:OrcKind}{d:DFn TL}(h:DOK P f k d)(hd:lookU cs f=some d):OGood P cs ss (f,k):=okD hd h
theorem aN {α:Type}{p:α→Prop}:∀ x∈([]:List α),p x:=all_nil
theorem aC {α:Type}{p:α→Prop}{a:α}{l:List α}(h:p a)(t:∀ x∈l,p x):∀ x∈a::l,p x:=all_cons h t
abbrev PR:=Tryz.prog
def Lease.sel (c:Bool)(a b:Lease):Lease:=Lease.mk (cond c a.device b.device) (cond c a.epoch b.epoch) (cond c a.until_ b.until_) (cond c a.last b.last) (cond c a.slices b.slices) (cond c a.ids b.ids) (cond c a.used b.used)
def Coll.sel (c:Bool)(a b:Coll):Coll:=Coll.mk (cond c a.v b.v) (cond c a.regs b.regs) (cond c a.elems b.elems) (cond c a.gone b.gone) (cond c a.sums b.sums) (cond c a.binds b.binds)
def Reply.sel (c:Bool)(a b:Reply):Reply:=Reply.mk (cond c a.err b.err) (cond c a.n b.n) (Lease.sel c a.lease b.lease)
def vector_of (ex1:Entry):Option Pair :=
 some (Pair.mk ex1.device ex1.epoch)
def un_vector_of (p:Entry):Option Pair:=vector_of p
def df_vector_of:DFn TL:=DFn.of (DA.one (DT.agg dc_Entry)) un_vector_of (DA.one (DT.agg dc_Pair))
theorem run_vector_of:DRun [] [] (envOf tab sl sh [(234,fd234)] []) 234 (DA.one (DT.agg dc_Entry)) un_vector_of (DA.one (DT.agg dc_Pair)):=fun _=>by kernel_rfl
theorem ok_vector_of:DOK PR 234 .pure df_vector_of:=dok run_vector_of (envOK_of base (aC (st234.okl rfl aN) aN) aN) (.inr rfl) st234.enters
def cmp_isNaNInt (i1:Int):Option Bool :=
 some (i1 != i1)
def un_cmp_isNaNInt (p:Int):Option Bool:=cmp_isNaNInt p
def df_cmp_isNaNInt:DFn TL:=DFn.of (DA.one dI) un_cmp_isNaNInt (DA.one dB)
theorem run_cmp_isNaNInt:DRun [] [] (envOf tab sl sh [(226,fd226)] []) 226 (DA.one dI) un_cmp_isNaNInt (DA.one dB):=fun _=>by kernel_rfl
theorem ok_cmp_isNaNInt:DOK PR 226 .pure df_cmp_isNaNInt:=dok run_cmp_isNaNInt (envOK_of base (aC (st226.okl rfl aN) aN) aN) (.inr rfl) st226.enters
def cmpCompareInt (i1:Int)(i2:Int):Option Int :=
 ob (cmp_isNaNInt i1) fun r0 =>
 ob (cmp_isNaNInt i2) fun r1 =>
 cond (r0)
 (cond (r1)
 (some 0)
 (some (-1)))
 (cond (r1)
 (some 1)
 (cond (decide (i1 < i2))
 (some (-1))
 (cond (decide (i1 > i2))
 (some 1)
 (some 0))))
def un_cmpCompareInt (p:Int×Int):Option Int:=cmpCompareInt p.1 p.2
def df_cmpCompareInt:DFn TL:=DFn.of (DA.cons dI (DA.one dI)) un_cmpCompareInt (DA.one dI)
theorem run_cmpCompareInt:DRun [(226,df_cmp_isNaNInt)] [] (envOf tab sl sh [(239,fd239)] [(226,.pure)]) 239 (DA.cons dI (DA.one dI)) un_cmpCompareInt (DA.one dI):=fun _=>by kernel_rfl
theorem ok_cmpCompareInt:DOK PR 239 .pure df_cmpCompareInt:=dok run_cmpCompareInt (envOK_of base (aC (st239.okl rfl aN) aN) (aC (oD ok_cmp_isNaNInt rfl) aN)) (.inr rfl) st239.enters
abbrev tY0:=Int×Int×(List Int)×Int×Int
def step_L216_3 (i1:Int)(i2:Int)(l1:List Int)(i3:Int)(i4:Int):Option ((tY0)⊕(((Int×Int)⊕(Int×Int)))) :=
 cond (decide (i4 < i3))
 (cond (decide (0≤i4))
 (ob (l1[i4.toNat]?) fun e0 =>
 cond (e0 != i2)
 (some (.inr (.inr (e0,i2))))
 (some (.inl (i1,i2,l1,i3,(w64 (i4+1))))))
 none)
 (some (.inr (.inl (i1,i2))))
def stp_L216_3 (p:tY0):Option ((tY0)⊕(((Int×Int)⊕(Int×Int)))):=step_L216_3 p.1 p.2.1 p.2.2.1 p.2.2.2.1 p.2.2.2.2
def L216_3 (i1:Int)(i2:Int)(l1:List Int)(i3:Int)(i4:Int):Option (((Int×Int)⊕(Int×Int))):=iterO stp_L216_3 ((i3 - i4).toNat+2) (i1,i2,l1,i3,i4)
def ch_L216_3:kT (tY0):=kO (kS 0 (kC kI (kC kI (kC (kF j_lInt) (kC kI (kC kI kN))))) kN) (fun ((z0,z1,z2,z3,z4,_),_)=>(z0,z1,z2,z3,z4)) (fun (x:tY0)=>((x.1,(x.2.1,(x.2.2.1,(x.2.2.2.1,(x.2.2.2.2,()))))),())) (fun _=>rfl)
def co0_L216_3:kT (Int×Int):=kO (kS 0 (kC kI (kC kI kN)) kN) (fun p=>(p.1.1,p.1.2.1)) (fun (x:Int×Int)=>((x.1,(x.2,())),())) (fun _=>rfl)
def sl_L216_3:SFn TL:=SFn.two ch_L216_3.dec (fun p=>L216_3 p.1 p.2.1 p.2.2.1 p.2.2.2.1 p.2.2.2.2) (.exit 0) .ret co0_L216_3.enc co0_L216_3.enc
def v_L216_3:Env:=envOf tab sl sh [] []
theorem v_L216_3_ok:EnvOK PR (mkD cZ sZ) v_L216_3:=envOK_of base aN aN
theorem run_L216_3 (x:tY0):Out.run (mkO cZ sZ) (evRound v_L216_3 12 20 fd216.an q_L216_3 (loopIn (loopsOf fd216.body) 3) (ch_L216_3.enc x)) (back2 ch_L216_3 co0_L216_3 co0_L216_3 (.exit 0) .ret)=stp_L216_3 x:=by kernel_rfl
theorem ok_L216_3:LoopOK PR (oneS sl_L216_3) nt216 q_L216_3 (loopIn (loopsOf fd216.body) 3) :=
  loop_two v_L216_3_ok (loops:=12) (k:=20) (an:=fd216.an) (by kernel_rfl) (FnSt.subl rfl st216.keys (aC (.inl (by kernel_rfl)) aN)) ch_L216_3 co0_L216_3 co0_L216_3 (.exit 0) .ret rfl rfl stp_L216_3 _ run_L216_3 (fun x y h=>⟨_,h⟩) (fun _=>below_iff.1 rfl)
def cmpOrInt (l1:List Int):Option Int :=
 ob (L216_3 0 0 l1 (l1.length:Int) 0) fun y0 =>
 two y0 (fun a1 =>
 some a1.2) (fun b2 =>
 some b2.1)
def un_cmpOrInt (p:(List Int)):Option Int:=cmpOrInt p
def df_cmpOrInt:DFn TL:=DFn.of (DA.one (DT.one di_lInt)) un_cmpOrInt (DA.one dI)
theorem run_cmpOrInt:DRun [] [(316003,sl_L216_3)] (envOf tab sl sh [(216,fd216)] []) 216 (DA.one (DT.one di_lInt)) un_cmpOrInt (DA.one dI):=fun _=>by kernel_rfl
theorem ok_cmpOrInt:DOK PR 216 .pure df_cmpOrInt:=dok run_cmpOrInt (envOK_of base (aC (st216.okl rfl (aC (lC ok_L216_3 rfl) aN)) aN) aN) (.inr rfl) st216.enters
def vector_pair_compare (px1:Pair)(px2:Pair):Option Int :=
 ob (cmpCompareInt px1.device px2.device) fun r0 =>
 ob (cmpCompareInt px1.epoch px2.epoch) fun r1 =>
 ob (cmpOrInt [r0,r1]) fun r2 =>
 some r2
def un_vector_pair_compare (p:Pair×Pair):Option Int:=vector_pair_compare p.1 p.2
def df_vector_pair_compare:DFn TL:=DFn.of (DA.cons (DT.agg dc_Pair) (DA.one (DT.agg dc_Pair))) un_vector_pair_compare (DA.one dI)
theorem run_vector_pair_compare:DRun [(239,df_cmpCompareInt),(216,df_cmpOrInt)] [] (envOf tab sl sh [(259,fd259)] [(239,.pure),(216,.pure)]) 259 (DA.cons (DT.agg dc_Pair) (DA.one (DT.agg dc_Pair))) un_vector_pair_compare (DA.one dI):=fun _=>by kernel_rfl
theorem ok_vector_pair_compare:DOK PR 259 .pure df_vector_pair_compare:=dok run_vector_pair_compare (envOK_of base (aC (st259.okl rfl aN) aN) (aC (oD ok_cmpCompareInt rfl) (aC (oD ok_cmpOrInt rfl) aN))) (.inr rfl) st259.enters
abbrev tY1:=(List Entry)×Int×Pair
def step_L257_2 (l1:List Entry)(i1:Int)(px1:Pair):Option ((tY1)⊕(tY1)) :=
 cond (decide (i1 < (l1.length:Int)))
 (cond (decide (0≤i1))
 (ob (l1[i1.toNat]?) fun e0 =>
 ob (vector_of e0) fun r1 =>
 ob (vector_pair_compare r1 px1) fun r2 =>
 cond (decide (r2 < 0))
 (some (.inl (l1,(w64 (i1+1)),px1)))
 (some (.inr (l1,i1,px1))))
 none)
 (some (.inr (l1,i1,px1)))
def stp_L257_2 (p:tY1):Option ((tY1)⊕(tY1)):=step_L257_2 p.1 p.2.1 p.2.2
def L257_2 (l1:List Entry)(i1:Int)(px1:Pair):Option tY1:=iterO stp_L257_2 (((l1.length:Int) - i1).toNat+2) (l1,i1,px1)
def ch_L257_2:kT (tY1):=kO (kS 1 (kC (kF j_lEntry) (kC (Cod.xs (Cod.sc (Cod.clo 258 [] [(0,0)]))) (kC kI kN))) (kC (Cod.var 0 274 (kC kJ (kC kJ kN))) kN)) (fun p=>(p.1.1,p.1.2.2.1,(Pair.mk p.2.1.1 p.2.1.2.1))) (fun (x:tY1)=>((x.1,((),(x.2.1,()))),((x.2.2.device,(x.2.2.epoch,())),()))) (fun _=>rfl)
def co0_L257_2:kT (tY1):=kO (kS 2 (kC (kF j_lEntry) (kC (Cod.xs (Cod.sc (Cod.clo 258 [] [(0,0)]))) (kC kI kN))) (kC (Cod.var 0 274 (kC kJ (kC kJ kN))) kN)) (fun p=>(p.1.1,p.1.2.2.1,(Pair.mk p.2.1.1 p.2.1.2.1))) (fun (x:tY1)=>((x.1,((),(x.2.1,()))),((x.2.2.device,(x.2.2.epoch,())),()))) (fun _=>rfl)
def sl_L257_2:SFn TL:=SFn.one ch_L257_2.dec (fun p=>L257_2 p.1 p.2.1 p.2.2) (.exit 0) co0_L257_2.enc
def cs_lL257_2:cL:=[(234,df_vector_of),(259,df_vector_pair_compare)]
def v_L257_2:Env:=envOf tab sl sh [(258,fd258)] [(234,.pure),(259,.pure)]
theorem v_L257_2_ok:EnvOK PR (mkD cs_lL257_2 sZ) v_L257_2:=envOK_of base (aC (st258.okl rfl aN) aN) (aC (oD ok_vector_of rfl) (aC (oD ok_vector_pair_compare rfl) aN))
theorem run_L257_2 (x:tY1):Out.run (mkO cs_lL257_2 sZ) (evRound v_L257_2 12 20 fd257.an q_L257_2 (loopIn (loopsOf fd257.body) 2) (ch_L257_2.enc x)) (back ch_L257_2 co0_L257_2 fun e=>exE e (.exit 0))=stp_L257_2 x:=by kernel_rfl
theorem ok_L257_2:LoopOK PR (oneS sl_L257_2) nt257 q_L257_2 (loopIn (loopsOf fd257.body) 2) :=
  loop_one v_L257_2_ok (loops:=12) (k:=20) (an:=fd257.an) (by kernel_rfl) (FnSt.subl rfl st257.keys (aC (.inl (by kernel_rfl)) aN)) ch_L257_2 co0_L257_2 (.exit 0) rfl stp_L257_2 _ run_L257_2 (fun x y h=>⟨_,h⟩) (fun _=>below_iff.1 rfl)
def vector_at (l1:List Entry)(px1:Pair):Option (Int×Bool) :=
 ob (L257_2 l1 0 px1) fun y0 =>
 cond (decide (y0.2.1 < (y0.1.length:Int)))
 (cond (decide (0≤y0.2.1))
 (ob (y0.1[y0.2.1.toNat]?) fun e1 =>
 ob (vector_of e1) fun r2 =>
 ob (vector_pair_compare r2 y0.2.2) fun r3 =>
 some (y0.2.1,(r3 == 0)))
 none)
 (some (y0.2.1,false))
def un_vector_at (p:(List Entry)×Pair):Option (Int×Bool):=vector_at p.1 p.2
def df_vector_at:DFn TL:=DFn.of (DA.cons (DT.one di_lEntry) (DA.one (DT.agg dc_Pair))) un_vector_at (DA.cons dI (DA.one dB))
theorem run_vector_at:DRun [(234,df_vector_of),(259,df_vector_pair_compare)] [(357002,sl_L257_2)] (envOf tab sl sh [(233,fd233),(257,fd257),(258,fd258)] [(234,.pure),(259,.pure)]) 233 (DA.cons (DT.one di_lEntry) (DA.one (DT.agg dc_Pair))) un_vector_at (DA.cons dI (DA.one dB)):=fun _=>by kernel_rfl
theorem ok_vector_at:DOK PR 233 .pure df_vector_at:=dok run_vector_at (envOK_of base (aC (st233.okl rfl aN) (aC (st257.okl rfl (aC (lC ok_L257_2 rfl) aN)) (aC (st258.okl rfl aN) aN))) (aC (oD ok_vector_of rfl) (aC (oD ok_vector_pair_compare rfl) aN))) (.inr rfl) st233.enters
abbrev tY2:=(List Entry)×(List Entry)×Int×Int
def step_L209_4 (l1:List Entry)(l2:List Entry)(i1:Int)(i2:Int):Option ((tY2)⊕((List Entry))) :=
 cond (decide (i2 < i1))
 (cond (decide (0≤i2))
 (ob (l2[i2.toNat]?) fun e0 =>
 ob (vector_of e0) fun r1 =>
 ob (vector_at l1 r1) fun r2 =>
 cond (r2.2)
 (cond (decide (0≤r2.1))
 (cond (decide (r2.1 < (l1.length:Int)))
 (ob (l1[r2.1.toNat]?) fun e3 =>
 cond (decide (0≤r2.1))
 (cond (decide (r2.1 < (l1.length:Int)))
 (ob (l1[r2.1.toNat]?) fun e4 =>
 some (.inl ((l1.set r2.1.toNat (Entry.mk e4.device e4.epoch (max2 e3.seq e0.seq))),l2,i1,(w64 (i2+1)))))
 none)
 none)
 none)
 none)
 (cond (fits ((l1++[(Entry.mk 0 0 0)]).length))
 (cond (decide (0≤(w64 (r2.1+1))))
 (cond (decide ((w64 (r2.1+1))≤((l1++[(Entry.mk 0 0 0)]).length:Int)))
 (cond (decide (((l1++[(Entry.mk 0 0 0)]).length:Int)≤((l1++[(Entry.mk 0 0 0)]).length:Int)))
 (cond (decide (0≤r2.1))
 (cond (decide (r2.1≤((l1++[(Entry.mk 0 0 0)]).length:Int)))
 (cond (decide (((l1++[(Entry.mk 0 0 0)]).length:Int)≤((l1++[(Entry.mk 0 0 0)]).length:Int)))
 (cond (decide (0≤r2.1))
 (cond (decide (r2.1 < (((((l1++[(Entry.mk 0 0 0)]).take (((w64 (r2.1+1))).toNat))++((((l1++[(Entry.mk 0 0 0)]).take ((((l1++[(Entry.mk 0 0 0)]).length:Int)).toNat)).drop r2.1.toNat).take (Nat.min ((((l1++[(Entry.mk 0 0 0)]).take ((((l1++[(Entry.mk 0 0 0)]).length:Int)).toNat)).drop r2.1.toNat).length) ((((l1++[(Entry.mk 0 0 0)]).length:Int)).toNat - ((w64 (r2.1+1))).toNat))))++(((l1++[(Entry.mk 0 0 0)]).take ((l1++[(Entry.mk 0 0 0)]).length)).drop (((w64 (r2.1+1))).toNat+(Nat.min ((((l1++[(Entry.mk 0 0 0)]).take ((((l1++[(Entry.mk 0 0 0)]).length:Int)).toNat)).drop r2.1.toNat).length) ((((l1++[(Entry.mk 0 0 0)]).length:Int)).toNat - ((w64 (r2.1+1))).toNat))))).length:Int)))
 (ob (((((l1++[(Entry.mk 0 0 0)]).take (((w64 (r2.1+1))).toNat))++((((l1++[(Entry.mk 0 0 0)]).take ((((l1++[(Entry.mk 0 0 0)]).length:Int)).toNat)).drop r2.1.toNat).take (Nat.min ((((l1++[(Entry.mk 0 0 0)]).take ((((l1++[(Entry.mk 0 0 0)]).length:Int)).toNat)).drop r2.1.toNat).length) ((((l1++[(Entry.mk 0 0 0)]).length:Int)).toNat - ((w64 (r2.1+1))).toNat))))++(((l1++[(Entry.mk 0 0 0)]).take ((l1++[(Entry.mk 0 0 0)]).length)).drop (((w64 (r2.1+1))).toNat+(Nat.min ((((l1++[(Entry.mk 0 0 0)]).take ((((l1++[(Entry.mk 0 0 0)]).length:Int)).toNat)).drop r2.1.toNat).length) ((((l1++[(Entry.mk 0 0 0)]).length:Int)).toNat - ((w64 (r2.1+1))).toNat)))))[r2.1.toNat]?) fun _ =>
 some (.inl ((((((l1++[(Entry.mk 0 0 0)]).take (((w64 (r2.1+1))).toNat))++((((l1++[(Entry.mk 0 0 0)]).take ((((l1++[(Entry.mk 0 0 0)]).length:Int)).toNat)).drop r2.1.toNat).take (Nat.min ((((l1++[(Entry.mk 0 0 0)]).take ((((l1++[(Entry.mk 0 0 0)]).length:Int)).toNat)).drop r2.1.toNat).length) ((((l1++[(Entry.mk 0 0 0)]).length:Int)).toNat - ((w64 (r2.1+1))).toNat))))++(((l1++[(Entry.mk 0 0 0)]).take ((l1++[(Entry.mk 0 0 0)]).length)).drop (((w64 (r2.1+1))).toNat+(Nat.min ((((l1++[(Entry.mk 0 0 0)]).take ((((l1++[(Entry.mk 0 0 0)]).length:Int)).toNat)).drop r2.1.toNat).length) ((((l1++[(Entry.mk 0 0 0)]).length:Int)).toNat - ((w64 (r2.1+1))).toNat))))).set r2.1.toNat e0),l2,i1,(w64 (i2+1)))))
 none)
 none)
 none)
 none)
 none)
 none)
 none)
 none)
 none))
 none)
 (some (.inr l1))
def stp_L209_4 (p:tY2):Option ((tY2)⊕((List Entry))):=step_L209_4 p.1 p.2.1 p.2.2.1 p.2.2.2
def L209_4 (l1:List Entry)(l2:List Entry)(i1:Int)(i2:Int):Option ((List Entry)):=iterO stp_L209_4 ((i1 - i2).toNat+2) (l1,l2,i1,i2)
def ch_L209_4:kT (tY2):=kO (kS 1 (kC (Cod.xs (Cod.sc (kA 0))) (kC (kF j_lEntry) (kC kI (kC kI kN)))) (kC (kR 0 66 j_lEntry) kN)) (fun p=>(p.2.1,p.1.2.1,p.1.2.2.1,p.1.2.2.2.1)) (fun (x:tY2)=>(((),(x.2.1,(x.2.2.1,(x.2.2.2,())))),(x.1,()))) (fun _=>rfl)
def co0_L209_4:kT ((List Entry)):=kO (kS 2 (kC (Cod.xs (Cod.sc (kA 1))) kN) (kC (kR 1 66 j_lEntry) kN)) (fun p=>p.2.1) (fun (x:(List Entry))=>(((),()),(x,()))) (fun _=>rfl)
def sl_L209_4:SFn TL:=SFn.one ch_L209_4.dec (fun p=>L209_4 p.1 p.2.1 p.2.2.1 p.2.2.2) (.exit 0) co0_L209_4.enc
def cs_lL209_4:cL:=[(234,df_vector_of),(233,df_vector_at)]
def v_L209_4:Env:=envOf tab sl sh [] [(234,.pure),(233,.pure)]
theorem v_L209_4_ok:EnvOK PR (mkD cs_lL209_4 sZ) v_L209_4:=envOK_of base aN (aC (oD ok_vector_of rfl) (aC (oD ok_vector_at rfl) aN))
theorem run_L209_4 (x:tY2):Out.run (mkO cs_lL209_4 sZ) (evRound v_L209_4 12 20 fd209.an q_L209_4 (loopIn (loopsOf fd209.body) 4) (ch_L209_4.enc x)) (back ch_L209_4 co0_L209_4 fun e=>exE e (.exit 0))=stp_L209_4 x:=by kernel_rfl
theorem ok_L209_4:LoopOK PR (oneS sl_L209_4) nt209 q_L209_4 (loopIn (loopsOf fd209.body) 4) :=
  loop_one v_L209_4_ok (loops:=12) (k:=20) (an:=fd209.an) (by kernel_rfl) (FnSt.subl rfl st209.keys (aC (.inl (by kernel_rfl)) aN)) ch_L209_4 co0_L209_4 (.exit 0) rfl stp_L209_4 _ run_L209_4 (fun x y h=>⟨_,h⟩) (fun _=>below_iff.1 rfl)
def laid (l1:List Entry)(l2:List Entry):Option ((List Entry)) :=
 cond (decide (0≤(l1.length:Int)))
 (cond (decide ((l1.length:Int)≤(w64 ((l1.length:Int)+(l2.length:Int)))))
 (cond (fits (((w64 ((l1.length:Int)+(l2.length:Int)))).toNat))
 (ob (L209_4 ((l1.take (Nat.min l1.length ((List.replicate (((l1.length:Int)).toNat) (Entry.mk 0 0 0)).length)))++(((List.replicate (((l1.length:Int)).toNat) (Entry.mk 0 0 0)).take ((List.replicate (((l1.length:Int)).toNat) (Entry.mk 0 0 0)).length)).drop (Nat.min l1.length ((List.replicate (((l1.length:Int)).toNat) (Entry.mk 0 0 0)).length)))) l2 (l2.length:Int) 0) fun y0 =>
 cond (fits (([]++y0).length))
 (some ([]++y0))
 none)
 none)
 none)
 none
def un_laid (p:(List Entry)×(List Entry)):Option ((List Entry)):=laid p.1 p.2
def df_laid:DFn TL:=⟨(List Entry)×(List Entry),(List Entry),(DA.cons (DT.one di_lEntry) (DA.one (DT.one di_lEntry)):DA TL ((List Entry)×(List Entry))).dec,un_laid,fun l=>[.c (.im (.fz (j_lEntry.put l)))]⟩
def ss_laid:sL:=[(309004,sl_L209_4)]
def env_laid:Env:=envOf tab sl sh [(209,fd209)] []
theorem env_laid_ok:EnvOK PR (mkD cZ ss_laid) env_laid:=envOK_of base (aC (st209.okl rfl (aC (lC ok_L209_4 rfl) aN)) aN) aN
theorem run_laid (x:(List Entry)×(List Entry)):Out.run (mkO cZ ss_laid) (evFresh env_laid 12 20 209 66 ((DA.cons (DT.one di_lEntry) (DA.one (DT.one di_lEntry)):DA TL ((List Entry)×(List Entry))).enc x)) j_lEntry.un=un_laid x:=by kernel_rfl
theorem ok_laid:DOK PR 209 (.fresh 66) df_laid:=fresh_of env_laid_ok (loops:=12) (n:=20) st209.enters (DA.cons (DT.one di_lEntry) (DA.one (DT.one di_lEntry))) un_laid j_lEntry run_laid
def deskLease (lx1:Lease):Option Lease :=
 cond (fits lx1.slices.length)
 (cond (fits lx1.ids.length)
 (cond (fits lx1.used.length)
 (some lx1)
 none)
 none)
 none
def cc_Lease:Cod (List (C TL)) Lease:=kO (kC kJ (kC kJ (kC kJ (kC kJ (kC (kG j_lSlice) (kC (kG j_lRange) (kC (kG j_lInt) kN))))))) (fun (z0,z1,z2,z3,z4,z5,z6,_)=>(Lease.mk z0 z1 z2 z3 z4 z5 z6)) (fun (x:Lease)=>(x.device,(x.epoch,(x.until_,(x.last,(x.slices,(x.ids,(x.used,())))))))) (fun _=>rfl)
def ch_deskLease:kT (Lease):=kO (kS 0 (kC (Cod.xs (Cod.sa cc_Lease)) kN) kN) (fun p=>p.1.1) (fun (x:Lease)=>((x,()),())) (fun _=>rfl)
def co_deskLease:kT (Lease):=kO (kS 3 (kC (Cod.xs (Cod.sa (kC kJ (kC kJ (kC kJ (kC kJ (kC (kA 0) (kC (kA 1) (kC (kA 2) kN))))))))) kN) (kC (kR 0 133 j_lSlice) (kC (kR 1 153 j_lRange) (kC (kR 2 3 j_lInt) kN)))) (fun (((z0,z1,z2,z3,_),_),z4,z5,z6,_)=>(Lease.mk z0 z1 z2 z3 z4 z5 z6)) (fun (x:Lease)=>(((x.device,(x.epoch,(x.until_,(x.last,((),((),((),()))))))),()),(x.slices,(x.ids,(x.used,()))))) (fun _=>rfl)
def un_deskLease (p:Lease):Option Lease:=deskLease p
def sf_deskLease:SFn TL:=SFn.one ch_deskLease.dec un_deskLease .normal co_deskLease.enc
def env_deskLease:Env:=envOf tab sl sh [(41,fd41)] [(91,(.cln 133)),(92,(.cln 153)),(93,(.cln 3))]
theorem env_deskLease_ok:EnvOK PR (mkD cZ sZ) env_deskLease:=envOK_of base (aC (st41.okl rfl aN) aN) (aC (okCln okI_91) (aC (okCln okI_92) (aC (okCln okI_93) aN)))
theorem run_deskLease (x:Lease):Out.run (mkO cZ sZ) (evSum env_deskLease 12 20 41 (ch_deskLease.enc x)) (back1 co_deskLease)=un_deskLease x:=by kernel_rfl
theorem ok_deskLease:SOK PR 41 sf_deskLease:=sum_one env_deskLease_ok (loops:=12) (n:=20) st41.enters ch_deskLease co_deskLease un_deskLease run_deskLease
def step_L77_3 (i1:Int)(i2:Int)(bx1:Book)(bx2:Book):Option ((Int×Int×Book×Book)⊕(Book×Book)) :=
 cond (decide (i2 < i1))
 (cond (decide (0≤i2))
 (cond (decide (i2 < (bx1.leases.length:Int)))
 (ob (bx1.leases[i2.toNat]?) fun e0 =>
 ob (deskLease e0) fun y1 =>
 cond (decide (0≤i2))
 (cond (decide (i2 < (bx1.leases.length:Int)))
 (ob (bx1.leases[i2.toNat]?) fun _ =>
 some (.inl (i1,(w64 (i2+1)),(Book.mk bx1.counters bx1.free (bx1.leases.set i2.toNat y1) bx1.bound),bx2)))
 none)
 none)
 none)
 none)
 (some (.inr (bx1,bx2)))
def stp_L77_3 (p:Int×Int×Book×Book):Option ((Int×Int×Book×Book)⊕(Book×Book)):=step_L77_3 p.1 p.2.1 p.2.2.1 p.2.2.2
def L77_3 (i1:Int)(i2:Int)(bx1:Book)(bx2:Book):Option (Book×Book):=iterO stp_L77_3 ((i1 - i2).toNat+2) (i1,i2,bx1,bx2)
def ch_L77_3:kT (Int×Int×Book×Book):=kO (kS 10 (kC (kP 0 0) (kC (kP 1 0) (kC (Cod.xs (Cod.sc (kA 2))) (kC kI (kC kI kN))))) (kC (Cod.var 0 29 (kC (kA 3) (kC (kA 4) (kC (kA 2) (kC (kA 5) kN))))) (kC (Cod.var 1 29 (kC (kA 6) (kC (kA 7) (kC (kA 8) (kC (kA 9) kN))))) (kC (kR 2 43 j_lLease) (kC (kR 3 65 j_lCounter) (kC (kR 4 153 j_lRange) (kC (kR 5 3 j_lInt) (kC (kR 6 65 j_lCounter) (kC (kR 7 153 j_lRange) (kC (kR 8 43 j_lLease) (kC (kR 9 3 j_lInt) kN))))))))))) (fun p=>(p.1.2.2.2.1,p.1.2.2.2.2.1,(Book.mk p.2.2.2.2.1 p.2.2.2.2.2.1 p.2.2.2.1 p.2.2.2.2.2.2.1),(Book.mk p.2.2.2.2.2.2.2.1 p.2.2.2.2.2.2.2.2.1 (t8 p.2).1 (t8 p.2).2.1))) (fun (x:Int×Int×Book×Book)=>(((),((),((),(x.1,(x.2.1,()))))),(((),((),((),((),())))),(((),((),((),((),())))),(x.2.2.1.leases,(x.2.2.1.counters,(x.2.2.1.free,(x.2.2.1.bound,(x.2.2.2.counters,(x.2.2.2.free,(x.2.2.2.leases,(x.2.2.2.bound,())))))))))))) (fun _=>rfl)
def co0_L77_3:kT (Book×Book):=kO (kS 20 (kC (kP 0 0) (kC (kP 1 0) kN)) (kC (Cod.var 0 29 (kC (kA 3) (kC (kA 4) (kC (kA 2) (kC (kA 5) kN))))) (kC (Cod.var 1 29 (kC (kA 6) (kC (kA 7) (kC (kA 8) (kC (kA 9) kN))))) (kC (kR 2 43 j_lLease) (kC (kR 3 65 j_lCounter) (kC (kR 4 153 j_lRange) (kC (kR 5 3 j_lInt) (kC (kR 6 65 j_lCounter) (kC (kR 7 153 j_lRange) (kC (kR 8 43 j_lLease) (kC (kR 9 3 j_lInt) kN))))))))))) (fun p=>((Book.mk p.2.2.2.2.1 p.2.2.2.2.2.1 p.2.2.2.1 p.2.2.2.2.2.2.1),(Book.mk p.2.2.2.2.2.2.2.1 p.2.2.2.2.2.2.2.2.1 (t8 p.2).1 (t8 p.2).2.1))) (fun (x:Book×Book)=>(((),((),())),(((),((),((),((),())))),(((),((),((),((),())))),(x.1.leases,(x.1.counters,(x.1.free,(x.1.bound,(x.2.counters,(x.2.free,(x.2.leases,(x.2.bound,())))))))))))) (fun _=>rfl)
def sl_L77_3:SFn TL:=SFn.one ch_L77_3.dec (fun p=>L77_3 p.1 p.2.1 p.2.2.1 p.2.2.2) (.exit 0) co0_L77_3.enc
def ss_lL77_3:sL:=[(41,sf_deskLease)]
def v_L77_3:Env:=envOf tab sl sh [] [(41,.sum)]
theorem v_L77_3_ok:EnvOK PR (mkD cZ ss_lL77_3) v_L77_3:=envOK_of base aN (aC (okS rfl ok_deskLease) aN)
theorem run_L77_3 (x:Int×Int×Book×Book):Out.run (mkO cZ ss_lL77_3) (evRound v_L77_3 12 20 fd77.an q_L77_3 (loopIn (loopsOf fd77.body) 3) (ch_L77_3.enc x)) (back ch_L77_3 co0_L77_3 fun e=>exE e (.exit 0))=stp_L77_3 x:=by kernel_rfl
theorem ok_L77_3:LoopOK PR (oneS sl_L77_3) nt77 q_L77_3 (loopIn (loopsOf fd77.body) 3) :=
  loop_one v_L77_3_ok (loops:=12) (k:=20) (an:=fd77.an) (by kernel_rfl) (FnSt.subl rfl st77.keys (aC (.inl (by kernel_rfl)) aN)) ch_L77_3 co0_L77_3 (.exit 0) rfl stp_L77_3 _ run_L77_3 (fun x y h=>⟨_,h⟩) (fun _=>below_iff.1 rfl)
def deskBook (bx1:Book):Option Book :=
 cond (fits bx1.counters.length)
 (cond (fits bx1.free.length)
 (cond (fits bx1.leases.length)
 (cond (fits bx1.bound.length)
 (ob (L77_3 (bx1.leases.length:Int) 0 bx1 (Book.mk [] [] [] [])) fun y0 =>
 some y0.1)
 none)
 none)
 none)
 none
def cc_Book:Cod (List (C TL)) Book:=kO (kC (kG j_lCounter) (kC (kG j_lRange) (kC (kG j_lLease) (kC (kG j_lInt) kN)))) (fun p=>(Book.mk p.1 p.2.1 p.2.2.1 p.2.2.2.1)) (fun (x:Book)=>(x.counters,(x.free,(x.leases,(x.bound,()))))) (fun _=>rfl)
def ch_deskBook:kT (Book):=kO (kS 0 (kC (Cod.xs (Cod.sa cc_Book)) kN) kN) (fun p=>p.1.1) (fun (x:Book)=>((x,()),())) (fun _=>rfl)
def co_deskBook:kT (Book):=kO (kS 4 (kC (Cod.xs (Cod.sa (kC (kA 0) (kC (kA 1) (kC (kA 2) (kC (kA 3) kN)))))) kN) (kC (kR 0 65 j_lCounter) (kC (kR 1 153 j_lRange) (kC (kR 2 43 j_lLease) (kC (kR 3 3 j_lInt) kN))))) (fun (_,z0,z1,z2,z3,_)=>(Book.mk z0 z1 z2 z3)) (fun (x:Book)=>((((),((),((),((),())))),()),(x.counters,(x.free,(x.leases,(x.bound,())))))) (fun _=>rfl)
def un_deskBook (p:Book):Option Book:=deskBook p
def sf_deskBook:SFn TL:=SFn.one ch_deskBook.dec un_deskBook .normal co_deskBook.enc
def ss_deskBook:sL:=[(177003,sl_L77_3)]
def env_deskBook:Env:=envOf tab sl sh [(77,fd77)] [(126,(.cln 65)),(92,(.cln 153)),(127,(.cln 43)),(93,(.cln 3))]
theorem env_deskBook_ok:EnvOK PR (mkD cZ ss_deskBook) env_deskBook:=envOK_of base (aC (st77.okl rfl (aC (lC ok_L77_3 rfl) aN)) aN) (aC (okCln okI_126) (aC (okCln okI_92) (aC (okCln okI_127) (aC (okCln okI_93) aN))))
theorem run_deskBook (x:Book):Out.run (mkO cZ ss_deskBook) (evSum env_deskBook 12 20 77 (ch_deskBook.enc x)) (back1 co_deskBook)=un_deskBook x:=by kernel_rfl
theorem ok_deskBook:SOK PR 77 sf_deskBook:=sum_one env_deskBook_ok (loops:=12) (n:=20) st77.enters ch_deskBook co_deskBook un_deskBook run_deskBook
def step_L78_3 (l1:List Op)(i1:Int)(i2:Int):Option (((List Op)×Int×Int)⊕((List Op))) :=
 cond (decide (i2 < i1))
 (cond (decide (0≤i2))
 (cond (decide (i2 < (l1.length:Int)))
 (ob (l1[i2.toNat]?) fun e0 =>
 cond (fits e0.dots.length)
 (cond (decide (0≤i2))
 (cond (decide (i2 < (l1.length:Int)))
 (ob (l1[i2.toNat]?) fun e1 =>
 some (.inl ((l1.set i2.toNat (Op.mk e1.dot e1.coll e1.ver e1.kind e1.key e1.text e1.n e1.time e0.dots)),i1,(w64 (i2+1)))))
 none)
 none)
 none)
 none)
 none)
 (some (.inr l1))
def stp_L78_3 (p:(List Op)×Int×Int):Option (((List Op)×Int×Int)⊕((List Op))):=step_L78_3 p.1 p.2.1 p.2.2
def L78_3 (l1:List Op)(i1:Int)(i2:Int):Option ((List Op)):=iterO stp_L78_3 ((i1 - i2).toNat+2) (l1,i1,i2)
def ch_L78_3:kT ((List Op)×Int×Int):=kO (kS 1 (kC (Cod.xs (Cod.sc (kA 0))) (kC (Cod.xs (Cod.sc (kA 0))) (kC kI (kC kI kN)))) (kC (kR 0 61 j_lOp) kN)) (fun p=>(p.2.1,p.1.2.2.1,p.1.2.2.2.1)) (fun (x:(List Op)×Int×Int)=>(((),((),(x.2.1,(x.2.2,())))),(x.1,()))) (fun _=>rfl)
def co0_L78_3:kT ((List Op)):=kO (kS 2 (kC (Cod.xs (Cod.sc (kA 0))) kN) (kC (kR 0 61 j_lOp) kN)) (fun p=>p.2.1) (fun (x:(List Op))=>(((),()),(x,()))) (fun _=>rfl)
def sl_L78_3:SFn TL:=SFn.one ch_L78_3.dec (fun p=>L78_3 p.1 p.2.1 p.2.2) (.exit 0) co0_L78_3.enc
def v_L78_3:Env:=envOf tab sl sh [] [(50,(.cln 59))]
theorem v_L78_3_ok:EnvOK PR (mkD cZ sZ) v_L78_3:=envOK_of base aN (aC (okCln okI_50) aN)
theorem run_L78_3 (x:(List Op)×Int×Int):Out.run (mkO cZ sZ) (evRound v_L78_3 12 20 fd78.an q_L78_3 (loopIn (loopsOf fd78.body) 3) (ch_L78_3.enc x)) (back ch_L78_3 co0_L78_3 fun e=>exE e (.exit 0))=stp_L78_3 x:=by kernel_rfl
theorem ok_L78_3:LoopOK PR (oneS sl_L78_3) nt78 q_L78_3 (loopIn (loopsOf fd78.body) 3) :=
  loop_one v_L78_3_ok (loops:=12) (k:=20) (an:=fd78.an) (by kernel_rfl) (FnSt.subl rfl st78.keys (aC (.inl (by kernel_rfl)) aN)) ch_L78_3 co0_L78_3 (.exit 0) rfl stp_L78_3 _ run_L78_3 (fun x y h=>⟨_,h⟩) (fun _=>below_iff.1 rfl)
def deskLog (l1:List Op):Option ((List Op)) :=
 cond (fits l1.length)
 (ob (L78_3 l1 (l1.length:Int) 0) fun y0 =>
 some y0)
 none
def ch_deskLog:kT ((List Op)):=kO (kS 0 (kC (kF j_lOp) kN) kN) (fun p=>p.1.1) (fun (x:(List Op))=>((x,()),())) (fun _=>rfl)
def co_deskLog:kT ((List Op)):=kO (kS 1 (kC (Cod.xs (Cod.sc (kA 0))) kN) (kC (kR 0 61 j_lOp) kN)) (fun p=>p.2.1) (fun (x:(List Op))=>(((),()),(x,()))) (fun _=>rfl)
def un_deskLog (p:(List Op)):Option ((List Op)):=deskLog p
def sf_deskLog:SFn TL:=SFn.one ch_deskLog.dec un_deskLog .normal co_deskLog.enc
def ss_deskLog:sL:=[(178003,sl_L78_3)]
def env_deskLog:Env:=envOf tab sl sh [(78,fd78)] [(51,(.cln 61))]
theorem env_deskLog_ok:EnvOK PR (mkD cZ ss_deskLog) env_deskLog:=envOK_of base (aC (st78.okl rfl (aC (lC ok_L78_3 rfl) aN)) aN) (aC (okCln okI_51) aN)
theorem run_deskLog (x:(List Op)):Out.run (mkO cZ ss_deskLog) (evSum env_deskLog 12 20 78 (ch_deskLog.enc x)) (back1 co_deskLog)=un_deskLog x:=by kernel_rfl
theorem ok_deskLog:SOK PR 78 sf_deskLog:=sum_one env_deskLog_ok (loops:=12) (n:=20) st78.enters ch_deskLog co_deskLog un_deskLog run_deskLog
def deskOwn (d1:Desk):Option Desk :=
 ob (deskBook d1.book) fun y0 =>
 ob (deskLog d1.log) fun y1 =>
 cond (fits d1.lost.length)
 (cond (fits d1.colls.a0.v.length)
 (cond (fits d1.colls.a0.regs.length)
 (cond (fits d1.colls.a0.elems.length)
 (cond (fits d1.colls.a0.gone.length)
 (cond (fits d1.colls.a0.sums.length)
 (cond (fits d1.colls.a0.binds.length)
 (cond (fits d1.colls.a1.v.length)
 (cond (fits d1.colls.a1.regs.length)
 (cond (fits d1.colls.a1.elems.length)
 (cond (fits d1.colls.a1.gone.length)
 (cond (fits d1.colls.a1.sums.length)
 (cond (fits d1.colls.a1.binds.length)
 (cond (fits d1.colls.a2.v.length)
 (cond (fits d1.colls.a2.regs.length)
 (cond (fits d1.colls.a2.elems.length)
 (cond (fits d1.colls.a2.gone.length)
 (cond (fits d1.colls.a2.sums.length)
 (cond (fits d1.colls.a2.binds.length)
 (ob (deskLease d1.dev.a0.reply.lease) fun y2 =>
 ob (deskLease d1.dev.a1.reply.lease) fun y3 =>
 ob (deskLease d1.dev.a2.reply.lease) fun y4 =>
 ob (deskLease d1.dev.a3.reply.lease) fun y5 =>
 ob (deskLease d1.dev.a4.reply.lease) fun y6 =>
 ob (deskLease d1.dev.a5.reply.lease) fun y7 =>
 some (Desk.mk y0 d1.colls y1 (A6Device.mk (Device.mk d1.dev.a0.epoch d1.dev.a0.req (Reply.mk d1.dev.a0.reply.err d1.dev.a0.reply.n y2)) (Device.mk d1.dev.a1.epoch d1.dev.a1.req (Reply.mk d1.dev.a1.reply.err d1.dev.a1.reply.n y3)) (Device.mk d1.dev.a2.epoch d1.dev.a2.req (Reply.mk d1.dev.a2.reply.err d1.dev.a2.reply.n y4)) (Device.mk d1.dev.a3.epoch d1.dev.a3.req (Reply.mk d1.dev.a3.reply.err d1.dev.a3.reply.n y5)) (Device.mk d1.dev.a4.epoch d1.dev.a4.req (Reply.mk d1.dev.a4.reply.err d1.dev.a4.reply.n y6)) (Device.mk d1.dev.a5.epoch d1.dev.a5.req (Reply.mk d1.dev.a5.reply.err d1.dev.a5.reply.n y7))) d1.lost d1.now))
 none)
 none)
 none)
 none)
 none)
 none)
 none)
 none)
 none)
 none)
 none)
 none)
 none)
 none)
 none)
 none)
 none)
 none)
 none
def cc_Desk:Cod (List (C TL)) Desk:=kO (kC (kG j_lCounter) (kC (kG j_lRange) (kC (kG j_lLease) (kC (kG j_lInt) (kC (kG j_lEntry) (kC (kG j_lReg) (kC (kG j_lElem) (kC (kG j_lEntry) (kC (kG j_lSum) (kC (kG j_lBind) (kC (kG j_lEntry) (kC (kG j_lReg) (kC (kG j_lElem) (kC (kG j_lEntry) (kC (kG j_lSum) (kC (kG j_lBind) (kC (kG j_lEntry) (kC (kG j_lReg) (kC (kG j_lElem) (kC (kG j_lEntry) (kC (kG j_lSum) (kC (kG j_lBind) (kC (kG j_lOp) (kC kJ (kC kJ (kC kJ (kC kJ (kC kJ (kC kJ (kC kJ (kC kJ (kC (kG j_lSlice) (kC (kG j_lRange) (kC (kG j_lInt) (kC kJ (kC kJ (kC kJ (kC kJ (kC kJ (kC kJ (kC kJ (kC kJ (kC (kG j_lSlice) (kC (kG j_lRange) (kC (kG j_lInt) (kC kJ (kC kJ (kC kJ (kC kJ (kC kJ (kC kJ (kC kJ (kC kJ (kC (kG j_lSlice) (kC (kG j_lRange) (kC (kG j_lInt) (kC kJ (kC kJ (kC kJ (kC kJ (kC kJ (kC kJ (kC kJ (kC kJ (kC (kG j_lSlice) (kC (kG j_lRange) (kC (kG j_lInt) (kC kJ (kC kJ (kC kJ (kC kJ (kC kJ (kC kJ (kC kJ (kC kJ (kC (kG j_lSlice) (kC (kG j_lRange) (kC (kG j_lInt) (kC kJ (kC kJ (kC kJ (kC kJ (kC kJ (kC kJ (kC kJ (kC kJ (kC (kG j_lSlice) (kC (kG j_lRange) (kC (kG j_lInt) (kC (kG j_lEntry) (kC kJ kN))))))))))))))))))))))))))))))))))))))))))))))))))))))))))))))))))))))))))))))))))))))))))) (fun p=>(Desk.mk (Book.mk p.1 p.2.1 p.2.2.1 p.2.2.2.1) (A3Coll.mk (Coll.mk p.2.2.2.2.1 p.2.2.2.2.2.1 p.2.2.2.2.2.2.1 p.2.2.2.2.2.2.2.1 (t8 p).1 (t8 p).2.1) (Coll.mk (t8 p).2.2.1 (t8 p).2.2.2.1 (t8 p).2.2.2.2.1 (t8 p).2.2.2.2.2.1 (t8 p).2.2.2.2.2.2.1 (t8 p).2.2.2.2.2.2.2.1) (Coll.mk (t8 (t8 p)).1 (t8 (t8 p)).2.1 (t8 (t8 p)).2.2.1 (t8 (t8 p)).2.2.2.1 (t8 (t8 p)).2.2.2.2.1 (t8 (t8 p)).2.2.2.2.2.1)) (t8 (t8 p)).2.2.2.2.2.2.1 (A6Device.mk (Device.mk (t8 (t8 p)).2.2.2.2.2.2.2.1 (t8 (t8 (t8 p))).1 (Reply.mk (t8 (t8 (t8 p))).2.1 (t8 (t8 (t8 p))).2.2.1 (Lease.mk (t8 (t8 (t8 p))).2.2.2.1 (t8 (t8 (t8 p))).2.2.2.2.1 (t8 (t8 (t8 p))).2.2.2.2.2.1 (t8 (t8 (t8 p))).2.2.2.2.2.2.1 (t8 (t8 (t8 p))).2.2.2.2.2.2.2.1 (t32 p).1 (t32 p).2.1))) (Device.mk (t32 p).2.2.1 (t32 p).2.2.2.1 (Reply.mk (t32 p).2.2.2.2.1 (t32 p).2.2.2.2.2.1 (Lease.mk (t32 p).2.2.2.2.2.2.1 (t32 p).2.2.2.2.2.2.2.1 (t8 (t32 p)).1 (t8 (t32 p)).2.1 (t8 (t32 p)).2.2.1 (t8 (t32 p)).2.2.2.1 (t8 (t32 p)).2.2.2.2.1))) (Device.mk (t8 (t32 p)).2.2.2.2.2.1 (t8 (t32 p)).2.2.2.2.2.2.1 (Reply.mk (t8 (t32 p)).2.2.2.2.2.2.2.1 (t8 (t8 (t32 p))).1 (Lease.mk (t8 (t8 (t32 p))).2.1 (t8 (t8 (t32 p))).2.2.1 (t8 (t8 (t32 p))).2.2.2.1 (t8 (t8 (t32 p))).2.2.2.2.1 (t8 (t8 (t32 p))).2.2.2.2.2.1 (t8 (t8 (t32 p))).2.2.2.2.2.2.1 (t8 (t8 (t32 p))).2.2.2.2.2.2.2.1))) (Device.mk (t8 (t8 (t8 (t32 p)))).1 (t8 (t8 (t8 (t32 p)))).2.1 (Reply.mk (t8 (t8 (t8 (t32 p)))).2.2.1 (t8 (t8 (t8 (t32 p)))).2.2.2.1 (Lease.mk (t8 (t8 (t8 (t32 p)))).2.2.2.2.1 (t8 (t8 (t8 (t32 p)))).2.2.2.2.2.1 (t8 (t8 (t8 (t32 p)))).2.2.2.2.2.2.1 (t8 (t8 (t8 (t32 p)))).2.2.2.2.2.2.2.1 (t32 (t32 p)).1 (t32 (t32 p)).2.1 (t32 (t32 p)).2.2.1))) (Device.mk (t32 (t32 p)).2.2.2.1 (t32 (t32 p)).2.2.2.2.1 (Reply.mk (t32 (t32 p)).2.2.2.2.2.1 (t32 (t32 p)).2.2.2.2.2.2.1 (Lease.mk (t32 (t32 p)).2.2.2.2.2.2.2.1 (t8 (t32 (t32 p))).1 (t8 (t32 (t32 p))).2.1 (t8 (t32 (t32 p))).2.2.1 (t8 (t32 (t32 p))).2.2.2.1 (t8 (t32 (t32 p))).2.2.2.2.1 (t8 (t32 (t32 p))).2.2.2.2.2.1))) (Device.mk (t8 (t32 (t32 p))).2.2.2.2.2.2.1 (t8 (t32 (t32 p))).2.2.2.2.2.2.2.1 (Reply.mk (t8 (t8 (t32 (t32 p)))).1 (t8 (t8 (t32 (t32 p)))).2.1 (Lease.mk (t8 (t8 (t32 (t32 p)))).2.2.1 (t8 (t8 (t32 (t32 p)))).2.2.2.1 (t8 (t8 (t32 (t32 p)))).2.2.2.2.1 (t8 (t8 (t32 (t32 p)))).2.2.2.2.2.1 (t8 (t8 (t32 (t32 p)))).2.2.2.2.2.2.1 (t8 (t8 (t32 (t32 p)))).2.2.2.2.2.2.2.1 (t8 (t8 (t8 (t32 (t32 p))))).1)))) (t8 (t8 (t8 (t32 (t32 p))))).2.1 (t8 (t8 (t8 (t32 (t32 p))))).2.2.1)) (fun (x:Desk)=>(x.book.counters,(x.book.free,(x.book.leases,(x.book.bound,(x.colls.a0.v,(x.colls.a0.regs,(x.colls.a0.elems,(x.colls.a0.gone,(x.colls.a0.sums,(x.colls.a0.binds,(x.colls.a1.v,(x.colls.a1.regs,(x.colls.a1.elems,(x.colls.a1.gone,(x.colls.a1.sums,(x.colls.a1.binds,(x.colls.a2.v,(x.colls.a2.regs,(x.colls.a2.elems,(x.colls.a2.gone,(x.colls.a2.sums,(x.colls.a2.binds,(x.log,(x.dev.a0.epoch,(x.dev.a0.req,(x.dev.a0.reply.err,(x.dev.a0.reply.n,(x.dev.a0.reply.lease.device,(x.dev.a0.reply.lease.epoch,(x.dev.a0.reply.lease.until_,(x.dev.a0.reply.lease.last,(x.dev.a0.reply.lease.slices,(x.dev.a0.reply.lease.ids,(x.dev.a0.reply.lease.used,(x.dev.a1.epoch,(x.dev.a1.req,(x.dev.a1.reply.err,(x.dev.a1.reply.n,(x.dev.a1.reply.lease.device,(x.dev.a1.reply.lease.epoch,(x.dev.a1.reply.lease.until_,(x.dev.a1.reply.lease.last,(x.dev.a1.reply.lease.slices,(x.dev.a1.reply.lease.ids,(x.dev.a1.reply.lease.used,(x.dev.a2.epoch,(x.dev.a2.req,(x.dev.a2.reply.err,(x.dev.a2.reply.n,(x.dev.a2.reply.lease.device,(x.dev.a2.reply.lease.epoch,(x.dev.a2.reply.lease.until_,(x.dev.a2.reply.lease.last,(x.dev.a2.reply.lease.slices,(x.dev.a2.reply.lease.ids,(x.dev.a2.reply.lease.used,(x.dev.a3.epoch,(x.dev.a3.req,(x.dev.a3.reply.err,(x.dev.a3.reply.n,(x.dev.a3.reply.lease.device,(x.dev.a3.reply.lease.epoch,(x.dev.a3.reply.lease.until_,(x.dev.a3.reply.lease.last,(x.dev.a3.reply.lease.slices,(x.dev.a3.reply.lease.ids,(x.dev.a3.reply.lease.used,(x.dev.a4.epoch,(x.dev.a4.req,(x.dev.a4.reply.err,(x.dev.a4.reply.n,(x.dev.a4.reply.lease.device,(x.dev.a4.reply.lease.epoch,(x.dev.a4.reply.lease.until_,(x.dev.a4.reply.lease.last,(x.dev.a4.reply.lease.slices,(x.dev.a4.reply.lease.ids,(x.dev.a4.reply.lease.used,(x.dev.a5.epoch,(x.dev.a5.req,(x.dev.a5.reply.err,(x.dev.a5.reply.n,(x.dev.a5.reply.lease.device,(x.dev.a5.reply.lease.epoch,(x.dev.a5.reply.lease.until_,(x.dev.a5.reply.lease.last,(x.dev.a5.reply.lease.slices,(x.dev.a5.reply.lease.ids,(x.dev.a5.reply.lease.used,(x.lost,(x.now,())))))))))))))))))))))))))))))))))))))))))))))))))))))))))))))))))))))))))))))))))))))))))))) (fun _=>rfl)
def ch_deskOwn:kT (Desk):=kO (kS 0 (kC (Cod.xs (Cod.sa cc_Desk)) kN) kN) (fun p=>p.1.1) (fun (x:Desk)=>((x,()),())) (fun _=>rfl)
def co_deskOwn:kT (Desk):=kO (kS 42 (kC (Cod.xs (Cod.sa (kC (kA 0) (kC (kA 1) (kC (kA 2) (kC (kA 3) (kC (kA 4) (kC (kA 5) (kC (kA 6) (kC (kA 7) (kC (kA 8) (kC (kA 9) (kC (kA 10) (kC (kA 11) (kC (kA 12) (kC (kA 13) (kC (kA 14) (kC (kA 15) (kC (kA 16) (kC (kA 17) (kC (kA 18) (kC (kA 19) (kC (kA 20) (kC (kA 21) (kC (kA 22) (kC kJ (kC kJ (kC kJ (kC kJ (kC kJ (kC kJ (kC kJ (kC kJ (kC (kA 23) (kC (kA 24) (kC (kA 25) (kC kJ (kC kJ (kC kJ (kC kJ (kC kJ (kC kJ (kC kJ (kC kJ (kC (kA 26) (kC (kA 27) (kC (kA 28) (kC kJ (kC kJ (kC kJ (kC kJ (kC kJ (kC kJ (kC kJ (kC kJ (kC (kA 29) (kC (kA 30) (kC (kA 31) (kC kJ (kC kJ (kC kJ (kC kJ (kC kJ (kC kJ (kC kJ (kC kJ (kC (kA 32) (kC (kA 33) (kC (kA 34) (kC kJ (kC kJ (kC kJ (kC kJ (kC kJ (kC kJ (kC kJ (kC kJ (kC (kA 35) (kC (kA 36) (kC (kA 37) (kC kJ (kC kJ (kC kJ (kC kJ (kC kJ (kC kJ (kC kJ (kC kJ (kC (kA 38) (kC (kA 39) (kC (kA 40) (kC (kA 41) (kC kJ kN))))))))))))))))))))))))))))))))))))))))))))))))))))))))))))))))))))))))))))))))))))))))))))) kN) (kC (kR 0 65 j_lCounter) (kC (kR 1 153 j_lRange) (kC (kR 2 43 j_lLease) (kC (kR 3 3 j_lInt) (kC (kR 4 66 j_lEntry) (kC (kR 5 142 j_lReg) (kC (kR 6 145 j_lElem) (kC (kR 7 59 j_lEntry) (kC (kR 8 129 j_lSum) (kC (kR 9 149 j_lBind) (kC (kR 10 66 j_lEntry) (kC (kR 11 142 j_lReg) (kC (kR 12 145 j_lElem) (kC (kR 13 59 j_lEntry) (kC (kR 14 129 j_lSum) (kC (kR 15 149 j_lBind) (kC (kR 16 66 j_lEntry) (kC (kR 17 142 j_lReg) (kC (kR 18 145 j_lElem) (kC (kR 19 59 j_lEntry) (kC (kR 20 129 j_lSum) (kC (kR 21 149 j_lBind) (kC (kR 22 61 j_lOp) (kC (kR 23 133 j_lSlice) (kC (kR 24 153 j_lRange) (kC (kR 25 3 j_lInt) (kC (kR 26 133 j_lSlice) (kC (kR 27 153 j_lRange) (kC (kR 28 3 j_lInt) (kC (kR 29 133 j_lSlice) (kC (kR 30 153 j_lRange) (kC (kR 31 3 j_lInt) (kC (kR 32 133 j_lSlice) (kC (kR 33 153 j_lRange) (kC (kR 34 3 j_lInt) (kC (kR 35 133 j_lSlice) (kC (kR 36 153 j_lRange) (kC (kR 37 3 j_lInt) (kC (kR 38 133 j_lSlice) (kC (kR 39 153 j_lRange) (kC (kR 40 3 j_lInt) (kC (kR 41 66 j_lEntry) kN))))))))))))))))))))))))))))))))))))))))))) (fun p=>(Desk.mk (Book.mk p.2.1 p.2.2.1 p.2.2.2.1 p.2.2.2.2.1) (A3Coll.mk (Coll.mk p.2.2.2.2.2.1 p.2.2.2.2.2.2.1 p.2.2.2.2.2.2.2.1 p.2.2.2.2.2.2.2.2.1 (t8 p.2).1 (t8 p.2).2.1) (Coll.mk (t8 p.2).2.2.1 (t8 p.2).2.2.2.1 (t8 p.2).2.2.2.2.1 (t8 p.2).2.2.2.2.2.1 (t8 p.2).2.2.2.2.2.2.1 (t8 p.2).2.2.2.2.2.2.2.1) (Coll.mk (t8 (t8 p.2)).1 (t8 (t8 p.2)).2.1 (t8 (t8 p.2)).2.2.1 (t8 (t8 p.2)).2.2.2.1 (t8 (t8 p.2)).2.2.2.2.1 (t8 (t8 p.2)).2.2.2.2.2.1)) (t8 (t8 p.2)).2.2.2.2.2.2.1 (A6Device.mk (Device.mk (t8 (t8 p.1.1)).2.2.2.2.2.2.2.1 (t8 (t8 (t8 p.1.1))).1 (Reply.mk (t8 (t8 (t8 p.1.1))).2.1 (t8 (t8 (t8 p.1.1))).2.2.1 (Lease.mk (t8 (t8 (t8 p.1.1))).2.2.2.1 (t8 (t8 (t8 p.1.1))).2.2.2.2.1 (t8 (t8 (t8 p.1.1))).2.2.2.2.2.1 (t8 (t8 (t8 p.1.1))).2.2.2.2.2.2.1 (t8 (t8 p.2)).2.2.2.2.2.2.2.1 (t8 (t8 (t8 p.2))).1 (t8 (t8 (t8 p.2))).2.1))) (Device.mk (t32 p.1.1).2.2.1 (t32 p.1.1).2.2.2.1 (Reply.mk (t32 p.1.1).2.2.2.2.1 (t32 p.1.1).2.2.2.2.2.1 (Lease.mk (t32 p.1.1).2.2.2.2.2.2.1 (t32 p.1.1).2.2.2.2.2.2.2.1 (t8 (t32 p.1.1)).1 (t8 (t32 p.1.1)).2.1 (t8 (t8 (t8 p.2))).2.2.1 (t8 (t8 (t8 p.2))).2.2.2.1 (t8 (t8 (t8 p.2))).2.2.2.2.1))) (Device.mk (t8 (t32 p.1.1)).2.2.2.2.2.1 (t8 (t32 p.1.1)).2.2.2.2.2.2.1 (Reply.mk (t8 (t32 p.1.1)).2.2.2.2.2.2.2.1 (t8 (t8 (t32 p.1.1))).1 (Lease.mk (t8 (t8 (t32 p.1.1))).2.1 (t8 (t8 (t32 p.1.1))).2.2.1 (t8 (t8 (t32 p.1.1))).2.2.2.1 (t8 (t8 (t32 p.1.1))).2.2.2.2.1 (t8 (t8 (t8 p.2))).2.2.2.2.2.1 (t8 (t8 (t8 p.2))).2.2.2.2.2.2.1 (t8 (t8 (t8 p.2))).2.2.2.2.2.2.2.1))) (Device.mk (t8 (t8 (t8 (t32 p.1.1)))).1 (t8 (t8 (t8 (t32 p.1.1)))).2.1 (Reply.mk (t8 (t8 (t8 (t32 p.1.1)))).2.2.1 (t8 (t8 (t8 (t32 p.1.1)))).2.2.2.1 (Lease.mk (t8 (t8 (t8 (t32 p.1.1)))).2.2.2.2.1 (t8 (t8 (t8 (t32 p.1.1)))).2.2.2.2.2.1 (t8 (t8 (t8 (t32 p.1.1)))).2.2.2.2.2.2.1 (t8 (t8 (t8 (t32 p.1.1)))).2.2.2.2.2.2.2.1 (t32 p.2).1 (t32 p.2).2.1 (t32 p.2).2.2.1))) (Device.mk (t32 (t32 p.1.1)).2.2.2.1 (t32 (t32 p.1.1)).2.2.2.2.1 (Reply.mk (t32 (t32 p.1.1)).2.2.2.2.2.1 (t32 (t32 p.1.1)).2.2.2.2.2.2.1 (Lease.mk (t32 (t32 p.1.1)).2.2.2.2.2.2.2.1 (t8 (t32 (t32 p.1.1))).1 (t8 (t32 (t32 p.1.1))).2.1 (t8 (t32 (t32 p.1.1))).2.2.1 (t32 p.2).2.2.2.1 (t32 p.2).2.2.2.2.1 (t32 p.2).2.2.2.2.2.1))) (Device.mk (t8 (t32 (t32 p.1.1))).2.2.2.2.2.2.1 (t8 (t32 (t32 p.1.1))).2.2.2.2.2.2.2.1 (Reply.mk (t8 (t8 (t32 (t32 p.1.1)))).1 (t8 (t8 (t32 (t32 p.1.1)))).2.1 (Lease.mk (t8 (t8 (t32 (t32 p.1.1)))).2.2.1 (t8 (t8 (t32 (t32 p.1.1)))).2.2.2.1 (t8 (t8 (t32 (t32 p.1.1)))).2.2.2.2.1 (t8 (t8 (t32 (t32 p.1.1)))).2.2.2.2.2.1 (t32 p.2).2.2.2.2.2.2.1 (t32 p.2).2.2.2.2.2.2.2.1 (t8 (t32 p.2)).1)))) (t8 (t32 p.2)).2.1 (t8 (t8 (t8 (t32 (t32 p.1.1))))).2.2.1)) (fun (x:Desk)=>((((),((),((),((),((),((),((),((),((),((),((),((),((),((),((),((),((),((),((),((),((),((),((),(x.dev.a0.epoch,(x.dev.a0.req,(x.dev.a0.reply.err,(x.dev.a0.reply.n,(x.dev.a0.reply.lease.device,(x.dev.a0.reply.lease.epoch,(x.dev.a0.reply.lease.until_,(x.dev.a0.reply.lease.last,((),((),((),(x.dev.a1.epoch,(x.dev.a1.req,(x.dev.a1.reply.err,(x.dev.a1.reply.n,(x.dev.a1.reply.lease.device,(x.dev.a1.reply.lease.epoch,(x.dev.a1.reply.lease.until_,(x.dev.a1.reply.lease.last,((),((),((),(x.dev.a2.epoch,(x.dev.a2.req,(x.dev.a2.reply.err,(x.dev.a2.reply.n,(x.dev.a2.reply.lease.device,(x.dev.a2.reply.lease.epoch,(x.dev.a2.reply.lease.until_,(x.dev.a2.reply.lease.last,((),((),((),(x.dev.a3.epoch,(x.dev.a3.req,(x.dev.a3.reply.err,(x.dev.a3.reply.n,(x.dev.a3.reply.lease.device,(x.dev.a3.reply.lease.epoch,(x.dev.a3.reply.lease.until_,(x.dev.a3.reply.lease.last,((),((),((),(x.dev.a4.epoch,(x.dev.a4.req,(x.dev.a4.reply.err,(x.dev.a4.reply.n,(x.dev.a4.reply.lease.device,(x.dev.a4.reply.lease.epoch,(x.dev.a4.reply.lease.until_,(x.dev.a4.reply.lease.last,((),((),((),(x.dev.a5.epoch,(x.dev.a5.req,(x.dev.a5.reply.err,(x.dev.a5.reply.n,(x.dev.a5.reply.lease.device,(x.dev.a5.reply.lease.epoch,(x.dev.a5.reply.lease.until_,(x.dev.a5.reply.lease.last,((),((),((),((),(x.now,()))))))))))))))))))))))))))))))))))))))))))))))))))))))))))))))))))))))))))))))))))))))))))),()),(x.book.counters,(x.book.free,(x.book.leases,(x.book.bound,(x.colls.a0.v,(x.colls.a0.regs,(x.colls.a0.elems,(x.colls.a0.gone,(x.colls.a0.sums,(x.colls.a0.binds,(x.colls.a1.v,(x.colls.a1.regs,(x.colls.a1.elems,(x.colls.a1.gone,(x.colls.a1.sums,(x.colls.a1.binds,(x.colls.a2.v,(x.colls.a2.regs,(x.colls.a2.elems,(x.colls.a2.gone,(x.colls.a2.sums,(x.colls.a2.binds,(x.log,(x.dev.a0.reply.lease.slices,(x.dev.a0.reply.lease.ids,(x.dev.a0.reply.lease.used,(x.dev.a1.reply.lease.slices,(x.dev.a1.reply.lease.ids,(x.dev.a1.reply.lease.used,(x.dev.a2.reply.lease.slices,(x.dev.a2.reply.lease.ids,(x.dev.a2.reply.lease.used,(x.dev.a3.reply.lease.slices,(x.dev.a3.reply.lease.ids,(x.dev.a3.reply.lease.used,(x.dev.a4.reply.lease.slices,(x.dev.a4.reply.lease.ids,(x.dev.a4.reply.lease.used,(x.dev.a5.reply.lease.slices,(x.dev.a5.reply.lease.ids,(x.dev.a5.reply.lease.used,(x.lost,())))))))))))))))))))))))))))))))))))))))))))) (fun _=>rfl)
def un_deskOwn (p:Desk):Option Desk:=deskOwn p
def sf_deskOwn:SFn TL:=SFn.one ch_deskOwn.dec un_deskOwn .normal co_deskOwn.enc
def ss_deskOwn:sL:=[(77,sf_deskBook),(78,sf_deskLog),(41,sf_deskLease)]
def env_deskOwn:Env:=envOf tab sl sh [(38,fd38)] [(77,.sum),(78,.sum),(79,(.cln 66)),(80,(.cln 142)),(81,(.cln 145)),(50,(.cln 59)),(82,(.cln 129)),(83,(.cln 149)),(41,.sum)]
theorem env_deskOwn_ok:EnvOK PR (mkD cZ ss_deskOwn) env_deskOwn:=envOK_of base (aC (st38.okl rfl aN) aN) (aC (okS rfl ok_deskBook) (aC (okS rfl ok_deskLog) (aC (okCln okI_79) (aC (okCln okI_80) (aC (okCln okI_81) (aC (okCln okI_50) (aC (okCln okI_82) (aC (okCln okI_83) (aC (okS rfl ok_deskLease) aN)))))))))
theorem run_deskOwn (x:Desk):Out.run (mkO cZ ss_deskOwn) (evSum env_deskOwn 12 20 38 (ch_deskOwn.enc x)) (back1 co_deskOwn)=un_deskOwn x:=by kernel_rfl
theorem ok_deskOwn:SOK PR 38 sf_deskOwn:=sum_one env_deskOwn_ok (loops:=12) (n:=20) st38.enters ch_deskOwn co_deskOwn un_deskOwn run_deskOwn
def desk_fail (i1:Int):Option Reply :=
 some (Reply.mk i1 0 (Lease.mk 0 0 0 0 [] [] []))
def un_desk_fail (p:Int):Option Reply:=desk_fail p
def df_desk_fail:DFn TL:=DFn.of (DA.one dI) un_desk_fail (DA.one (DT.agg dc_Reply))
theorem run_desk_fail:DRun [] [] (envOf tab sl sh [(39,fd39)] []) 39 (DA.one dI) un_desk_fail (DA.one (DT.agg dc_Reply)):=fun _=>by kernel_rfl
theorem ok_desk_fail:DOK PR 39 .keep df_desk_fail:=dok run_desk_fail (envOK_of base (aC (st39.okl rfl aN) aN) aN) (.inl rfl) st39.enters
def clerkLost (l1:List Entry)(i1:Int)(i2:Int):Option Bool :=
  cond (fits l1.length) (some (l1.any fun e=>e.device == i1 && e.epoch == i2)) none
def un_clerkLost (p:(List Entry)×Int×Int):Option Bool:=clerkLost p.1 p.2.1 p.2.2
def df_clerkLost:DFn TL:=DFn.of (DA.cons (DT.one di_lEntry) (DA.cons dI (DA.one dI))) un_clerkLost (DA.one dB)
theorem of_lEntry_fz {l:TL}{a:List Entry}(h:of_lEntry (.fz l)=some a):l=.lEntry a:=by
  cases l<;>simp only [of_lEntry,Option.some.injEq,reduceCtorEq] at h
  rw [h]
theorem flat_Entry:∀ {a:List Entry} {G:Fz} {xs:List Value},RepIs G (a.map v_EntryC).flatten xs→xs=flat3 (a.map fun e=>(e.device,e.epoch,e.seq))
  | [],_,_,h=>by cases h;rfl
  | e::r,_,_,h=>by
    cases h with | cons h1 h=>cases h with | cons h2 h=>cases h with | cons h3 h =>
    cases h1;cases h2;cases h3
    rw [flat_Entry h];rfl
theorem ok_clerkLost:DOK PR 129 (.rd 89 66) df_clerkLost:=by
  refine ⟨enters_of Tryz.func129 (by kernel_rfl) (c:=bod Tryz.f129.body) rfl,by simp [isBlt],?_⟩
  rintro l ys rs ⟨x,y,hx,hy,rfl⟩ G w k cells t sv xs vs hk hsv hc hlen hrep _ hys
  have hle:=(DA.cons (DT.one di_lEntry) (DA.cons dI (DA.one dI))).ok (.c (.im (.fz l))::ys) x hx
  obtain ⟨a,ha,hx⟩:=ob_eq.1 hx
  cases of_lEntry_fz ha
  obtain ⟨b',hb',hx⟩:=ob_eq.1 hx
  cases hx
  cases hle with
  | cons _ h2 =>
  have h3:=all2_le h2 hys
  obtain ⟨i1,i2⟩:=b'
  cases h3 with
  | cons v1 h3=>cases h3 with
  | cons v2 h3 =>
  cases h3;cases v1;cases v2
  obtain ⟨ad,cap,rfl,_,hcs⟩:=hc
  have hcell:w.cell? ⟨k,89,none⟩=some (.slice ad (LI.els (TL.lEntry a)).length cap):=by rw [cell_of_block hk];simpa using hsv
  have hln:(LI.els (TL.lEntry a)).length=a.length:=by simp [LI.els]
  rw [hln] at hcell hcs
  have hF:clerkLost a i1 i2=some y:=hy
  unfold clerkLost at hF
  cases hft:fits a.length with
  | false=>rw [hft] at hF;cases hF
  | true =>
  rw [hft,cond_true] at hF
  cases hF
  have hl:=of_decide_eq_true hft
  replace hrep:RepIs G (a.map v_EntryC).flatten xs:=hrep
  obtain rfl:=flat_Entry hrep
  have hm:(a.map fun e=>(e.device,e.epoch,e.seq)).length=a.length:=by simp
  refine Calls.mono (lost_calls w k ad cap (a.map fun e=>(e.device,e.epoch,e.seq)) i1 i2 (by rw [hm];exact hcell) (by rw [hm];exact hl) (by rw [hm];exact hcs)) ?_
  rintro en w' ⟨rfl,hb'⟩
  refine ⟨_,rfl,?_,hb'⟩
  rw [List.any_map]
  exact .bool
def clerkRegister (c1:Clerk):Option (Reply×Clerk) :=
 cond (decide (0≤c1.c.device) && decide (c1.c.device < 6))
 (cond (decide ((cond (decide (c1.c.device=0)) c1.d.dev.a0.epoch (cond (decide (c1.c.device=1)) c1.d.dev.a1.epoch (cond (decide (c1.c.device=2)) c1.d.dev.a2.epoch (cond (decide (c1.c.device=3)) c1.d.dev.a3.epoch (cond (decide (c1.c.device=4)) c1.d.dev.a4.epoch c1.d.dev.a5.epoch))))) > 0))
 (ob (clerkLost c1.d.lost c1.c.device (cond (decide (c1.c.device=0)) c1.d.dev.a0.epoch (cond (decide (c1.c.device=1)) c1.d.dev.a1.epoch (cond (decide (c1.c.device=2)) c1.d.dev.a2.epoch (cond (decide (c1.c.device=3)) c1.d.dev.a3.epoch (cond (decide (c1.c.device=4)) c1.d.dev.a4.epoch c1.d.dev.a5.epoch)))))) fun r0 =>
 cond (!r0)
 (ob (desk_fail 7) fun r1 =>
 some (r1,c1))
 (cond (decide ((cond (decide (c1.c.device=0)) c1.d.dev.a0.epoch (cond (decide (c1.c.device=1)) c1.d.dev.a1.epoch (cond (decide (c1.c.device=2)) c1.d.dev.a2.epoch (cond (decide (c1.c.device=3)) c1.d.dev.a3.epoch (cond (decide (c1.c.device=4)) c1.d.dev.a4.epoch c1.d.dev.a5.epoch)))))≥1048576))
 (ob (desk_fail 11) fun r2 =>
 some (r2,c1))
 (some ((Reply.mk 0 (cond (decide (c1.c.device=0)) (cond (decide (c1.c.device=0)) (w64 ((cond (decide (c1.c.device=0)) c1.d.dev.a0.epoch (cond (decide (c1.c.device=1)) c1.d.dev.a1.epoch (cond (decide (c1.c.device=2)) c1.d.dev.a2.epoch (cond (decide (c1.c.device=3)) c1.d.dev.a3.epoch (cond (decide (c1.c.device=4)) c1.d.dev.a4.epoch c1.d.dev.a5.epoch)))))+1)) c1.d.dev.a0.epoch) (cond (decide (c1.c.device=1)) (cond (decide (c1.c.device=1)) (w64 ((cond (decide (c1.c.device=0)) c1.d.dev.a0.epoch (cond (decide (c1.c.device=1)) c1.d.dev.a1.epoch (cond (decide (c1.c.device=2)) c1.d.dev.a2.epoch (cond (decide (c1.c.device=3)) c1.d.dev.a3.epoch (cond (decide (c1.c.device=4)) c1.d.dev.a4.epoch c1.d.dev.a5.epoch)))))+1)) c1.d.dev.a1.epoch) (cond (decide (c1.c.device=2)) (cond (decide (c1.c.device=2)) (w64 ((cond (decide (c1.c.device=0)) c1.d.dev.a0.epoch (cond (decide (c1.c.device=1)) c1.d.dev.a1.epoch (cond (decide (c1.c.device=2)) c1.d.dev.a2.epoch (cond (decide (c1.c.device=3)) c1.d.dev.a3.epoch (cond (decide (c1.c.device=4)) c1.d.dev.a4.epoch c1.d.dev.a5.epoch)))))+1)) c1.d.dev.a2.epoch) (cond (decide (c1.c.device=3)) (cond (decide (c1.c.device=3)) (w64 ((cond (decide (c1.c.device=0)) c1.d.dev.a0.epoch (cond (decide (c1.c.device=1)) c1.d.dev.a1.epoch (cond (decide (c1.c.device=2)) c1.d.dev.a2.epoch (cond (decide (c1.c.device=3)) c1.d.dev.a3.epoch (cond (decide (c1.c.device=4)) c1.d.dev.a4.epoch c1.d.dev.a5.epoch)))))+1)) c1.d.dev.a3.epoch) (cond (decide (c1.c.device=4)) (cond (decide (c1.c.device=4)) (w64 ((cond (decide (c1.c.device=0)) c1.d.dev.a0.epoch (cond (decide (c1.c.device=1)) c1.d.dev.a1.epoch (cond (decide (c1.c.device=2)) c1.d.dev.a2.epoch (cond (decide (c1.c.device=3)) c1.d.dev.a3.epoch (cond (decide (c1.c.device=4)) c1.d.dev.a4.epoch c1.d.dev.a5.epoch)))))+1)) c1.d.dev.a4.epoch) (cond (decide (c1.c.device=5)) (w64 ((cond (decide (c1.c.device=0)) c1.d.dev.a0.epoch (cond (decide (c1.c.device=1)) c1.d.dev.a1.epoch (cond (decide (c1.c.device=2)) c1.d.dev.a2.epoch (cond (decide (c1.c.device=3)) c1.d.dev.a3.epoch (cond (decide (c1.c.device=4)) c1.d.dev.a4.epoch c1.d.dev.a5.epoch)))))+1)) c1.d.dev.a5.epoch)))))) (Lease.mk 0 0 0 0 [] [] [])),(Clerk.mk (Desk.mk c1.d.book c1.d.colls c1.d.log (A6Device.mk (Device.mk (cond (decide (c1.c.device=0)) (w64 ((cond (decide (c1.c.device=0)) c1.d.dev.a0.epoch (cond (decide (c1.c.device=1)) c1.d.dev.a1.epoch (cond (decide (c1.c.device=2)) c1.d.dev.a2.epoch (cond (decide (c1.c.device=3)) c1.d.dev.a3.epoch (cond (decide (c1.c.device=4)) c1.d.dev.a4.epoch c1.d.dev.a5.epoch)))))+1)) c1.d.dev.a0.epoch) c1.d.dev.a0.req c1.d.dev.a0.reply) (Device.mk (cond (decide (c1.c.device=1)) (w64 ((cond (decide (c1.c.device=0)) c1.d.dev.a0.epoch (cond (decide (c1.c.device=1)) c1.d.dev.a1.epoch (cond (decide (c1.c.device=2)) c1.d.dev.a2.epoch (cond (decide (c1.c.device=3)) c1.d.dev.a3.epoch (cond (decide (c1.c.device=4)) c1.d.dev.a4.epoch c1.d.dev.a5.epoch)))))+1)) c1.d.dev.a1.epoch) c1.d.dev.a1.req c1.d.dev.a1.reply) (Device.mk (cond (decide (c1.c.device=2)) (w64 ((cond (decide (c1.c.device=0)) c1.d.dev.a0.epoch (cond (decide (c1.c.device=1)) c1.d.dev.a1.epoch (cond (decide (c1.c.device=2)) c1.d.dev.a2.epoch (cond (decide (c1.c.device=3)) c1.d.dev.a3.epoch (cond (decide (c1.c.device=4)) c1.d.dev.a4.epoch c1.d.dev.a5.epoch)))))+1)) c1.d.dev.a2.epoch) c1.d.dev.a2.req c1.d.dev.a2.reply) (Device.mk (cond (decide (c1.c.device=3)) (w64 ((cond (decide (c1.c.device=0)) c1.d.dev.a0.epoch (cond (decide (c1.c.device=1)) c1.d.dev.a1.epoch (cond (decide (c1.c.device=2)) c1.d.dev.a2.epoch (cond (decide (c1.c.device=3)) c1.d.dev.a3.epoch (cond (decide (c1.c.device=4)) c1.d.dev.a4.epoch c1.d.dev.a5.epoch)))))+1)) c1.d.dev.a3.epoch) c1.d.dev.a3.req c1.d.dev.a3.reply) (Device.mk (cond (decide (c1.c.device=4)) (w64 ((cond (decide (c1.c.device=0)) c1.d.dev.a0.epoch (cond (decide (c1.c.device=1)) c1.d.dev.a1.epoch (cond (decide (c1.c.device=2)) c1.d.dev.a2.epoch (cond (decide (c1.c.device=3)) c1.d.dev.a3.epoch (cond (decide (c1.c.device=4)) c1.d.dev.a4.epoch c1.d.dev.a5.epoch)))))+1)) c1.d.dev.a4.epoch) c1.d.dev.a4.req c1.d.dev.a4.reply) (Device.mk (cond (decide (c1.c.device=5)) (w64 ((cond (decide (c1.c.device=0)) c1.d.dev.a0.epoch (cond (decide (c1.c.device=1)) c1.d.dev.a1.epoch (cond (decide (c1.c.device=2)) c1.d.dev.a2.epoch (cond (decide (c1.c.device=3)) c1.d.dev.a3.epoch (cond (decide (c1.c.device=4)) c1.d.dev.a4.epoch c1.d.dev.a5.epoch)))))+1)) c1.d.dev.a5.epoch) c1.d.dev.a5.req c1.d.dev.a5.reply)) c1.d.lost c1.d.now) c1.c)))))
 (cond (decide ((cond (decide (c1.c.device=0)) c1.d.dev.a0.epoch (cond (decide (c1.c.device=1)) c1.d.dev.a1.epoch (cond (decide (c1.c.device=2)) c1.d.dev.a2.epoch (cond (decide (c1.c.device=3)) c1.d.dev.a3.epoch (cond (decide (c1.c.device=4)) c1.d.dev.a4.epoch c1.d.dev.a5.epoch)))))≥1048576))
 (ob (desk_fail 11) fun r3 =>
 some (r3,c1))
 (some ((Reply.mk 0 (cond (decide (c1.c.device=0)) (cond (decide (c1.c.device=0)) (w64 ((cond (decide (c1.c.device=0)) c1.d.dev.a0.epoch (cond (decide (c1.c.device=1)) c1.d.dev.a1.epoch (cond (decide (c1.c.device=2)) c1.d.dev.a2.epoch (cond (decide (c1.c.device=3)) c1.d.dev.a3.epoch (cond (decide (c1.c.device=4)) c1.d.dev.a4.epoch c1.d.dev.a5.epoch)))))+1)) c1.d.dev.a0.epoch) (cond (decide (c1.c.device=1)) (cond (decide (c1.c.device=1)) (w64 ((cond (decide (c1.c.device=0)) c1.d.dev.a0.epoch (cond (decide (c1.c.device=1)) c1.d.dev.a1.epoch (cond (decide (c1.c.device=2)) c1.d.dev.a2.epoch (cond (decide (c1.c.device=3)) c1.d.dev.a3.epoch (cond (decide (c1.c.device=4)) c1.d.dev.a4.epoch c1.d.dev.a5.epoch)))))+1)) c1.d.dev.a1.epoch) (cond (decide (c1.c.device=2)) (cond (decide (c1.c.device=2)) (w64 ((cond (decide (c1.c.device=0)) c1.d.dev.a0.epoch (cond (decide (c1.c.device=1)) c1.d.dev.a1.epoch (cond (decide (c1.c.device=2)) c1.d.dev.a2.epoch (cond (decide (c1.c.device=3)) c1.d.dev.a3.epoch (cond (decide (c1.c.device=4)) c1.d.dev.a4.epoch c1.d.dev.a5.epoch)))))+1)) c1.d.dev.a2.epoch) (cond (decide (c1.c.device=3)) (cond (decide (c1.c.device=3)) (w64 ((cond (decide (c1.c.device=0)) c1.d.dev.a0.epoch (cond (decide (c1.c.device=1)) c1.d.dev.a1.epoch (cond (decide (c1.c.device=2)) c1.d.dev.a2.epoch (cond (decide (c1.c.device=3)) c1.d.dev.a3.epoch (cond (decide (c1.c.device=4)) c1.d.dev.a4.epoch c1.d.dev.a5.epoch)))))+1)) c1.d.dev.a3.epoch) (cond (decide (c1.c.device=4)) (cond (decide (c1.c.device=4)) (w64 ((cond (decide (c1.c.device=0)) c1.d.dev.a0.epoch (cond (decide (c1.c.device=1)) c1.d.dev.a1.epoch (cond (decide (c1.c.device=2)) c1.d.dev.a2.epoch (cond (decide (c1.c.device=3)) c1.d.dev.a3.epoch (cond (decide (c1.c.device=4)) c1.d.dev.a4.epoch c1.d.dev.a5.epoch)))))+1)) c1.d.dev.a4.epoch) (cond (decide (c1.c.device=5)) (w64 ((cond (decide (c1.c.device=0)) c1.d.dev.a0.epoch (cond (decide (c1.c.device=1)) c1.d.dev.a1.epoch (cond (decide (c1.c.device=2)) c1.d.dev.a2.epoch (cond (decide (c1.c.device=3)) c1.d.dev.a3.epoch (cond (decide (c1.c.device=4)) c1.d.dev.a4.epoch c1.d.dev.a5.epoch)))))+1)) c1.d.dev.a5.epoch)))))) (Lease.mk 0 0 0 0 [] [] [])),(Clerk.mk (Desk.mk c1.d.book c1.d.colls c1.d.log (A6Device.mk (Device.mk (cond (decide (c1.c.device=0)) (w64 ((cond (decide (c1.c.device=0)) c1.d.dev.a0.epoch (cond (decide (c1.c.device=1)) c1.d.dev.a1.epoch (cond (decide (c1.c.device=2)) c1.d.dev.a2.epoch (cond (decide (c1.c.device=3)) c1.d.dev.a3.epoch (cond (decide (c1.c.device=4)) c1.d.dev.a4.epoch c1.d.dev.a5.epoch)))))+1)) c1.d.dev.a0.epoch) c1.d.dev.a0.req c1.d.dev.a0.reply) (Device.mk (cond (decide (c1.c.device=1)) (w64 ((cond (decide (c1.c.device=0)) c1.d.dev.a0.epoch (cond (decide (c1.c.device=1)) c1.d.dev.a1.epoch (cond (decide (c1.c.device=2)) c1.d.dev.a2.epoch (cond (decide (c1.c.device=3)) c1.d.dev.a3.epoch (cond (decide (c1.c.device=4)) c1.d.dev.a4.epoch c1.d.dev.a5.epoch)))))+1)) c1.d.dev.a1.epoch) c1.d.dev.a1.req c1.d.dev.a1.reply) (Device.mk (cond (decide (c1.c.device=2)) (w64 ((cond (decide (c1.c.device=0)) c1.d.dev.a0.epoch (cond (decide (c1.c.device=1)) c1.d.dev.a1.epoch (cond (decide (c1.c.device=2)) c1.d.dev.a2.epoch (cond (decide (c1.c.device=3)) c1.d.dev.a3.epoch (cond (decide (c1.c.device=4)) c1.d.dev.a4.epoch c1.d.dev.a5.epoch)))))+1)) c1.d.dev.a2.epoch) c1.d.dev.a2.req c1.d.dev.a2.reply) (Device.mk (cond (decide (c1.c.device=3)) (w64 ((cond (decide (c1.c.device=0)) c1.d.dev.a0.epoch (cond (decide (c1.c.device=1)) c1.d.dev.a1.epoch (cond (decide (c1.c.device=2)) c1.d.dev.a2.epoch (cond (decide (c1.c.device=3)) c1.d.dev.a3.epoch (cond (decide (c1.c.device=4)) c1.d.dev.a4.epoch c1.d.dev.a5.epoch)))))+1)) c1.d.dev.a3.epoch) c1.d.dev.a3.req c1.d.dev.a3.reply) (Device.mk (cond (decide (c1.c.device=4)) (w64 ((cond (decide (c1.c.device=0)) c1.d.dev.a0.epoch (cond (decide (c1.c.device=1)) c1.d.dev.a1.epoch (cond (decide (c1.c.device=2)) c1.d.dev.a2.epoch (cond (decide (c1.c.device=3)) c1.d.dev.a3.epoch (cond (decide (c1.c.device=4)) c1.d.dev.a4.epoch c1.d.dev.a5.epoch)))))+1)) c1.d.dev.a4.epoch) c1.d.dev.a4.req c1.d.dev.a4.reply) (Device.mk (cond (decide (c1.c.device=5)) (w64 ((cond (decide (c1.c.device=0)) c1.d.dev.a0.epoch (cond (decide (c1.c.device=1)) c1.d.dev.a1.epoch (cond (decide (c1.c.device=2)) c1.d.dev.a2.epoch (cond (decide (c1.c.device=3)) c1.d.dev.a3.epoch (cond (decide (c1.c.device=4)) c1.d.dev.a4.epoch c1.d.dev.a5.epoch)))))+1)) c1.d.dev.a5.epoch) c1.d.dev.a5.req c1.d.dev.a5.reply)) c1.d.lost c1.d.now) c1.c)))))
 none
def hc0_Clerk:Cod (List (Nat×En TL)) Clerk:=kO (kC (Cod.var 0 100 (kC (kA 1) (kC (kA 2) (kC (kA 3) (kC (kA 4) (kC (kA 5) (kC (kA 6) (kC (kA 7) (kC (kA 8) (kC (kA 9) (kC (kA 10) (kC (kA 11) (kC (kA 12) (kC (kA 13) (kC (kA 14) (kC (kA 15) (kC (kA 16) (kC (kA 17) (kC (kA 18) (kC (kA 19) (kC (kA 20) (kC (kA 21) (kC (kA 22) (kC (kA 23) (kC kJ (kC kJ (kC kJ (kC kJ (kC kJ (kC kJ (kC kJ (kC kJ (kC (kA 24) (kC (kA 25) (kC (kA 26) (kC kJ (kC kJ (kC kJ (kC kJ (kC kJ (kC kJ (kC kJ (kC kJ (kC (kA 27) (kC (kA 28) (kC (kA 29) (kC kJ (kC kJ (kC kJ (kC kJ (kC kJ (kC kJ (kC kJ (kC kJ (kC (kA 30) (kC (kA 31) (kC (kA 32) (kC kJ (kC kJ (kC kJ (kC kJ (kC kJ (kC kJ (kC kJ (kC kJ (kC (kA 33) (kC (kA 34) (kC (kA 35) (kC kJ (kC kJ (kC kJ (kC kJ (kC kJ (kC kJ (kC kJ (kC kJ (kC (kA 36) (kC (kA 37) (kC (kA 38) (kC kJ (kC kJ (kC kJ (kC kJ (kC kJ (kC kJ (kC kJ (kC kJ (kC (kA 39) (kC (kA 40) (kC (kA 41) (kC (kA 42) (kC kJ (kC kJ (kC kJ (kC kJ (kC kJ (kC kJ (kC (kG j_lWant) (kC (kG j_lOp) kN))))))))))))))))))))))))))))))))))))))))))))))))))))))))))))))))))))))))))))))))))))))))))))))))))) (kC (kR 1 65 j_lCounter) (kC (kR 2 153 j_lRange) (kC (kR 3 43 j_lLease) (kC (kR 4 3 j_lInt) (kC (kR 5 66 j_lEntry) (kC (kR 6 142 j_lReg) (kC (kR 7 145 j_lElem) (kC (kR 8 59 j_lEntry) (kC (kR 9 129 j_lSum) (kC (kR 10 149 j_lBind) (kC (kR 11 66 j_lEntry) (kC (kR 12 142 j_lReg) (kC (kR 13 145 j_lElem) (kC (kR 14 59 j_lEntry) (kC (kR 15 129 j_lSum) (kC (kR 16 149 j_lBind) (kC (kR 17 66 j_lEntry) (kC (kR 18 142 j_lReg) (kC (kR 19 145 j_lElem) (kC (kR 20 59 j_lEntry) (kC (kR 21 129 j_lSum) (kC (kR 22 149 j_lBind) (kC (kR 23 61 j_lOp) (kC (kR 24 133 j_lSlice) (kC (kR 25 153 j_lRange) (kC (kR 26 3 j_lInt) (kC (kR 27 133 j_lSlice) (kC (kR 28 153 j_lRange) (kC (kR 29 3 j_lInt) (kC (kR 30 133 j_lSlice) (kC (kR 31 153 j_lRange) (kC (kR 32 3 j_lInt) (kC (kR 33 133 j_lSlice) (kC (kR 34 153 j_lRange) (kC (kR 35 3 j_lInt) (kC (kR 36 133 j_lSlice) (kC (kR 37 153 j_lRange) (kC (kR 38 3 j_lInt) (kC (kR 39 133 j_lSlice) (kC (kR 40 153 j_lRange) (kC (kR 41 3 j_lInt) (kC (kR 42 66 j_lEntry) kN))))))))))))))))))))))))))))))))))))))))))) (fun p=>(Clerk.mk (Desk.mk (Book.mk p.2.1 p.2.2.1 p.2.2.2.1 p.2.2.2.2.1) (A3Coll.mk (Coll.mk p.2.2.2.2.2.1 p.2.2.2.2.2.2.1 p.2.2.2.2.2.2.2.1 (t8 p).1 (t8 p).2.1 (t8 p).2.2.1) (Coll.mk (t8 p).2.2.2.1 (t8 p).2.2.2.2.1 (t8 p).2.2.2.2.2.1 (t8 p).2.2.2.2.2.2.1 (t8 p).2.2.2.2.2.2.2.1 (t8 (t8 p)).1) (Coll.mk (t8 (t8 p)).2.1 (t8 (t8 p)).2.2.1 (t8 (t8 p)).2.2.2.1 (t8 (t8 p)).2.2.2.2.1 (t8 (t8 p)).2.2.2.2.2.1 (t8 (t8 p)).2.2.2.2.2.2.1)) (t8 (t8 p)).2.2.2.2.2.2.2.1 (A6Device.mk (Device.mk (t8 (t8 p.1)).2.2.2.2.2.2.2.1 (t8 (t8 (t8 p.1))).1 (Reply.mk (t8 (t8 (t8 p.1))).2.1 (t8 (t8 (t8 p.1))).2.2.1 (Lease.mk (t8 (t8 (t8 p.1))).2.2.2.1 (t8 (t8 (t8 p.1))).2.2.2.2.1 (t8 (t8 (t8 p.1))).2.2.2.2.2.1 (t8 (t8 (t8 p.1))).2.2.2.2.2.2.1 (t8 (t8 (t8 p))).1 (t8 (t8 (t8 p))).2.1 (t8 (t8 (t8 p))).2.2.1))) (Device.mk (t32 p.1).2.2.1 (t32 p.1).2.2.2.1 (Reply.mk (t32 p.1).2.2.2.2.1 (t32 p.1).2.2.2.2.2.1 (Lease.mk (t32 p.1).2.2.2.2.2.2.1 (t32 p.1).2.2.2.2.2.2.2.1 (t8 (t32 p.1)).1 (t8 (t32 p.1)).2.1 (t8 (t8 (t8 p))).2.2.2.1 (t8 (t8 (t8 p))).2.2.2.2.1 (t8 (t8 (t8 p))).2.2.2.2.2.1))) (Device.mk (t8 (t32 p.1)).2.2.2.2.2.1 (t8 (t32 p.1)).2.2.2.2.2.2.1 (Reply.mk (t8 (t32 p.1)).2.2.2.2.2.2.2.1 (t8 (t8 (t32 p.1))).1 (Lease.mk (t8 (t8 (t32 p.1))).2.1 (t8 (t8 (t32 p.1))).2.2.1 (t8 (t8 (t32 p.1))).2.2.2.1 (t8 (t8 (t32 p.1))).2.2.2.2.1 (t8 (t8 (t8 p))).2.2.2.2.2.2.1 (t8 (t8 (t8 p))).2.2.2.2.2.2.2.1 (t32 p).1))) (Device.mk (t8 (t8 (t8 (t32 p.1)))).1 (t8 (t8 (t8 (t32 p.1)))).2.1 (Reply.mk (t8 (t8 (t8 (t32 p.1)))).2.2.1 (t8 (t8 (t8 (t32 p.1)))).2.2.2.1 (Lease.mk (t8 (t8 (t8 (t32 p.1)))).2.2.2.2.1 (t8 (t8 (t8 (t32 p.1)))).2.2.2.2.2.1 (t8 (t8 (t8 (t32 p.1)))).2.2.2.2.2.2.1 (t8 (t8 (t8 (t32 p.1)))).2.2.2.2.2.2.2.1 (t32 p).2.1 (t32 p).2.2.1 (t32 p).2.2.2.1))) (Device.mk (t32 (t32 p.1)).2.2.2.1 (t32 (t32 p.1)).2.2.2.2.1 (Reply.mk (t32 (t32 p.1)).2.2.2.2.2.1 (t32 (t32 p.1)).2.2.2.2.2.2.1 (Lease.mk (t32 (t32 p.1)).2.2.2.2.2.2.2.1 (t8 (t32 (t32 p.1))).1 (t8 (t32 (t32 p.1))).2.1 (t8 (t32 (t32 p.1))).2.2.1 (t32 p).2.2.2.2.1 (t32 p).2.2.2.2.2.1 (t32 p).2.2.2.2.2.2.1))) (Device.mk (t8 (t32 (t32 p.1))).2.2.2.2.2.2.1 (t8 (t32 (t32 p.1))).2.2.2.2.2.2.2.1 (Reply.mk (t8 (t8 (t32 (t32 p.1)))).1 (t8 (t8 (t32 (t32 p.1)))).2.1 (Lease.mk (t8 (t8 (t32 (t32 p.1)))).2.2.1 (t8 (t8 (t32 (t32 p.1)))).2.2.2.1 (t8 (t8 (t32 (t32 p.1)))).2.2.2.2.1 (t8 (t8 (t32 (t32 p.1)))).2.2.2.2.2.1 (t32 p).2.2.2.2.2.2.2.1 (t8 (t32 p)).1 (t8 (t32 p)).2.1)))) (t8 (t32 p)).2.2.1 (t8 (t8 (t8 (t32 (t32 p.1))))).2.2.1) (Cmd.mk (t8 (t8 (t8 (t32 (t32 p.1))))).2.2.2.1 (t8 (t8 (t8 (t32 (t32 p.1))))).2.2.2.2.1 (t8 (t8 (t8 (t32 (t32 p.1))))).2.2.2.2.2.1 (t8 (t8 (t8 (t32 (t32 p.1))))).2.2.2.2.2.2.1 (t8 (t8 (t8 (t32 (t32 p.1))))).2.2.2.2.2.2.2.1 (t32 (t32 (t32 p.1))).1 (t32 (t32 (t32 p.1))).2.1))) (fun (x:Clerk)=>(((),((),((),((),((),((),((),((),((),((),((),((),((),((),((),((),((),((),((),((),((),((),((),(x.d.dev.a0.epoch,(x.d.dev.a0.req,(x.d.dev.a0.reply.err,(x.d.dev.a0.reply.n,(x.d.dev.a0.reply.lease.device,(x.d.dev.a0.reply.lease.epoch,(x.d.dev.a0.reply.lease.until_,(x.d.dev.a0.reply.lease.last,((),((),((),(x.d.dev.a1.epoch,(x.d.dev.a1.req,(x.d.dev.a1.reply.err,(x.d.dev.a1.reply.n,(x.d.dev.a1.reply.lease.device,(x.d.dev.a1.reply.lease.epoch,(x.d.dev.a1.reply.lease.until_,(x.d.dev.a1.reply.lease.last,((),((),((),(x.d.dev.a2.epoch,(x.d.dev.a2.req,(x.d.dev.a2.reply.err,(x.d.dev.a2.reply.n,(x.d.dev.a2.reply.lease.device,(x.d.dev.a2.reply.lease.epoch,(x.d.dev.a2.reply.lease.until_,(x.d.dev.a2.reply.lease.last,((),((),((),(x.d.dev.a3.epoch,(x.d.dev.a3.req,(x.d.dev.a3.reply.err,(x.d.dev.a3.reply.n,(x.d.dev.a3.reply.lease.device,(x.d.dev.a3.reply.lease.epoch,(x.d.dev.a3.reply.lease.until_,(x.d.dev.a3.reply.lease.last,((),((),((),(x.d.dev.a4.epoch,(x.d.dev.a4.req,(x.d.dev.a4.reply.err,(x.d.dev.a4.reply.n,(x.d.dev.a4.reply.lease.device,(x.d.dev.a4.reply.lease.epoch,(x.d.dev.a4.reply.lease.until_,(x.d.dev.a4.reply.lease.last,((),((),((),(x.d.dev.a5.epoch,(x.d.dev.a5.req,(x.d.dev.a5.reply.err,(x.d.dev.a5.reply.n,(x.d.dev.a5.reply.lease.device,(x.d.dev.a5.reply.lease.epoch,(x.d.dev.a5.reply.lease.until_,(x.d.dev.a5.reply.lease.last,((),((),((),((),(x.d.now,(x.c.kind,(x.c.device,(x.c.epoch,(x.c.req,(x.c.n,(x.c.wants,(x.c.ops,())))))))))))))))))))))))))))))))))))))))))))))))))))))))))))))))))))))))))))))))))))))))))))))))))),(x.d.book.counters,(x.d.book.free,(x.d.book.leases,(x.d.book.bound,(x.d.colls.a0.v,(x.d.colls.a0.regs,(x.d.colls.a0.elems,(x.d.colls.a0.gone,(x.d.colls.a0.sums,(x.d.colls.a0.binds,(x.d.colls.a1.v,(x.d.colls.a1.regs,(x.d.colls.a1.elems,(x.d.colls.a1.gone,(x.d.colls.a1.sums,(x.d.colls.a1.binds,(x.d.colls.a2.v,(x.d.colls.a2.regs,(x.d.colls.a2.elems,(x.d.colls.a2.gone,(x.d.colls.a2.sums,(x.d.colls.a2.binds,(x.d.log,(x.d.dev.a0.reply.lease.slices,(x.d.dev.a0.reply.lease.ids,(x.d.dev.a0.reply.lease.used,(x.d.dev.a1.reply.lease.slices,(x.d.dev.a1.reply.lease.ids,(x.d.dev.a1.reply.lease.used,(x.d.dev.a2.reply.lease.slices,(x.d.dev.a2.reply.lease.ids,(x.d.dev.a2.reply.lease.used,(x.d.dev.a3.reply.lease.slices,(x.d.dev.a3.reply.lease.ids,(x.d.dev.a3.reply.lease.used,(x.d.dev.a4.reply.lease.slices,(x.d.dev.a4.reply.lease.ids,(x.d.dev.a4.reply.lease.used,(x.d.dev.a5.reply.lease.slices,(x.d.dev.a5.reply.lease.ids,(x.d.dev.a5.reply.lease.used,(x.d.lost,())))))))))))))))))))))))))))))))))))))))))))) (fun _=>rfl)
def ch_clerkRegister:kT (Clerk):=kO (kS 43 (kC (kP 0 0) kN) hc0_Clerk) (fun p=>p.2) (fun (x:Clerk)=>(((),()),x)) (fun _=>rfl)
def cc_Reply:Cod (List (C TL)) Reply:=kO (kC kJ (kC kJ (kC kJ (kC kJ (kC kJ (kC kJ (kC (kG j_lSlice) (kC (kG j_lRange) (kC (kG j_lInt) kN))))))))) (fun p=>(Reply.mk p.1 p.2.1 (Lease.mk p.2.2.1 p.2.2.2.1 p.2.2.2.2.1 p.2.2.2.2.2.1 p.2.2.2.2.2.2.1 p.2.2.2.2.2.2.2.1 (t8 p).1))) (fun (x:Reply)=>(x.err,(x.n,(x.lease.device,(x.lease.epoch,(x.lease.until_,(x.lease.last,(x.lease.slices,(x.lease.ids,(x.lease.used,())))))))))) (fun _=>rfl)
def co_clerkRegister:kT (Reply×Clerk):=kO (kS 86 (kC (Cod.xs (Cod.sa cc_Reply)) kN) hc0_Clerk) (fun p=>(p.1.1,p.2)) (fun (x:Reply×Clerk)=>((x.1,()),x.2)) (fun _=>rfl)
def un_clerkRegister (p:Clerk):Option (Reply×Clerk):=clerkRegister p
def sf_clerkRegister:SFn TL:=SFn.one ch_clerkRegister.dec un_clerkRegister .normal co_clerkRegister.enc
def cs_clerkRegister:cL:=[(129,df_clerkLost),(39,df_desk_fail)]
def env_clerkRegister:Env:=envOf tab sl sh [(84,fd84),(128,fd128)] [(129,(.rd 89 66)),(39,.keep)]
theorem env_clerkRegister_ok:EnvOK PR (mkD cs_clerkRegister sZ) env_clerkRegister:=envOK_of base (aC (st84.okl rfl aN) (aC (st128.okl rfl aN) aN)) (aC (oD ok_clerkLost rfl) (aC (oD ok_desk_fail rfl) aN))
theorem run_clerkRegister (x:Clerk):Out.run (mkO cs_clerkRegister sZ) (evSum env_clerkRegister 12 20 84 (ch_clerkRegister.enc x)) (back1 co_clerkRegister)=un_clerkRegister x:=by kernel_rfl
theorem ok_clerkRegister:SOK PR 84 sf_clerkRegister:=sum_one env_clerkRegister_ok (loops:=12) (n:=20) st84.enters ch_clerkRegister co_clerkRegister un_clerkRegister run_clerkRegister
def ledger_within (i1:Int)(i2:Int)(i3:Int):Option Bool :=
 some (cond (decide (i1≥i2)) (decide (i1≤i3)) false)
def un_ledger_within (p:Int×Int×Int):Option Bool:=ledger_within p.1 p.2.1 p.2.2
def df_ledger_within:DFn TL:=DFn.of (DA.cons dI (DA.cons dI (DA.one dI))) un_ledger_within (DA.one dB)
theorem run_ledger_within:DRun [] [] (envOf tab sl sh [(122,fd122)] []) 122 (DA.cons dI (DA.cons dI (DA.one dI))) un_ledger_within (DA.one dB):=fun _=>by kernel_rfl
theorem ok_ledger_within:DOK PR 122 .pure df_ledger_within:=dok run_ledger_within (envOK_of base (aC (st122.okl rfl aN) aN) aN) (.inr rfl) st122.enters
def ledgerLease (lx1:Lease):Option Lease :=
 cond (fits lx1.slices.length)
 (cond (fits lx1.ids.length)
 (cond (fits lx1.used.length)
 (some lx1)
 none)
 none)
 none
def un_ledgerLease (p:Lease):Option Lease:=ledgerLease p
def sf_ledgerLease:SFn TL:=SFn.one ch_deskLease.dec un_ledgerLease .normal co_deskLease.enc
def env_ledgerLease:Env:=envOf tab sl sh [(151,fd151)] [(91,(.cln 133)),(92,(.cln 153)),(93,(.cln 3))]
theorem env_ledgerLease_ok:EnvOK PR (mkD cZ sZ) env_ledgerLease:=envOK_of base (aC (st151.okl rfl aN) aN) (aC (okCln okI_91) (aC (okCln okI_92) (aC (okCln okI_93) aN)))
theorem run_ledgerLease (x:Lease):Out.run (mkO cZ sZ) (evSum env_ledgerLease 12 20 151 (ch_deskLease.enc x)) (back1 co_deskLease)=un_ledgerLease x:=by kernel_rfl
theorem ok_ledgerLease:SOK PR 151 sf_ledgerLease:=sum_one env_ledgerLease_ok (loops:=12) (n:=20) st151.enters ch_deskLease co_deskLease un_ledgerLease run_ledgerLease
def step_L124_3 (i1:Int)(i2:Int)(bx1:Book)(bx2:Book):Option ((Int×Int×Book×Book)⊕(Book×Book)) :=
 cond (decide (i2 < i1))
 (cond (decide (0≤i2))
 (cond (decide (i2 < (bx1.leases.length:Int)))
 (ob (bx1.leases[i2.toNat]?) fun e0 =>
 ob (ledgerLease e0) fun y1 =>
 cond (decide (0≤i2))
 (cond (decide (i2 < (bx1.leases.length:Int)))
 (ob (bx1.leases[i2.toNat]?) fun _ =>
 some (.inl (i1,(w64 (i2+1)),(Book.mk bx1.counters bx1.free (bx1.leases.set i2.toNat y1) bx1.bound),bx2)))
 none)
 none)
 none)
 none)
 (some (.inr (bx1,bx2)))
def stp_L124_3 (p:Int×Int×Book×Book):Option ((Int×Int×Book×Book)⊕(Book×Book)):=step_L124_3 p.1 p.2.1 p.2.2.1 p.2.2.2
def L124_3 (i1:Int)(i2:Int)(bx1:Book)(bx2:Book):Option (Book×Book):=iterO stp_L124_3 ((i1 - i2).toNat+2) (i1,i2,bx1,bx2)
def sl_L124_3:SFn TL:=SFn.one ch_L77_3.dec (fun p=>L124_3 p.1 p.2.1 p.2.2.1 p.2.2.2) (.exit 0) co0_L77_3.enc
def ss_lL124_3:sL:=[(151,sf_ledgerLease)]
def v_L124_3:Env:=envOf tab sl sh [] [(151,.sum)]
theorem v_L124_3_ok:EnvOK PR (mkD cZ ss_lL124_3) v_L124_3:=envOK_of base aN (aC (okS rfl ok_ledgerLease) aN)
theorem run_L124_3 (x:Int×Int×Book×Book):Out.run (mkO cZ ss_lL124_3) (evRound v_L124_3 12 20 fd124.an q_L124_3 (loopIn (loopsOf fd124.body) 3) (ch_L77_3.enc x)) (back ch_L77_3 co0_L77_3 fun e=>exE e (.exit 0))=stp_L124_3 x:=by kernel_rfl
theorem ok_L124_3:LoopOK PR (oneS sl_L124_3) nt124 q_L124_3 (loopIn (loopsOf fd124.body) 3) :=
  loop_one v_L124_3_ok (loops:=12) (k:=20) (an:=fd124.an) (by kernel_rfl) (FnSt.subl rfl st124.keys (aC (.inl (by kernel_rfl)) aN)) ch_L77_3 co0_L77_3 (.exit 0) rfl stp_L124_3 _ run_L124_3 (fun x y h=>⟨_,h⟩) (fun _=>below_iff.1 rfl)
def ledgerOwn (bx1:Book):Option Book :=
 cond (fits bx1.counters.length)
 (cond (fits bx1.free.length)
 (cond (fits bx1.leases.length)
 (cond (fits bx1.bound.length)
 (ob (L124_3 (bx1.leases.length:Int) 0 bx1 (Book.mk [] [] [] [])) fun y0 =>
 some y0.1)
 none)
 none)
 none)
 none
def un_ledgerOwn (p:Book):Option Book:=ledgerOwn p
def sf_ledgerOwn:SFn TL:=SFn.one ch_deskBook.dec un_ledgerOwn .normal co_deskBook.enc
def ss_ledgerOwn:sL:=[(224003,sl_L124_3)]
def env_ledgerOwn:Env:=envOf tab sl sh [(124,fd124)] [(126,(.cln 65)),(92,(.cln 153)),(127,(.cln 43)),(93,(.cln 3))]
theorem env_ledgerOwn_ok:EnvOK PR (mkD cZ ss_ledgerOwn) env_ledgerOwn:=envOK_of base (aC (st124.okl rfl (aC (lC ok_L124_3 rfl) aN)) aN) (aC (okCln okI_126) (aC (okCln okI_92) (aC (okCln okI_127) (aC (okCln okI_93) aN))))
theorem run_ledgerOwn (x:Book):Out.run (mkO cZ ss_ledgerOwn) (evSum env_ledgerOwn 12 20 124 (ch_deskBook.enc x)) (back1 co_deskBook)=un_ledgerOwn x:=by kernel_rfl
theorem ok_ledgerOwn:SOK PR 124 sf_ledgerOwn:=sum_one env_ledgerOwn_ok (loops:=12) (n:=20) st124.enters ch_deskBook co_deskBook un_ledgerOwn run_ledgerOwn
abbrev tY3:=(List Counter)×Int×Int×Int×ByteArray
def step_L148_2 (l1:List Counter)(i1:Int)(i2:Int)(i3:Int)(s1:ByteArray):Option ((tY3)⊕(((Int×ByteArray)⊕(Int×ByteArray)))) :=
 cond (decide (i3 < i2))
 (cond (decide (0≤i3))
 (ob (l1[i3.toNat]?) fun e0 =>
 cond (sEq e0.key s1)
 (some (.inr (.inr (i3,s1))))
 (some (.inl (l1,i1,i2,(w64 (i3+1)),s1))))
 none)
 (some (.inr (.inl (i1,s1))))
def stp_L148_2 (p:tY3):Option ((tY3)⊕(((Int×ByteArray)⊕(Int×ByteArray)))):=step_L148_2 p.1 p.2.1 p.2.2.1 p.2.2.2.1 p.2.2.2.2
def L148_2 (l1:List Counter)(i1:Int)(i2:Int)(i3:Int)(s1:ByteArray):Option (((Int×ByteArray)⊕(Int×ByteArray))):=iterO stp_L148_2 ((i2 - i3).toNat+2) (l1,i1,i2,i3,s1)
def ch_L148_2:kT (tY3):=kO (kS 1 (kC (kF j_lCounter) (kC (Cod.xs (Cod.sc (Cod.clo 149 [] [(0,0)]))) (kC kI (kC kI (kC kI kN))))) (kC (Cod.var 0 9 (kC kE kN)) kN)) (fun p=>(p.1.1,p.1.2.2.1,p.1.2.2.2.1,p.1.2.2.2.2.1,p.2.1.1)) (fun (x:tY3)=>((x.1,((),(x.2.1,(x.2.2.1,(x.2.2.2.1,()))))),((x.2.2.2.2,()),()))) (fun _=>rfl)
def co0_L148_2:kT (Int×ByteArray):=kO (kS 2 (kC kI kN) (kC (Cod.var 0 9 (kC kE kN)) kN)) (fun p=>(p.1.1,p.2.1.1)) (fun (x:Int×ByteArray)=>((x.1,()),((x.2,()),()))) (fun _=>rfl)
def sl_L148_2:SFn TL:=SFn.two ch_L148_2.dec (fun p=>L148_2 p.1 p.2.1 p.2.2.1 p.2.2.2.1 p.2.2.2.2) (.exit 0) .ret co0_L148_2.enc co0_L148_2.enc
def v_L148_2:Env:=envOf tab sl sh [(149,fd149)] []
theorem v_L148_2_ok:EnvOK PR (mkD cZ sZ) v_L148_2:=envOK_of base (aC (st149.okl rfl aN) aN) aN
theorem run_L148_2 (x:tY3):Out.run (mkO cZ sZ) (evRound v_L148_2 12 20 fd148.an q_L148_2 (loopIn (loopsOf fd148.body) 2) (ch_L148_2.enc x)) (back2 ch_L148_2 co0_L148_2 co0_L148_2 (.exit 0) .ret)=stp_L148_2 x:=by kernel_rfl
theorem ok_L148_2:LoopOK PR (oneS sl_L148_2) nt148 q_L148_2 (loopIn (loopsOf fd148.body) 2) :=
  loop_two v_L148_2_ok (loops:=12) (k:=20) (an:=fd148.an) (by kernel_rfl) (FnSt.subl rfl st148.keys (aC (.inl (by kernel_rfl)) aN)) ch_L148_2 co0_L148_2 co0_L148_2 (.exit 0) .ret rfl rfl stp_L148_2 _ run_L148_2 (fun x y h=>⟨_,h⟩) (fun _=>below_iff.1 rfl)
def ledger_counter (bx1:Book)(s1:ByteArray):Option Int :=
 ob (L148_2 bx1.counters 0 (bx1.counters.length:Int) 0 s1) fun y0 =>
 two y0 (fun _ =>
 some (-1)) (fun b2 =>
 some b2.1)
def un_ledger_counter (p:Book×ByteArray):Option Int:=ledger_counter p.1 p.2
def df_ledger_counter:DFn TL:=DFn.of (DA.cons (DT.agg dc_Book) (DA.one (DT.one DI.str))) un_ledger_counter (DA.one dI)
theorem run_ledger_counter:DRun [] [(248002,sl_L148_2)] (envOf tab sl sh [(121,fd121),(148,fd148)] []) 121 (DA.cons (DT.agg dc_Book) (DA.one (DT.one DI.str))) un_ledger_counter (DA.one dI):=fun _=>by kernel_rfl
theorem ok_ledger_counter:DOK PR 121 .pure df_ledger_counter:=dok run_ledger_counter (envOK_of base (aC (st121.okl rfl aN) (aC (st148.okl rfl (aC (lC ok_L148_2 rfl) aN)) aN)) aN) (.inr rfl) st121.enters
abbrev tY4:=Int×(List Range)×Int×Int
def step_L205_3 (i1:Int)(l1:List Range)(i2:Int)(i3:Int):Option ((tY4)⊕(Int)) :=
 cond (decide (i3 < i2))
 (cond (decide (0≤i3))
 (ob (l1[i3.toNat]?) fun e0 =>
 some (.inl ((w64 (i1+(w64 (e0.to_ - e0.from_)))),l1,i2,(w64 (i3+1)))))
 none)
 (some (.inr i1))
def stp_L205_3 (p:tY4):Option ((tY4)⊕(Int)):=step_L205_3 p.1 p.2.1 p.2.2.1 p.2.2.2
def L205_3 (i1:Int)(l1:List Range)(i2:Int)(i3:Int):Option Int:=iterO stp_L205_3 ((i2 - i3).toNat+2) (i1,l1,i2,i3)
def ch_L205_3:kT (tY4):=kO (kS 0 (kC kI (kC (kF j_lRange) (kC kI (kC kI kN)))) kN) (fun ((z0,z1,z2,z3,_),_)=>(z0,z1,z2,z3)) (fun (x:tY4)=>((x.1,(x.2.1,(x.2.2.1,(x.2.2.2,())))),())) (fun _=>rfl)
def co0_L205_3:kT (Int):=kO (kS 0 (kC kI kN) kN) (fun p=>p.1.1) (fun (x:Int)=>((x,()),())) (fun _=>rfl)
def sl_L205_3:SFn TL:=SFn.one ch_L205_3.dec (fun p=>L205_3 p.1 p.2.1 p.2.2.1 p.2.2.2) (.exit 0) co0_L205_3.enc
def v_L205_3:Env:=envOf tab sl sh [] []
theorem v_L205_3_ok:EnvOK PR (mkD cZ sZ) v_L205_3:=envOK_of base aN aN
theorem run_L205_3 (x:tY4):Out.run (mkO cZ sZ) (evRound v_L205_3 12 20 fd205.an q_L205_3 (loopIn (loopsOf fd205.body) 3) (ch_L205_3.enc x)) (back ch_L205_3 co0_L205_3 fun e=>exE e (.exit 0))=stp_L205_3 x:=by kernel_rfl
theorem ok_L205_3:LoopOK PR (oneS sl_L205_3) nt205 q_L205_3 (loopIn (loopsOf fd205.body) 3) :=
  loop_one v_L205_3_ok (loops:=12) (k:=20) (an:=fd205.an) (by kernel_rfl) (FnSt.subl rfl st205.keys (aC (.inl (by kernel_rfl)) aN)) ch_L205_3 co0_L205_3 (.exit 0) rfl stp_L205_3 _ run_L205_3 (fun x y h=>⟨_,h⟩) (fun _=>below_iff.1 rfl)
def rangesLen (l1:List Range):Option Int :=
 ob (L205_3 0 l1 (l1.length:Int) 0) fun y0 =>
 some y0
def un_rangesLen (p:(List Range)):Option Int:=rangesLen p
def df_rangesLen:DFn TL:=DFn.of (DA.one (DT.one di_lRange)) un_rangesLen (DA.one dI)
theorem run_rangesLen:DRun [] [(305003,sl_L205_3)] (envOf tab sl sh [(205,fd205)] []) 205 (DA.one (DT.one di_lRange)) un_rangesLen (DA.one dI):=fun _=>by kernel_rfl
theorem ok_rangesLen:DOK PR 205 .pure df_rangesLen:=dok run_rangesLen (envOK_of base (aC (st205.okl rfl (aC (lC ok_L205_3 rfl) aN)) aN) aN) (.inr rfl) st205.enters
def rangesOwn (l1:List Range):Option ((List Range)) :=
 cond (decide (0≤(l1.length:Int)))
 (cond (fits (((l1.length:Int)).toNat))
 (some ((l1.take (Nat.min l1.length ((List.replicate (((l1.length:Int)).toNat) (Range.mk 0 0)).length)))++(((List.replicate (((l1.length:Int)).toNat) (Range.mk 0 0)).take ((List.replicate (((l1.length:Int)).toNat) (Range.mk 0 0)).length)).drop (Nat.min l1.length ((List.replicate (((l1.length:Int)).toNat) (Range.mk 0 0)).length)))))
 none)
 none
def ch_rangesOwn:kT ((List Range)):=kO (kS 0 (kC (kF j_lRange) kN) kN) (fun p=>p.1.1) (fun (x:(List Range))=>((x,()),())) (fun _=>rfl)
def co_rangesOwn:kT ((List Range)):=kO (kS 1 (kC (Cod.xs (Cod.sc (kA 0))) kN) (kC (kR 0 153 j_lRange) kN)) (fun p=>p.2.1) (fun (x:(List Range))=>(((),()),(x,()))) (fun _=>rfl)
def un_rangesOwn (p:(List Range)):Option ((List Range)):=rangesOwn p
def sf_rangesOwn:SFn TL:=SFn.one ch_rangesOwn.dec un_rangesOwn .normal co_rangesOwn.enc
def env_rangesOwn:Env:=envOf tab sl sh [(150,fd150)] []
theorem env_rangesOwn_ok:EnvOK PR (mkD cZ sZ) env_rangesOwn:=envOK_of base (aC (st150.okl rfl aN) aN) aN
theorem run_rangesOwn (x:(List Range)):Out.run (mkO cZ sZ) (evSum env_rangesOwn 12 20 150 (ch_rangesOwn.enc x)) (back1 co_rangesOwn)=un_rangesOwn x:=by kernel_rfl
theorem ok_rangesOwn:SOK PR 150 sf_rangesOwn:=sum_one env_rangesOwn_ok (loops:=12) (n:=20) st150.enters ch_rangesOwn co_rangesOwn un_rangesOwn run_rangesOwn
abbrev tY5:=Int×(List Range)×(List Range)×(List Range)×Int×Int
def step_L179_6 (i1:Int)(l1:List Range)(l2:List Range)(l3:List Range)(i2:Int)(i3:Int):Option ((tY5)⊕((List Range)×(List Range))) :=
 cond (decide (i3 < i2))
 (cond (decide (0≤i3))
 (ob (l3[i3.toNat]?) fun e0 =>
 cond (decide ((min2 i1 (w64 (e0.to_ - e0.from_))) > 0))
 (cond (fits ((l1++[(Range.mk e0.from_ (w64 (e0.from_+(min2 i1 (w64 (e0.to_ - e0.from_))))))]).length))
 (cond (decide ((w64 (e0.from_+(min2 i1 (w64 (e0.to_ - e0.from_))))) < e0.to_))
 (cond (fits ((l2++[(Range.mk (w64 (e0.from_+(min2 i1 (w64 (e0.to_ - e0.from_))))) e0.to_)]).length))
 (some (.inl ((w64 (i1 - (min2 i1 (w64 (e0.to_ - e0.from_))))),(l1++[(Range.mk e0.from_ (w64 (e0.from_+(min2 i1 (w64 (e0.to_ - e0.from_))))))]),(l2++[(Range.mk (w64 (e0.from_+(min2 i1 (w64 (e0.to_ - e0.from_))))) e0.to_)]),l3,i2,(w64 (i3+1)))))
 none)
 (some (.inl ((w64 (i1 - (min2 i1 (w64 (e0.to_ - e0.from_))))),(l1++[(Range.mk e0.from_ (w64 (e0.from_+(min2 i1 (w64 (e0.to_ - e0.from_))))))]),l2,l3,i2,(w64 (i3+1))))))
 none)
 (cond (decide ((w64 (e0.from_+(min2 i1 (w64 (e0.to_ - e0.from_))))) < e0.to_))
 (cond (fits ((l2++[(Range.mk (w64 (e0.from_+(min2 i1 (w64 (e0.to_ - e0.from_))))) e0.to_)]).length))
 (some (.inl ((w64 (i1 - (min2 i1 (w64 (e0.to_ - e0.from_))))),l1,(l2++[(Range.mk (w64 (e0.from_+(min2 i1 (w64 (e0.to_ - e0.from_))))) e0.to_)]),l3,i2,(w64 (i3+1)))))
 none)
 (some (.inl ((w64 (i1 - (min2 i1 (w64 (e0.to_ - e0.from_))))),l1,l2,l3,i2,(w64 (i3+1)))))))
 none)
 (some (.inr (l1,l2)))
def stp_L179_6 (p:tY5):Option ((tY5)⊕((List Range)×(List Range))):=step_L179_6 p.1 p.2.1 p.2.2.1 p.2.2.2.1 p.2.2.2.2.1 p.2.2.2.2.2
def L179_6 (i1:Int)(l1:List Range)(l2:List Range)(l3:List Range)(i2:Int)(i3:Int):Option ((List Range)×(List Range)):=iterO stp_L179_6 ((i2 - i3).toNat+2) (i1,l1,l2,l3,i2,i3)
def ch_L179_6:kT (tY5):=kO (kS 2 (kC kI (kC (Cod.xs (Cod.sc (kA 0))) (kC (Cod.xs (Cod.sc (kA 1))) (kC (kF j_lRange) (kC kI (kC kI kN)))))) (kC (kR 0 153 j_lRange) (kC (kR 1 153 j_lRange) kN))) (fun ((z0,_,_,z1,z2,z3,_),z4,z5,_)=>(z0,z4,z5,z1,z2,z3)) (fun (x:tY5)=>((x.1,((),((),(x.2.2.2.1,(x.2.2.2.2.1,(x.2.2.2.2.2,())))))),(x.2.1,(x.2.2.1,())))) (fun _=>rfl)
def co0_L179_6:kT ((List Range)×(List Range)):=kO (kS 4 (kC (Cod.xs (Cod.sc (kA 2))) (kC (Cod.xs (Cod.sc (kA 3))) kN)) (kC (kR 2 153 j_lRange) (kC (kR 3 153 j_lRange) kN))) (fun p=>(p.2.1,p.2.2.1)) (fun (x:(List Range)×(List Range))=>(((),((),())),(x.1,(x.2,())))) (fun _=>rfl)
def sl_L179_6:SFn TL:=SFn.one ch_L179_6.dec (fun p=>L179_6 p.1 p.2.1 p.2.2.1 p.2.2.2.1 p.2.2.2.2.1 p.2.2.2.2.2) (.exit 1) co0_L179_6.enc
def v_L179_6:Env:=envOf tab sl sh [] []
theorem v_L179_6_ok:EnvOK PR (mkD cZ sZ) v_L179_6:=envOK_of base aN aN
theorem run_L179_6 (x:tY5):Out.run (mkO cZ sZ) (evRound v_L179_6 12 20 fd179.an q_L179_6 (loopIn (loopsOf fd179.body) 6) (ch_L179_6.enc x)) (back ch_L179_6 co0_L179_6 fun e=>exE e (.exit 1))=stp_L179_6 x:=by kernel_rfl
theorem ok_L179_6:LoopOK PR (oneS sl_L179_6) nt179 q_L179_6 (loopIn (loopsOf fd179.body) 6) :=
  loop_one v_L179_6_ok (loops:=12) (k:=20) (an:=fd179.an) (by kernel_rfl) (FnSt.subl rfl st179.keys (aC (.inl (by kernel_rfl)) aN)) ch_L179_6 co0_L179_6 (.exit 1) rfl stp_L179_6 _ run_L179_6 (fun x y h=>⟨_,h⟩) (fun _=>below_iff.1 rfl)
def rangesTake (l1:List Range)(i1:Int):Option ((List Range)×(List Range)×Int) :=
 cond (decide (i1 < 0))
 (some ([],[],1))
 (ob (rangesLen l1) fun r0 =>
 cond (decide (i1 > r0))
 (some ([],[],14))
 (ob (L179_6 i1 [] [] l1 (l1.length:Int) 0) fun y1 =>
 ob (rangesOwn y1.1) fun y2 =>
 ob (rangesOwn y1.2) fun y3 =>
 some (y2,y3,0)))
def un_rangesTake (p:(List Range)×Int):Option ((List Range)×(List Range)×Int):=rangesTake p.1 p.2
def df_rangesTake:DFn TL:=DFn.of (DA.cons (DT.one di_lRange) (DA.one dI)) un_rangesTake (DA.cons (DT.one di_lRange) (DA.cons (DT.one di_lRange) (DA.one dI)))
theorem run_rangesTake:DRun [(205,df_rangesLen)] [(150,sf_rangesOwn),(279006,sl_L179_6)] (envOf tab sl sh [(179,fd179)] [(205,.pure),(150,.sum)]) 179 (DA.cons (DT.one di_lRange) (DA.one dI)) un_rangesTake (DA.cons (DT.one di_lRange) (DA.cons (DT.one di_lRange) (DA.one dI))):=fun _=>by kernel_rfl
theorem ok_rangesTake:DOK PR 179 .keep df_rangesTake:=dok run_rangesTake (envOK_of base (aC (st179.okl rfl (aC (lC ok_L179_6 rfl) aN)) aN) (aC (oD ok_rangesLen rfl) (aC (okS rfl ok_rangesOwn) aN))) (.inl rfl) st179.enters
abbrev tY6:=(List Range)×(List Range)×Int×Range
def step_L123_5 (l1:List Range)(l2:List Range)(i1:Int)(rx1:Range):Option ((tY6)⊕(tY6)) :=
 cond (decide (i1 < (l1.length:Int)))
 (cond (decide (0≤i1))
 (ob (l1[i1.toNat]?) fun e0 =>
 cond (decide (e0.to_ < rx1.from_))
 (cond (decide (0≤i1))
 (ob (l1[i1.toNat]?) fun e1 =>
 cond (fits ((l2++[e1]).length))
 (some (.inl (l1,(l2++[e1]),(w64 (i1+1)),rx1)))
 none)
 none)
 (some (.inr (l1,l2,i1,rx1))))
 none)
 (some (.inr (l1,l2,i1,rx1)))
def stp_L123_5 (p:tY6):Option ((tY6)⊕(tY6)):=step_L123_5 p.1 p.2.1 p.2.2.1 p.2.2.2
def L123_5 (l1:List Range)(l2:List Range)(i1:Int)(rx1:Range):Option tY6:=iterO stp_L123_5 (((l1.length:Int) - i1).toNat+2) (l1,l2,i1,rx1)
def ch_L123_5:kT (tY6):=kO (kS 2 (kC (kF j_lRange) (kC (kP 0 0) (kC (Cod.xs (Cod.sc (kA 1))) (kC kI kN)))) (kC (Cod.var 0 153 (kC kJ (kC kJ kN))) (kC (kR 1 153 j_lRange) kN))) (fun p=>(p.1.1,p.2.2.1,p.1.2.2.2.1,(Range.mk p.2.1.1 p.2.1.2.1))) (fun (x:tY6)=>((x.1,((),((),(x.2.2.1,())))),((x.2.2.2.from_,(x.2.2.2.to_,())),(x.2.1,())))) (fun _=>rfl)
def co0_L123_5:kT (tY6):=kO (kS 4 (kC (kF j_lRange) (kC (kP 0 0) (kC (Cod.xs (Cod.sc (kA 3))) (kC kI kN)))) (kC (Cod.var 0 153 (kC kJ (kC kJ kN))) (kC (kR 3 153 j_lRange) kN))) (fun p=>(p.1.1,p.2.2.1,p.1.2.2.2.1,(Range.mk p.2.1.1 p.2.1.2.1))) (fun (x:tY6)=>((x.1,((),((),(x.2.2.1,())))),((x.2.2.2.from_,(x.2.2.2.to_,())),(x.2.1,())))) (fun _=>rfl)
def sl_L123_5:SFn TL:=SFn.one ch_L123_5.dec (fun p=>L123_5 p.1 p.2.1 p.2.2.1 p.2.2.2) (.exit 0) co0_L123_5.enc
def v_L123_5:Env:=envOf tab sl sh [] []
theorem v_L123_5_ok:EnvOK PR (mkD cZ sZ) v_L123_5:=envOK_of base aN aN
theorem run_L123_5 (x:tY6):Out.run (mkO cZ sZ) (evRound v_L123_5 12 20 fd123.an q_L123_5 (loopIn (loopsOf fd123.body) 5) (ch_L123_5.enc x)) (back ch_L123_5 co0_L123_5 fun e=>exE e (.exit 0))=stp_L123_5 x:=by kernel_rfl
theorem ok_L123_5:LoopOK PR (oneS sl_L123_5) nt123 q_L123_5 (loopIn (loopsOf fd123.body) 5) :=
  loop_one v_L123_5_ok (loops:=12) (k:=20) (an:=fd123.an) (by kernel_rfl) (FnSt.subl rfl st123.keys (aC (.inl (by kernel_rfl)) (aC (.inl (by kernel_rfl)) aN))) ch_L123_5 co0_L123_5 (.exit 0) rfl stp_L123_5 _ run_L123_5 (fun x y h=>⟨_,h⟩) (fun _=>below_iff.1 rfl)
def step_L123_8 (l1:List Range)(l2:List Range)(i1:Int)(rx1:Range):Option ((tY6)⊕(tY6)) :=
 cond (decide (i1 < (l1.length:Int)))
 (cond (decide (0≤i1))
 (ob (l1[i1.toNat]?) fun e0 =>
 cond (decide (e0.from_≤rx1.to_))
 (cond (decide (0≤i1))
 (ob (l1[i1.toNat]?) fun e1 =>
 cond (decide (0≤i1))
 (ob (l1[i1.toNat]?) fun e2 =>
 some (.inl (l1,l2,(w64 (i1+1)),(Range.mk (min2 rx1.from_ e1.from_) (max2 rx1.to_ e2.to_)))))
 none)
 none)
 (some (.inr (l1,l2,i1,rx1))))
 none)
 (some (.inr (l1,l2,i1,rx1)))
def stp_L123_8 (p:tY6):Option ((tY6)⊕(tY6)):=step_L123_8 p.1 p.2.1 p.2.2.1 p.2.2.2
def L123_8 (l1:List Range)(l2:List Range)(i1:Int)(rx1:Range):Option tY6:=iterO stp_L123_8 (((l1.length:Int) - i1).toNat+2) (l1,l2,i1,rx1)
def co0_L123_8:kT (tY6):=kO (kS 4 (kC (kF j_lRange) (kC (kP 0 0) (kC (Cod.xs (Cod.sc (kA 1))) (kC kI kN)))) (kC (Cod.var 0 153 (kC kJ (kC kJ kN))) (kC (kR 1 153 j_lRange) kN))) (fun p=>(p.1.1,p.2.2.1,p.1.2.2.2.1,(Range.mk p.2.1.1 p.2.1.2.1))) (fun (x:tY6)=>((x.1,((),((),(x.2.2.1,())))),((x.2.2.2.from_,(x.2.2.2.to_,())),(x.2.1,())))) (fun _=>rfl)
def sl_L123_8:SFn TL:=SFn.one ch_L123_5.dec (fun p=>L123_8 p.1 p.2.1 p.2.2.1 p.2.2.2) (.exit 2) co0_L123_8.enc
def v_L123_8:Env:=envOf tab sl sh [] []
theorem v_L123_8_ok:EnvOK PR (mkD cZ sZ) v_L123_8:=envOK_of base aN aN
theorem run_L123_8 (x:tY6):Out.run (mkO cZ sZ) (evRound v_L123_8 12 20 fd123.an q_L123_8 (loopIn (loopsOf fd123.body) 8) (ch_L123_5.enc x)) (back ch_L123_5 co0_L123_8 fun e=>exE e (.exit 2))=stp_L123_8 x:=by kernel_rfl
theorem ok_L123_8:LoopOK PR (oneS sl_L123_8) nt123 q_L123_8 (loopIn (loopsOf fd123.body) 8) :=
  loop_one v_L123_8_ok (loops:=12) (k:=20) (an:=fd123.an) (by kernel_rfl) (FnSt.subl rfl st123.keys (aC (.inl (by kernel_rfl)) (aC (.inl (by kernel_rfl)) aN))) ch_L123_5 co0_L123_8 (.exit 2) rfl stp_L123_8 _ run_L123_8 (fun x y h=>⟨_,h⟩) (fun _=>below_iff.1 rfl)
def rangesAdd (l1:List Range)(rx1:Range):Option ((List Range)) :=
 cond (cond (decide (rx1.from_≥rx1.to_)) true (cond (decide (rx1.from_ < 0)) true (decide (rx1.to_ > 1073741824))))
 (ob (rangesOwn l1) fun y0 =>
 some y0)
 (ob (L123_5 l1 [] 0 rx1) fun y1 =>
 ob (L123_8 y1.1 y1.2.1 y1.2.2.1 y1.2.2.2) fun y2 =>
 cond (decide (0≤(y2.2.1.length:Int)))
 (cond (decide ((y2.2.1.length:Int)=(y2.2.1.length:Int)))
 (cond (decide ((y2.2.1.length:Int)≤(y2.2.1.length:Int)))
 (cond (fits (((y2.2.1.take (((y2.2.1.length:Int)).toNat))++[y2.2.2.2]).length))
 (cond (decide (0≤y2.2.2.1))
 (cond (decide (y2.2.2.1≤(y2.1.length:Int)))
 (cond (decide ((y2.1.length:Int)≤(y2.1.length:Int)))
 (cond (fits ((((y2.2.1.take (((y2.2.1.length:Int)).toNat))++[y2.2.2.2])++((y2.1.take (((y2.1.length:Int)).toNat)).drop y2.2.2.1.toNat)).length))
 (ob (rangesOwn (((y2.2.1.take (((y2.2.1.length:Int)).toNat))++[y2.2.2.2])++((y2.1.take (((y2.1.length:Int)).toNat)).drop y2.2.2.1.toNat))) fun y3 =>
 some y3)
 none)
 none)
 none)
 none)
 none)
 none)
 none)
 none)
def un_rangesAdd (p:(List Range)×Range):Option ((List Range)):=rangesAdd p.1 p.2
def df_rangesAdd:DFn TL:=DFn.of (DA.cons (DT.one di_lRange) (DA.one (DT.agg dc_Range))) un_rangesAdd (DA.one (DT.one di_lRange))
theorem run_rangesAdd:DRun [] [(150,sf_rangesOwn),(223005,sl_L123_5),(223008,sl_L123_8)] (envOf tab sl sh [(123,fd123)] [(150,.sum)]) 123 (DA.cons (DT.one di_lRange) (DA.one (DT.agg dc_Range))) un_rangesAdd (DA.one (DT.one di_lRange)):=fun _=>by kernel_rfl
theorem ok_rangesAdd:DOK PR 123 .keep df_rangesAdd:=dok run_rangesAdd (envOK_of base (aC (st123.okl rfl (aC (lC ok_L123_5 rfl) (aC (lC ok_L123_8 rfl) aN))) aN) (aC (okS rfl ok_rangesOwn) aN)) (.inl rfl) st123.enters
abbrev tY7:=Int×(List Range)×Int×Int×Book×Lease×Want
def step_L156_15 (i1:Int)(l1:List Range)(i2:Int)(i3:Int)(bx1:Book)(lx1:Lease)(w1:Want):Option ((tY7)⊕(Int×Book×Lease×Want)) :=
 cond (decide (i3 < i2))
 (cond (decide (0≤i3))
 (ob (l1[i3.toNat]?) fun e0 =>
 ob (rangesAdd lx1.ids e0) fun r1 =>
 some (.inl (i1,l1,i2,(w64 (i3+1)),bx1,(Lease.mk lx1.device lx1.epoch lx1.until_ lx1.last lx1.slices r1 lx1.used),w1)))
 none)
 (some (.inr (i1,bx1,lx1,w1)))
def stp_L156_15 (p:tY7):Option ((tY7)⊕(Int×Book×Lease×Want)):=step_L156_15 p.1 p.2.1 p.2.2.1 p.2.2.2.1 p.2.2.2.2.1 p.2.2.2.2.2.1 p.2.2.2.2.2.2
def L156_15 (i1:Int)(l1:List Range)(i2:Int)(i3:Int)(bx1:Book)(lx1:Lease)(w1:Want):Option (Int×Book×Lease×Want):=iterO stp_L156_15 ((i2 - i3).toNat+2) (i1,l1,i2,i3,bx1,lx1,w1)
def cc_Want:Cod (List (C TL)) Want:=kO (kC kE (kC kJ (kC kJ (kC kJ kN)))) (fun p=>(Want.mk p.1 p.2.1 p.2.2.1 p.2.2.2.1)) (fun (x:Want)=>(x.key,(x.up_,(x.down_,(x.ids,()))))) (fun _=>rfl)
def ch_L156_15:kT (tY7):=kO (kS 8 (kC (kP 0 0) (kC (kP 1 0) (kC (kP 2 0) (kC kI (kC (kF j_lRange) (kC kI (kC kI kN))))))) (kC (Cod.var 0 29 (kC (kA 3) (kC (kG j_lRange) (kC (kA 4) (kC (kA 5) kN))))) (kC (Cod.var 1 43 (kC kJ (kC kJ (kC kJ (kC kJ (kC (kA 6) (kC (kG j_lRange) (kC (kA 7) kN)))))))) (kC (Cod.var 2 105 cc_Want) (kC (kR 3 65 j_lCounter) (kC (kR 4 43 j_lLease) (kC (kR 5 3 j_lInt) (kC (kR 6 133 j_lSlice) (kC (kR 7 3 j_lInt) kN))))))))) (fun ((_,_,_,z0,z1,z2,z3,_),(_,z4,_),(z5,z6,z7,z8,_,z9,_),z10,z11,z12,z13,z14,z15,_)=>(z0,z1,z2,z3,(Book.mk z11 z4 z12 z13),(Lease.mk z5 z6 z7 z8 z14 z9 z15),z10)) (fun (x:tY7)=>(((),((),((),(x.1,(x.2.1,(x.2.2.1,(x.2.2.2.1,()))))))),(((),(x.2.2.2.2.1.free,((),((),())))),((x.2.2.2.2.2.1.device,(x.2.2.2.2.2.1.epoch,(x.2.2.2.2.2.1.until_,(x.2.2.2.2.2.1.last,((),(x.2.2.2.2.2.1.ids,((),()))))))),(x.2.2.2.2.2.2,(x.2.2.2.2.1.counters,(x.2.2.2.2.1.leases,(x.2.2.2.2.1.bound,(x.2.2.2.2.2.1.slices,(x.2.2.2.2.2.1.used,())))))))))) (fun _=>rfl)
def co0_L156_15:kT (Int×Book×Lease×Want):=kO (kS 16 (kC (kP 0 0) (kC (kP 1 0) (kC (kP 2 0) (kC kI kN)))) (kC (Cod.var 0 29 (kC (kA 3) (kC (kG j_lRange) (kC (kA 4) (kC (kA 5) kN))))) (kC (Cod.var 1 43 (kC kJ (kC kJ (kC kJ (kC kJ (kC (kA 6) (kC (kG j_lRange) (kC (kA 7) kN)))))))) (kC (Cod.var 2 105 cc_Want) (kC (kR 3 65 j_lCounter) (kC (kR 4 43 j_lLease) (kC (kR 5 3 j_lInt) (kC (kR 6 133 j_lSlice) (kC (kR 7 3 j_lInt) kN))))))))) (fun ((_,_,_,z0,_),(_,z1,_),(z2,z3,z4,z5,_,z6,_),z7,z8,z9,z10,z11,z12,_)=>(z0,(Book.mk z8 z1 z9 z10),(Lease.mk z2 z3 z4 z5 z11 z6 z12),z7)) (fun (x:Int×Book×Lease×Want)=>(((),((),((),(x.1,())))),(((),(x.2.1.free,((),((),())))),((x.2.2.1.device,(x.2.2.1.epoch,(x.2.2.1.until_,(x.2.2.1.last,((),(x.2.2.1.ids,((),()))))))),(x.2.2.2,(x.2.1.counters,(x.2.1.leases,(x.2.1.bound,(x.2.2.1.slices,(x.2.2.1.used,())))))))))) (fun _=>rfl)
def sl_L156_15:SFn TL:=SFn.one ch_L156_15.dec (fun p=>L156_15 p.1 p.2.1 p.2.2.1 p.2.2.2.1 p.2.2.2.2.1 p.2.2.2.2.2.1 p.2.2.2.2.2.2) (.exit 1) co0_L156_15.enc
def cs_lL156_15:cL:=[(123,df_rangesAdd)]
def v_L156_15:Env:=envOf tab sl sh [] [(123,.keep)]
theorem v_L156_15_ok:EnvOK PR (mkD cs_lL156_15 sZ) v_L156_15:=envOK_of base aN (aC (oD ok_rangesAdd rfl) aN)
theorem run_L156_15 (x:tY7):Out.run (mkO cs_lL156_15 sZ) (evRound v_L156_15 12 20 fd156.an q_L156_15 (loopIn (loopsOf fd156.body) 15) (ch_L156_15.enc x)) (back ch_L156_15 co0_L156_15 fun e=>exE e (.exit 1))=stp_L156_15 x:=by kernel_rfl
theorem ok_L156_15:LoopOK PR (oneS sl_L156_15) nt156 q_L156_15 (loopIn (loopsOf fd156.body) 15) :=
  loop_one v_L156_15_ok (loops:=12) (k:=20) (an:=fd156.an) (by kernel_rfl) (FnSt.subl rfl st156.keys (aC (.inl (by kernel_rfl)) aN)) ch_L156_15 co0_L156_15 (.exit 1) rfl stp_L156_15 _ run_L156_15 (fun x y h=>⟨_,h⟩) (fun _=>below_iff.1 rfl)
def ledgerWant (w1:Want)(bx1:Book)(lx1:Lease):Option (Int×Book×Lease) :=
 ob (ledger_counter bx1 w1.key) fun r0 =>
 ob (ledger_within w1.up_ 0 2199023255552) fun r1 =>
 cond (!r1)
 (some (1,bx1,lx1))
 (ob (ledger_within w1.down_ 0 2199023255552) fun r2 =>
 cond (!r2)
 (some (1,bx1,lx1))
 (ob (ledger_within w1.ids 0 50) fun r3 =>
 cond (!r3)
 (some (1,bx1,lx1))
 (cond (cond (decide (r0 < 0)) (!sEq w1.key s_empty) false)
 (some (2,bx1,lx1))
 (cond (cond (sEq w1.key s_empty) (decide ((w64 (w1.up_+w1.down_)) > 0)) false)
 (some (1,bx1,lx1))
 (cond (!sEq w1.key s_empty)
 (cond (decide (0≤r0))
 (cond (decide (r0 < (bx1.counters.length:Int)))
 (ob (bx1.counters[r0.toNat]?) fun e4 =>
 cond (decide (e4.up_ < w1.up_))
 (some (14,bx1,lx1))
 (cond (decide (0≤r0))
 (cond (decide (r0 < (bx1.counters.length:Int)))
 (ob (bx1.counters[r0.toNat]?) fun e5 =>
 cond (decide (e5.down_ < w1.down_))
 (some (14,bx1,lx1))
 (ob (rangesTake bx1.free w1.ids) fun r6 =>
 cond (r6.2.2 != 0)
 (some (r6.2.2,bx1,lx1))
 (ob (L156_15 r0 r6.1 (r6.1.length:Int) 0 (Book.mk bx1.counters r6.2.1 bx1.leases bx1.bound) lx1 w1) fun y7 =>
 cond (!sEq y7.2.2.2.key s_empty)
 (cond (decide (0≤y7.1))
 (cond (decide (y7.1 < (y7.2.1.counters.length:Int)))
 (ob (y7.2.1.counters[y7.1.toNat]?) fun e8 =>
 cond (decide (0≤y7.1))
 (cond (decide (y7.1 < (y7.2.1.counters.length:Int)))
 (ob (y7.2.1.counters[y7.1.toNat]?) fun e9 =>
 cond (decide (0≤y7.1))
 (cond (decide (y7.1 < ((y7.2.1.counters.set y7.1.toNat (Counter.mk e9.key e9.coll e9.lo e9.hi e9.start (w64 (e8.up_ - y7.2.2.2.up_)) e9.down_)).length:Int)))
 (ob ((y7.2.1.counters.set y7.1.toNat (Counter.mk e9.key e9.coll e9.lo e9.hi e9.start (w64 (e8.up_ - y7.2.2.2.up_)) e9.down_))[y7.1.toNat]?) fun e10 =>
 cond (decide (0≤y7.1))
 (cond (decide (y7.1 < ((y7.2.1.counters.set y7.1.toNat (Counter.mk e9.key e9.coll e9.lo e9.hi e9.start (w64 (e8.up_ - y7.2.2.2.up_)) e9.down_)).length:Int)))
 (ob ((y7.2.1.counters.set y7.1.toNat (Counter.mk e9.key e9.coll e9.lo e9.hi e9.start (w64 (e8.up_ - y7.2.2.2.up_)) e9.down_))[y7.1.toNat]?) fun e11 =>
 cond (fits ((y7.2.2.1.slices++[(Slice.mk y7.2.2.2.key y7.2.2.2.up_ y7.2.2.2.down_ 0 0)]).length))
 (some (0,(Book.mk ((y7.2.1.counters.set y7.1.toNat (Counter.mk e9.key e9.coll e9.lo e9.hi e9.start (w64 (e8.up_ - y7.2.2.2.up_)) e9.down_)).set y7.1.toNat (Counter.mk e11.key e11.coll e11.lo e11.hi e11.start e11.up_ (w64 (e10.down_ - y7.2.2.2.down_)))) y7.2.1.free y7.2.1.leases y7.2.1.bound),(Lease.mk y7.2.2.1.device y7.2.2.1.epoch y7.2.2.1.until_ y7.2.2.1.last (y7.2.2.1.slices++[(Slice.mk y7.2.2.2.key y7.2.2.2.up_ y7.2.2.2.down_ 0 0)]) y7.2.2.1.ids y7.2.2.1.used)))
 none)
 none)
 none)
 none)
 none)
 none)
 none)
 none)
 none)
 (some (0,y7.2.1,y7.2.2.1)))))
 none)
 none))
 none)
 none)
 (ob (rangesTake bx1.free w1.ids) fun r12 =>
 cond (r12.2.2 != 0)
 (some (r12.2.2,bx1,lx1))
 (ob (L156_15 r0 r12.1 (r12.1.length:Int) 0 (Book.mk bx1.counters r12.2.1 bx1.leases bx1.bound) lx1 w1) fun y13 =>
 cond (!sEq y13.2.2.2.key s_empty)
 (cond (decide (0≤y13.1))
 (cond (decide (y13.1 < (y13.2.1.counters.length:Int)))
 (ob (y13.2.1.counters[y13.1.toNat]?) fun e14 =>
 cond (decide (0≤y13.1))
 (cond (decide (y13.1 < (y13.2.1.counters.length:Int)))
 (ob (y13.2.1.counters[y13.1.toNat]?) fun e15 =>
 cond (decide (0≤y13.1))
 (cond (decide (y13.1 < ((y13.2.1.counters.set y13.1.toNat (Counter.mk e15.key e15.coll e15.lo e15.hi e15.start (w64 (e14.up_ - y13.2.2.2.up_)) e15.down_)).length:Int)))
 (ob ((y13.2.1.counters.set y13.1.toNat (Counter.mk e15.key e15.coll e15.lo e15.hi e15.start (w64 (e14.up_ - y13.2.2.2.up_)) e15.down_))[y13.1.toNat]?) fun e16 =>
 cond (decide (0≤y13.1))
 (cond (decide (y13.1 < ((y13.2.1.counters.set y13.1.toNat (Counter.mk e15.key e15.coll e15.lo e15.hi e15.start (w64 (e14.up_ - y13.2.2.2.up_)) e15.down_)).length:Int)))
 (ob ((y13.2.1.counters.set y13.1.toNat (Counter.mk e15.key e15.coll e15.lo e15.hi e15.start (w64 (e14.up_ - y13.2.2.2.up_)) e15.down_))[y13.1.toNat]?) fun e17 =>
 cond (fits ((y13.2.2.1.slices++[(Slice.mk y13.2.2.2.key y13.2.2.2.up_ y13.2.2.2.down_ 0 0)]).length))
 (some (0,(Book.mk ((y13.2.1.counters.set y13.1.toNat (Counter.mk e15.key e15.coll e15.lo e15.hi e15.start (w64 (e14.up_ - y13.2.2.2.up_)) e15.down_)).set y13.1.toNat (Counter.mk e17.key e17.coll e17.lo e17.hi e17.start e17.up_ (w64 (e16.down_ - y13.2.2.2.down_)))) y13.2.1.free y13.2.1.leases y13.2.1.bound),(Lease.mk y13.2.2.1.device y13.2.2.1.epoch y13.2.2.1.until_ y13.2.2.1.last (y13.2.2.1.slices++[(Slice.mk y13.2.2.2.key y13.2.2.2.up_ y13.2.2.2.down_ 0 0)]) y13.2.2.1.ids y13.2.2.1.used)))
 none)
 none)
 none)
 none)
 none)
 none)
 none)
 none)
 none)
 (some (0,y13.2.1,y13.2.2.1)))))))))
def ch_ledgerWant:kT (Want×Book×Lease):=kO (kS 7 (kC (kP 0 0) (kC (kP 1 0) (kC (Cod.xs (Cod.sa cc_Want)) kN))) (kC (Cod.var 0 29 (kC (kA 2) (kC (kG j_lRange) (kC (kA 3) (kC (kA 4) kN))))) (kC (Cod.var 1 43 (kC kJ (kC kJ (kC kJ (kC kJ (kC (kA 5) (kC (kG j_lRange) (kC (kA 6) kN)))))))) (kC (kR 2 65 j_lCounter) (kC (kR 3 43 j_lLease) (kC (kR 4 3 j_lInt) (kC (kR 5 133 j_lSlice) (kC (kR 6 3 j_lInt) kN)))))))) (fun ((_,_,z0,_),(_,z1,_),(z2,z3,z4,z5,_,z6,_),z7,z8,z9,z10,z11,_)=>(z0,(Book.mk z7 z1 z8 z9),(Lease.mk z2 z3 z4 z5 z10 z6 z11))) (fun (x:Want×Book×Lease)=>(((),((),(x.1,()))),(((),(x.2.1.free,((),((),())))),((x.2.2.device,(x.2.2.epoch,(x.2.2.until_,(x.2.2.last,((),(x.2.2.ids,((),()))))))),(x.2.1.counters,(x.2.1.leases,(x.2.1.bound,(x.2.2.slices,(x.2.2.used,()))))))))) (fun _=>rfl)
def co_ledgerWant:kT (Int×Book×Lease):=kO (kS 19 (kC kI kN) (kC (Cod.var 0 29 (kC (kA 14) (kC (kG j_lRange) (kC (kA 15) (kC (kA 16) kN))))) (kC (Cod.var 1 43 (kC kJ (kC kJ (kC kJ (kC kJ (kC (kA 17) (kC (kG j_lRange) (kC (kA 18) kN)))))))) (kC (Cod.dead 2) (kC (Cod.dead 3) (kC (Cod.dead 4) (kC (Cod.dead 5) (kC (Cod.dead 6) (kC (kR 14 65 j_lCounter) (kC (kR 15 43 j_lLease) (kC (kR 16 3 j_lInt) (kC (kR 17 133 j_lSlice) (kC (kR 18 3 j_lInt) kN))))))))))))) (fun p=>(p.1.1,(Book.mk p.2.2.2.2.2.2.2.2.1 p.2.1.2.1 (t8 p.2).1 (t8 p.2).2.1),(Lease.mk p.2.2.1.1 p.2.2.1.2.1 p.2.2.1.2.2.1 p.2.2.1.2.2.2.1 (t8 p.2).2.2.1 p.2.2.1.2.2.2.2.2.1 (t8 p.2).2.2.2.1))) (fun (x:Int×Book×Lease)=>((x.1,()),(((),(x.2.1.free,((),((),())))),((x.2.2.device,(x.2.2.epoch,(x.2.2.until_,(x.2.2.last,((),(x.2.2.ids,((),()))))))),((),((),((),((),((),(x.2.1.counters,(x.2.1.leases,(x.2.1.bound,(x.2.2.slices,(x.2.2.used,())))))))))))))) (fun _=>rfl)
def un_ledgerWant (p:Want×Book×Lease):Option (Int×Book×Lease):=ledgerWant p.1 p.2.1 p.2.2
def sf_ledgerWant:SFn TL:=SFn.one ch_ledgerWant.dec un_ledgerWant .normal co_ledgerWant.enc
def cs_ledgerWant:cL:=[(121,df_ledger_counter),(122,df_ledger_within),(179,df_rangesTake)]
def ss_ledgerWant:sL:=[(256015,sl_L156_15)]
def env_ledgerWant:Env:=envOf tab sl sh [(156,fd156)] [(121,.pure),(122,.pure),(179,.keep)]
theorem env_ledgerWant_ok:EnvOK PR (mkD cs_ledgerWant ss_ledgerWant) env_ledgerWant:=envOK_of base (aC (st156.okl rfl (aC (lC ok_L156_15 rfl) aN)) aN) (aC (oD ok_ledger_counter rfl) (aC (oD ok_ledger_within rfl) (aC (oD ok_rangesTake rfl) aN)))
theorem run_ledgerWant (x:Want×Book×Lease):Out.run (mkO cs_ledgerWant ss_ledgerWant) (evSum env_ledgerWant 12 20 156 (ch_ledgerWant.enc x)) (back1 co_ledgerWant)=un_ledgerWant x:=by kernel_rfl
theorem ok_ledgerWant:SOK PR 156 sf_ledgerWant:=sum_one env_ledgerWant_ok (loops:=12) (n:=20) st156.enters ch_ledgerWant co_ledgerWant un_ledgerWant run_ledgerWant
abbrev tY8:=(List Want)×Int×Int×Int×Want
def step_L178_2 (l1:List Want)(i1:Int)(i2:Int)(i3:Int)(w1:Want):Option ((tY8)⊕(((Int×Want)⊕(Int×Want)))) :=
 cond (decide (i3 < i2))
 (cond (decide (0≤i3))
 (ob (l1[i3.toNat]?) fun e0 =>
 cond (sEq e0.key w1.key)
 (some (.inr (.inr (i3,w1))))
 (some (.inl (l1,i1,i2,(w64 (i3+1)),w1))))
 none)
 (some (.inr (.inl (i1,w1))))
def stp_L178_2 (p:tY8):Option ((tY8)⊕(((Int×Want)⊕(Int×Want)))):=step_L178_2 p.1 p.2.1 p.2.2.1 p.2.2.2.1 p.2.2.2.2
def L178_2 (l1:List Want)(i1:Int)(i2:Int)(i3:Int)(w1:Want):Option (((Int×Want)⊕(Int×Want))):=iterO stp_L178_2 ((i2 - i3).toNat+2) (l1,i1,i2,i3,w1)
def ch_L178_2:kT (tY8):=kO (kS 1 (kC (kF j_lWant) (kC (Cod.xs (Cod.sc (Cod.clo 155 [] [(0,0)]))) (kC kI (kC kI (kC kI kN))))) (kC (Cod.var 0 105 cc_Want) kN)) (fun ((z0,_,z1,z2,z3,_),z4,_)=>(z0,z1,z2,z3,z4)) (fun (x:tY8)=>((x.1,((),(x.2.1,(x.2.2.1,(x.2.2.2.1,()))))),(x.2.2.2.2,()))) (fun _=>rfl)
def co0_L178_2:kT (Int×Want):=kO (kS 2 (kC kI kN) (kC (Cod.var 0 105 cc_Want) kN)) (fun p=>(p.1.1,p.2.1)) (fun (x:Int×Want)=>((x.1,()),(x.2,()))) (fun _=>rfl)
def sl_L178_2:SFn TL:=SFn.two ch_L178_2.dec (fun p=>L178_2 p.1 p.2.1 p.2.2.1 p.2.2.2.1 p.2.2.2.2) (.exit 0) .ret co0_L178_2.enc co0_L178_2.enc
def v_L178_2:Env:=envOf tab sl sh [(155,fd155)] []
theorem v_L178_2_ok:EnvOK PR (mkD cZ sZ) v_L178_2:=envOK_of base (aC (st155.okl rfl aN) aN) aN
theorem run_L178_2 (x:tY8):Out.run (mkO cZ sZ) (evRound v_L178_2 12 20 fd178.an q_L178_2 (loopIn (loopsOf fd178.body) 2) (ch_L178_2.enc x)) (back2 ch_L178_2 co0_L178_2 co0_L178_2 (.exit 0) .ret)=stp_L178_2 x:=by kernel_rfl
theorem ok_L178_2:LoopOK PR (oneS sl_L178_2) nt178 q_L178_2 (loopIn (loopsOf fd178.body) 2) :=
  loop_two v_L178_2_ok (loops:=12) (k:=20) (an:=fd178.an) (by kernel_rfl) (FnSt.subl rfl st178.keys (aC (.inl (by kernel_rfl)) aN)) ch_L178_2 co0_L178_2 co0_L178_2 (.exit 0) .ret rfl rfl stp_L178_2 _ run_L178_2 (fun x y h=>⟨_,h⟩) (fun _=>below_iff.1 rfl)
abbrev tY9:=(List Want)×Int×(List Want)×Int×Int×Book×Int×Book×Lease×Book×Lease
def step_L131_7 (l1:List Want)(i1:Int)(l2:List Want)(i2:Int)(i3:Int)(bx1:Book)(i4:Int)(bx2:Book)(lx1:Lease)(bx3:Book)(lx2:Lease):Option ((tY9)⊕(((Int×Book×Int×Book×Lease×Book×Lease)⊕(Int×Book×Int×Book×Lease×Book×Lease×(List Counter)×(List Lease)×(List Int)×(List Slice)×(List Int))))) :=
 cond (decide (i3 < i2))
 (cond (decide (0≤i3))
 (ob (l2[i3.toNat]?) fun e0 =>
 ob (ledger_within e0.up_ 0 2199023255552) fun r1 =>
 cond (!r1)
 (ob (ledgerWant e0 bx3 lx2) fun y4 =>
 cond (y4.1 != 0)
 (ob (ledgerOwn bx1) fun y5 =>
 some (.inr (.inr (y4.1,bx1,i4,y5,(Lease.mk 0 0 0 0 [] [] []),y4.2.1,y4.2.2,bx2.counters,bx2.leases,bx2.bound,lx1.slices,lx1.used))))
 (some (.inl (l1,i1,l2,i2,(w64 (i3+1)),bx1,i4,bx2,lx1,y4.2.1,y4.2.2))))
 (ob (ledger_within e0.down_ 0 2199023255552) fun r2 =>
 cond (!r2)
 (ob (ledgerWant e0 bx3 lx2) fun y6 =>
 cond (y6.1 != 0)
 (ob (ledgerOwn bx1) fun y7 =>
 some (.inr (.inr (y6.1,bx1,i4,y7,(Lease.mk 0 0 0 0 [] [] []),y6.2.1,y6.2.2,bx2.counters,bx2.leases,bx2.bound,lx1.slices,lx1.used))))
 (some (.inl (l1,i1,l2,i2,(w64 (i3+1)),bx1,i4,bx2,lx1,y6.2.1,y6.2.2))))
 (ob (ledger_within e0.ids 0 50) fun r3 =>
 cond (!(!r3))
 (cond (decide (0≤i3))
 (cond (decide (i3≤(l1.length:Int)))
 (ob (L178_2 (l1.take i3.toNat) 0 ((l1.take i3.toNat).length:Int) 0 e0) fun y8 =>
 two y8 (fun a9 =>
 ob (ledgerWant a9.2 bx3 lx2) fun y12 =>
 cond (y12.1 != 0)
 (ob (ledgerOwn bx1) fun y13 =>
 some (.inr (.inr (y12.1,bx1,i4,y13,(Lease.mk 0 0 0 0 [] [] []),y12.2.1,y12.2.2,bx2.counters,bx2.leases,bx2.bound,lx1.slices,lx1.used))))
 (some (.inl (l1,i1,l2,i2,(w64 (i3+1)),bx1,i4,bx2,lx1,y12.2.1,y12.2.2)))) (fun b10 =>
 cond (decide (b10.1≥0))
 (ob (ledgerOwn bx1) fun y11 =>
 some (.inr (.inr (7,bx1,i4,y11,(Lease.mk 0 0 0 0 [] [] []),bx3,lx2,bx2.counters,bx2.leases,bx2.bound,lx1.slices,lx1.used))))
 (ob (ledgerWant b10.2 bx3 lx2) fun y14 =>
 cond (y14.1 != 0)
 (ob (ledgerOwn bx1) fun y15 =>
 some (.inr (.inr (y14.1,bx1,i4,y15,(Lease.mk 0 0 0 0 [] [] []),y14.2.1,y14.2.2,bx2.counters,bx2.leases,bx2.bound,lx1.slices,lx1.used))))
 (some (.inl (l1,i1,l2,i2,(w64 (i3+1)),bx1,i4,bx2,lx1,y14.2.1,y14.2.2))))))
 none)
 none)
 (ob (ledgerWant e0 bx3 lx2) fun y16 =>
 cond (y16.1 != 0)
 (ob (ledgerOwn bx1) fun y17 =>
 some (.inr (.inr (y16.1,bx1,i4,y17,(Lease.mk 0 0 0 0 [] [] []),y16.2.1,y16.2.2,bx2.counters,bx2.leases,bx2.bound,lx1.slices,lx1.used))))
 (some (.inl (l1,i1,l2,i2,(w64 (i3+1)),bx1,i4,bx2,lx1,y16.2.1,y16.2.2)))))))
 none)
 (some (.inr (.inl (i1,bx1,i4,bx2,lx1,bx3,lx2))))
def stp_L131_7 (p:tY9):Option ((tY9)⊕(((Int×Book×Int×Book×Lease×Book×Lease)⊕(Int×Book×Int×Book×Lease×Book×Lease×(List Counter)×(List Lease)×(List Int)×(List Slice)×(List Int))))):=step_L131_7 p.1 p.2.1 p.2.2.1 p.2.2.2.1 p.2.2.2.2.1 p.2.2.2.2.2.1 p.2.2.2.2.2.2.1 p.2.2.2.2.2.2.2.1 p.2.2.2.2.2.2.2.2.1 p.2.2.2.2.2.2.2.2.2.1 p.2.2.2.2.2.2.2.2.2.2
def L131_7 (l1:List Want)(i1:Int)(l2:List Want)(i2:Int)(i3:Int)(bx1:Book)(i4:Int)(bx2:Book)(lx1:Lease)(bx3:Book)(lx2:Lease):Option (((Int×Book×Int×Book×Lease×Book×Lease)⊕(Int×Book×Int×Book×Lease×Book×Lease×(List Counter)×(List Lease)×(List Int)×(List Slice)×(List Int)))):=iterO stp_L131_7 ((i2 - i3).toNat+2) (l1,i1,l2,i2,i3,bx1,i4,bx2,lx1,bx3,lx2)
def ch_L131_7:kT (tY9):=kO (kS 16 (kC (kF j_lWant) (kC (kP 0 0) (kC (kP 1 0) (kC (kP 2 0) (kC (kP 3 0) (kC kI (kC (kP 4 0) (kC (kP 5 0) (kC (kF j_lWant) (kC kI (kC kI kN))))))))))) (kC (Cod.var 0 29 cc_Book) (kC (Cod.var 1 3 (kC kJ kN)) (kC (Cod.var 2 29 (kC (kA 6) (kC (kG j_lRange) (kC (kA 7) (kC (kA 8) kN))))) (kC (Cod.var 3 43 (kC kJ (kC kJ (kC kJ (kC kJ (kC (kA 9) (kC (kG j_lRange) (kC (kA 10) kN)))))))) (kC (Cod.var 4 29 (kC (kA 11) (kC (kG j_lRange) (kC (kA 12) (kC (kA 13) kN))))) (kC (Cod.var 5 43 (kC kJ (kC kJ (kC kJ (kC kJ (kC (kA 14) (kC (kG j_lRange) (kC (kA 15) kN)))))))) (kC (kR 6 65 j_lCounter) (kC (kR 7 43 j_lLease) (kC (kR 8 3 j_lInt) (kC (kR 9 133 j_lSlice) (kC (kR 10 3 j_lInt) (kC (kR 11 65 j_lCounter) (kC (kR 12 43 j_lLease) (kC (kR 13 3 j_lInt) (kC (kR 14 133 j_lSlice) (kC (kR 15 3 j_lInt) kN))))))))))))))))) (fun p=>(p.1.1,p.1.2.2.2.2.2.1,(t8 p.1).1,(t8 p.1).2.1,(t8 p.1).2.2.1,p.2.1,p.2.2.1.1,(Book.mk p.2.2.2.2.2.2.2.1 p.2.2.2.1.2.1 p.2.2.2.2.2.2.2.2.1 (t8 p.2).1),(Lease.mk p.2.2.2.2.1.1 p.2.2.2.2.1.2.1 p.2.2.2.2.1.2.2.1 p.2.2.2.2.1.2.2.2.1 (t8 p.2).2.1 p.2.2.2.2.1.2.2.2.2.2.1 (t8 p.2).2.2.1),(Book.mk (t8 p.2).2.2.2.1 p.2.2.2.2.2.1.2.1 (t8 p.2).2.2.2.2.1 (t8 p.2).2.2.2.2.2.1),(Lease.mk p.2.2.2.2.2.2.1.1 p.2.2.2.2.2.2.1.2.1 p.2.2.2.2.2.2.1.2.2.1 p.2.2.2.2.2.2.1.2.2.2.1 (t8 p.2).2.2.2.2.2.2.1 p.2.2.2.2.2.2.1.2.2.2.2.2.1 (t8 p.2).2.2.2.2.2.2.2.1))) (fun (x:tY9)=>((x.1,((),((),((),((),(x.2.1,((),((),(x.2.2.1,(x.2.2.2.1,(x.2.2.2.2.1,()))))))))))),(x.2.2.2.2.2.1,((x.2.2.2.2.2.2.1,()),(((),(x.2.2.2.2.2.2.2.1.free,((),((),())))),((x.2.2.2.2.2.2.2.2.1.device,(x.2.2.2.2.2.2.2.2.1.epoch,(x.2.2.2.2.2.2.2.2.1.until_,(x.2.2.2.2.2.2.2.2.1.last,((),(x.2.2.2.2.2.2.2.2.1.ids,((),()))))))),(((),(x.2.2.2.2.2.2.2.2.2.1.free,((),((),())))),((x.2.2.2.2.2.2.2.2.2.2.device,(x.2.2.2.2.2.2.2.2.2.2.epoch,(x.2.2.2.2.2.2.2.2.2.2.until_,(x.2.2.2.2.2.2.2.2.2.2.last,((),(x.2.2.2.2.2.2.2.2.2.2.ids,((),()))))))),(x.2.2.2.2.2.2.2.1.counters,(x.2.2.2.2.2.2.2.1.leases,(x.2.2.2.2.2.2.2.1.bound,(x.2.2.2.2.2.2.2.2.1.slices,(x.2.2.2.2.2.2.2.2.1.used,(x.2.2.2.2.2.2.2.2.2.1.counters,(x.2.2.2.2.2.2.2.2.2.1.leases,(x.2.2.2.2.2.2.2.2.2.1.bound,(x.2.2.2.2.2.2.2.2.2.2.slices,(x.2.2.2.2.2.2.2.2.2.2.used,())))))))))))))))))) (fun _=>rfl)
def co0_L131_7:kT (Int×Book×Int×Book×Lease×Book×Lease):=kO (kS 32 (kC (kP 1 0) (kC (kP 2 0) (kC (kP 3 0) (kC kI (kC (kP 4 0) (kC (kP 5 0) kN)))))) (kC (Cod.var 0 29 cc_Book) (kC (Cod.var 1 3 (kC kJ kN)) (kC (Cod.var 2 29 (kC (kA 6) (kC (kG j_lRange) (kC (kA 7) (kC (kA 8) kN))))) (kC (Cod.var 3 43 (kC kJ (kC kJ (kC kJ (kC kJ (kC (kA 9) (kC (kG j_lRange) (kC (kA 10) kN)))))))) (kC (Cod.var 4 29 (kC (kA 27) (kC (kG j_lRange) (kC (kA 28) (kC (kA 29) kN))))) (kC (Cod.var 5 43 (kC kJ (kC kJ (kC kJ (kC kJ (kC (kA 30) (kC (kG j_lRange) (kC (kA 31) kN)))))))) (kC (kR 6 65 j_lCounter) (kC (kR 7 43 j_lLease) (kC (kR 8 3 j_lInt) (kC (kR 9 133 j_lSlice) (kC (kR 10 3 j_lInt) (kC (kR 27 65 j_lCounter) (kC (kR 28 43 j_lLease) (kC (kR 29 3 j_lInt) (kC (kR 30 133 j_lSlice) (kC (kR 31 3 j_lInt) kN))))))))))))))))) (fun p=>(p.1.2.2.2.1,p.2.1,p.2.2.1.1,(Book.mk p.2.2.2.2.2.2.2.1 p.2.2.2.1.2.1 p.2.2.2.2.2.2.2.2.1 (t8 p.2).1),(Lease.mk p.2.2.2.2.1.1 p.2.2.2.2.1.2.1 p.2.2.2.2.1.2.2.1 p.2.2.2.2.1.2.2.2.1 (t8 p.2).2.1 p.2.2.2.2.1.2.2.2.2.2.1 (t8 p.2).2.2.1),(Book.mk (t8 p.2).2.2.2.1 p.2.2.2.2.2.1.2.1 (t8 p.2).2.2.2.2.1 (t8 p.2).2.2.2.2.2.1),(Lease.mk p.2.2.2.2.2.2.1.1 p.2.2.2.2.2.2.1.2.1 p.2.2.2.2.2.2.1.2.2.1 p.2.2.2.2.2.2.1.2.2.2.1 (t8 p.2).2.2.2.2.2.2.1 p.2.2.2.2.2.2.1.2.2.2.2.2.1 (t8 p.2).2.2.2.2.2.2.2.1))) (fun (x:Int×Book×Int×Book×Lease×Book×Lease)=>(((),((),((),(x.1,((),((),())))))),(x.2.1,((x.2.2.1,()),(((),(x.2.2.2.1.free,((),((),())))),((x.2.2.2.2.1.device,(x.2.2.2.2.1.epoch,(x.2.2.2.2.1.until_,(x.2.2.2.2.1.last,((),(x.2.2.2.2.1.ids,((),()))))))),(((),(x.2.2.2.2.2.1.free,((),((),())))),((x.2.2.2.2.2.2.device,(x.2.2.2.2.2.2.epoch,(x.2.2.2.2.2.2.until_,(x.2.2.2.2.2.2.last,((),(x.2.2.2.2.2.2.ids,((),()))))))),(x.2.2.2.1.counters,(x.2.2.2.1.leases,(x.2.2.2.1.bound,(x.2.2.2.2.1.slices,(x.2.2.2.2.1.used,(x.2.2.2.2.2.1.counters,(x.2.2.2.2.2.1.leases,(x.2.2.2.2.2.1.bound,(x.2.2.2.2.2.2.slices,(x.2.2.2.2.2.2.used,())))))))))))))))))) (fun _=>rfl)
def co1_L131_7:kT (Int×Book×Int×Book×Lease×Book×Lease×(List Counter)×(List Lease)×(List Int)×(List Slice)×(List Int)):=kO (kS 39 (kC (kP 1 0) (kC (kP 2 0) (kC (kP 3 0) (kC kI (kC (kP 4 0) (kC (kP 5 0) kN)))))) (kC (Cod.var 0 29 cc_Book) (kC (Cod.var 1 3 (kC kJ kN)) (kC (Cod.var 2 29 (kC (kA 27) (kC (kA 28) (kC (kA 29) (kC (kA 30) kN))))) (kC (Cod.var 3 43 (kC kJ (kC kJ (kC kJ (kC kJ (kC (kA 31) (kC (kA 32) (kC (kA 33) kN)))))))) (kC (Cod.var 4 29 (kC (kA 34) (kC (kG j_lRange) (kC (kA 35) (kC (kA 36) kN))))) (kC (Cod.var 5 43 (kC kJ (kC kJ (kC kJ (kC kJ (kC (kA 37) (kC (kG j_lRange) (kC (kA 38) kN)))))))) (kC (kR 6 65 j_lCounter) (kC (kR 7 43 j_lLease) (kC (kR 8 3 j_lInt) (kC (kR 9 133 j_lSlice) (kC (kR 10 3 j_lInt) (kC (kR 27 65 j_lCounter) (kC (kR 28 153 j_lRange) (kC (kR 29 43 j_lLease) (kC (kR 30 3 j_lInt) (kC (kR 31 133 j_lSlice) (kC (kR 32 153 j_lRange) (kC (kR 33 3 j_lInt) (kC (kR 34 65 j_lCounter) (kC (kR 35 43 j_lLease) (kC (kR 36 3 j_lInt) (kC (kR 37 133 j_lSlice) (kC (kR 38 3 j_lInt) kN)))))))))))))))))))))))) (fun p=>(p.1.2.2.2.1,p.2.1,p.2.2.1.1,(Book.mk (t8 p.2).2.2.2.1 (t8 p.2).2.2.2.2.1 (t8 p.2).2.2.2.2.2.1 (t8 p.2).2.2.2.2.2.2.1),(Lease.mk p.2.2.2.2.1.1 p.2.2.2.2.1.2.1 p.2.2.2.2.1.2.2.1 p.2.2.2.2.1.2.2.2.1 (t8 p.2).2.2.2.2.2.2.2.1 (t8 (t8 p.2)).1 (t8 (t8 p.2)).2.1),(Book.mk (t8 (t8 p.2)).2.2.1 p.2.2.2.2.2.1.2.1 (t8 (t8 p.2)).2.2.2.1 (t8 (t8 p.2)).2.2.2.2.1),(Lease.mk p.2.2.2.2.2.2.1.1 p.2.2.2.2.2.2.1.2.1 p.2.2.2.2.2.2.1.2.2.1 p.2.2.2.2.2.2.1.2.2.2.1 (t8 (t8 p.2)).2.2.2.2.2.1 p.2.2.2.2.2.2.1.2.2.2.2.2.1 (t8 (t8 p.2)).2.2.2.2.2.2.1),p.2.2.2.2.2.2.2.1,p.2.2.2.2.2.2.2.2.1,(t8 p.2).1,(t8 p.2).2.1,(t8 p.2).2.2.1)) (fun (x:Int×Book×Int×Book×Lease×Book×Lease×(List Counter)×(List Lease)×(List Int)×(List Slice)×(List Int))=>(((),((),((),(x.1,((),((),())))))),(x.2.1,((x.2.2.1,()),(((),((),((),((),())))),((x.2.2.2.2.1.device,(x.2.2.2.2.1.epoch,(x.2.2.2.2.1.until_,(x.2.2.2.2.1.last,((),((),((),()))))))),(((),(x.2.2.2.2.2.1.free,((),((),())))),((x.2.2.2.2.2.2.1.device,(x.2.2.2.2.2.2.1.epoch,(x.2.2.2.2.2.2.1.until_,(x.2.2.2.2.2.2.1.last,((),(x.2.2.2.2.2.2.1.ids,((),()))))))),(x.2.2.2.2.2.2.2.1,(x.2.2.2.2.2.2.2.2.1,(x.2.2.2.2.2.2.2.2.2.1,(x.2.2.2.2.2.2.2.2.2.2.1,(x.2.2.2.2.2.2.2.2.2.2.2,(x.2.2.2.1.counters,(x.2.2.2.1.free,(x.2.2.2.1.leases,(x.2.2.2.1.bound,(x.2.2.2.2.1.slices,(x.2.2.2.2.1.ids,(x.2.2.2.2.1.used,(x.2.2.2.2.2.1.counters,(x.2.2.2.2.2.1.leases,(x.2.2.2.2.2.1.bound,(x.2.2.2.2.2.2.1.slices,(x.2.2.2.2.2.2.1.used,()))))))))))))))))))))))))) (fun _=>rfl)
def sl_L131_7:SFn TL:=SFn.two ch_L131_7.dec (fun p=>L131_7 p.1 p.2.1 p.2.2.1 p.2.2.2.1 p.2.2.2.2.1 p.2.2.2.2.2.1 p.2.2.2.2.2.2.1 p.2.2.2.2.2.2.2.1 p.2.2.2.2.2.2.2.2.1 p.2.2.2.2.2.2.2.2.2.1 p.2.2.2.2.2.2.2.2.2.2) (.exit 1) .ret co0_L131_7.enc co1_L131_7.enc
def cs_lL131_7:cL:=[(122,df_ledger_within)]
def ss_lL131_7:sL:=[(156,sf_ledgerWant),(124,sf_ledgerOwn),(278002,sl_L178_2)]
def v_L131_7:Env:=envOf tab sl sh [(154,fd154),(178,fd178)] [(122,.pure),(156,.sum),(124,.sum)]
theorem v_L131_7_ok:EnvOK PR (mkD cs_lL131_7 ss_lL131_7) v_L131_7:=envOK_of base (aC (st154.okl rfl aN) (aC (st178.okl rfl (aC (lC ok_L178_2 rfl) aN)) aN)) (aC (oD ok_ledger_within rfl) (aC (okS rfl ok_ledgerWant) (aC (okS rfl ok_ledgerOwn) aN)))
theorem run_L131_7 (x:tY9):Out.run (mkO cs_lL131_7 ss_lL131_7) (evRound v_L131_7 12 20 fd131.an q_L131_7 (loopIn (loopsOf fd131.body) 7) (ch_L131_7.enc x)) (back2 ch_L131_7 co0_L131_7 co1_L131_7 (.exit 1) .ret)=stp_L131_7 x:=by kernel_rfl
theorem ok_L131_7:LoopOK PR (oneS sl_L131_7) nt131 q_L131_7 (loopIn (loopsOf fd131.body) 7) :=
  loop_two v_L131_7_ok (loops:=12) (k:=20) (an:=fd131.an) (by kernel_rfl) (FnSt.subl rfl st131.keys (aC (.inl (by kernel_rfl)) (aC (.inl (by kernel_rfl)) aN))) ch_L131_7 co0_L131_7 co1_L131_7 (.exit 1) .ret rfl rfl stp_L131_7 _ run_L131_7 (fun x y h=>⟨_,h⟩) (fun _=>below_iff.1 rfl)
abbrev tY10:=Int×Int×Book×Lease×Book×Lease
def step_L131_17 (i1:Int)(i2:Int)(bx1:Book)(lx1:Lease)(bx2:Book)(lx2:Lease):Option ((tY10)⊕(tY10)) :=
 cond (decide (i1 < (bx2.leases.length:Int)))
 (cond (decide (0≤i1))
 (cond (decide (i1 < (bx2.leases.length:Int)))
 (ob (bx2.leases[i1.toNat]?) fun e0 =>
 cond (decide (e0.device < i2))
 (some (.inl ((w64 (i1+1)),i2,bx1,lx1,bx2,lx2)))
 (some (.inr (i1,i2,bx1,lx1,bx2,lx2))))
 none)
 none)
 (some (.inr (i1,i2,bx1,lx1,bx2,lx2)))
def stp_L131_17 (p:tY10):Option ((tY10)⊕(tY10)):=step_L131_17 p.1 p.2.1 p.2.2.1 p.2.2.2.1 p.2.2.2.2.1 p.2.2.2.2.2
def L131_17 (i1:Int)(i2:Int)(bx1:Book)(lx1:Lease)(bx2:Book)(lx2:Lease):Option tY10:=iterO stp_L131_17 (1099511627776) (i1,i2,bx1,lx1,bx2,lx2)
def ch_L131_17:kT (tY10):=kO (kS 15 (kC (kP 0 0) (kC (kP 1 0) (kC (kP 2 0) (kC (kP 3 0) (kC (kP 4 0) (kC kI kN)))))) (kC (Cod.var 0 3 (kC kJ kN)) (kC (Cod.var 1 29 (kC (kA 5) (kC (kG j_lRange) (kC (kA 6) (kC (kA 7) kN))))) (kC (Cod.var 2 43 (kC kJ (kC kJ (kC kJ (kC kJ (kC (kA 8) (kC (kG j_lRange) (kC (kA 9) kN)))))))) (kC (Cod.var 3 29 (kC (kA 10) (kC (kG j_lRange) (kC (kA 11) (kC (kA 12) kN))))) (kC (Cod.var 4 43 (kC kJ (kC kJ (kC kJ (kC kJ (kC (kA 13) (kC (kG j_lRange) (kC (kA 14) kN)))))))) (kC (kR 5 65 j_lCounter) (kC (kR 6 43 j_lLease) (kC (kR 7 3 j_lInt) (kC (kR 8 133 j_lSlice) (kC (kR 9 3 j_lInt) (kC (kR 10 65 j_lCounter) (kC (kR 11 43 j_lLease) (kC (kR 12 3 j_lInt) (kC (kR 13 133 j_lSlice) (kC (kR 14 3 j_lInt) kN)))))))))))))))) (fun p=>(p.1.2.2.2.2.2.1,p.2.1.1,(Book.mk p.2.2.2.2.2.2.1 p.2.2.1.2.1 p.2.2.2.2.2.2.2.1 p.2.2.2.2.2.2.2.2.1),(Lease.mk p.2.2.2.1.1 p.2.2.2.1.2.1 p.2.2.2.1.2.2.1 p.2.2.2.1.2.2.2.1 (t8 p.2).1 p.2.2.2.1.2.2.2.2.2.1 (t8 p.2).2.1),(Book.mk (t8 p.2).2.2.1 p.2.2.2.2.1.2.1 (t8 p.2).2.2.2.1 (t8 p.2).2.2.2.2.1),(Lease.mk p.2.2.2.2.2.1.1 p.2.2.2.2.2.1.2.1 p.2.2.2.2.2.1.2.2.1 p.2.2.2.2.2.1.2.2.2.1 (t8 p.2).2.2.2.2.2.1 p.2.2.2.2.2.1.2.2.2.2.2.1 (t8 p.2).2.2.2.2.2.2.1))) (fun (x:tY10)=>(((),((),((),((),((),(x.1,())))))),((x.2.1,()),(((),(x.2.2.1.free,((),((),())))),((x.2.2.2.1.device,(x.2.2.2.1.epoch,(x.2.2.2.1.until_,(x.2.2.2.1.last,((),(x.2.2.2.1.ids,((),()))))))),(((),(x.2.2.2.2.1.free,((),((),())))),((x.2.2.2.2.2.device,(x.2.2.2.2.2.epoch,(x.2.2.2.2.2.until_,(x.2.2.2.2.2.last,((),(x.2.2.2.2.2.ids,((),()))))))),(x.2.2.1.counters,(x.2.2.1.leases,(x.2.2.1.bound,(x.2.2.2.1.slices,(x.2.2.2.1.used,(x.2.2.2.2.1.counters,(x.2.2.2.2.1.leases,(x.2.2.2.2.1.bound,(x.2.2.2.2.2.slices,(x.2.2.2.2.2.used,()))))))))))))))))) (fun _=>rfl)
def co0_L131_17:kT (tY10):=kO (kS 30 (kC (kP 1 0) (kC (kP 2 0) (kC (kP 3 0) (kC (kP 4 0) (kC kI kN))))) (kC (Cod.var 0 3 (kC kJ kN)) (kC (Cod.var 1 29 (kC (kA 5) (kC (kG j_lRange) (kC (kA 6) (kC (kA 7) kN))))) (kC (Cod.var 2 43 (kC kJ (kC kJ (kC kJ (kC kJ (kC (kA 8) (kC (kG j_lRange) (kC (kA 9) kN)))))))) (kC (Cod.var 3 29 (kC (kA 10) (kC (kG j_lRange) (kC (kA 11) (kC (kA 12) kN))))) (kC (Cod.var 4 43 (kC kJ (kC kJ (kC kJ (kC kJ (kC (kA 13) (kC (kG j_lRange) (kC (kA 14) kN)))))))) (kC (kR 5 65 j_lCounter) (kC (kR 6 43 j_lLease) (kC (kR 7 3 j_lInt) (kC (kR 8 133 j_lSlice) (kC (kR 9 3 j_lInt) (kC (kR 10 65 j_lCounter) (kC (kR 11 43 j_lLease) (kC (kR 12 3 j_lInt) (kC (kR 13 133 j_lSlice) (kC (kR 14 3 j_lInt) kN)))))))))))))))) (fun p=>(p.1.2.2.2.2.1,p.2.1.1,(Book.mk p.2.2.2.2.2.2.1 p.2.2.1.2.1 p.2.2.2.2.2.2.2.1 p.2.2.2.2.2.2.2.2.1),(Lease.mk p.2.2.2.1.1 p.2.2.2.1.2.1 p.2.2.2.1.2.2.1 p.2.2.2.1.2.2.2.1 (t8 p.2).1 p.2.2.2.1.2.2.2.2.2.1 (t8 p.2).2.1),(Book.mk (t8 p.2).2.2.1 p.2.2.2.2.1.2.1 (t8 p.2).2.2.2.1 (t8 p.2).2.2.2.2.1),(Lease.mk p.2.2.2.2.2.1.1 p.2.2.2.2.2.1.2.1 p.2.2.2.2.2.1.2.2.1 p.2.2.2.2.2.1.2.2.2.1 (t8 p.2).2.2.2.2.2.1 p.2.2.2.2.2.1.2.2.2.2.2.1 (t8 p.2).2.2.2.2.2.2.1))) (fun (x:tY10)=>(((),((),((),((),(x.1,()))))),((x.2.1,()),(((),(x.2.2.1.free,((),((),())))),((x.2.2.2.1.device,(x.2.2.2.1.epoch,(x.2.2.2.1.until_,(x.2.2.2.1.last,((),(x.2.2.2.1.ids,((),()))))))),(((),(x.2.2.2.2.1.free,((),((),())))),((x.2.2.2.2.2.device,(x.2.2.2.2.2.epoch,(x.2.2.2.2.2.until_,(x.2.2.2.2.2.last,((),(x.2.2.2.2.2.ids,((),()))))))),(x.2.2.1.counters,(x.2.2.1.leases,(x.2.2.1.bound,(x.2.2.2.1.slices,(x.2.2.2.1.used,(x.2.2.2.2.1.counters,(x.2.2.2.2.1.leases,(x.2.2.2.2.1.bound,(x.2.2.2.2.2.slices,(x.2.2.2.2.2.used,()))))))))))))))))) (fun _=>rfl)
def sl_L131_17:SFn TL:=SFn.one ch_L131_17.dec (fun p=>L131_17 p.1 p.2.1 p.2.2.1 p.2.2.2.1 p.2.2.2.2.1 p.2.2.2.2.2) (.exit 3) co0_L131_17.enc
def v_L131_17:Env:=envOf tab sl sh [] []
theorem v_L131_17_ok:EnvOK PR (mkD cZ sZ) v_L131_17:=envOK_of base aN aN
theorem run_L131_17 (x:tY10):Out.run (mkO cZ sZ) (evRound v_L131_17 12 20 fd131.an q_L131_17 (loopIn (loopsOf fd131.body) 17) (ch_L131_17.enc x)) (back ch_L131_17 co0_L131_17 fun e=>exE e (.exit 3))=stp_L131_17 x:=by kernel_rfl
theorem ok_L131_17:LoopOK PR (oneS sl_L131_17) nt131 q_L131_17 (loopIn (loopsOf fd131.body) 17) :=
  loop_one v_L131_17_ok (loops:=12) (k:=20) (an:=fd131.an) (by kernel_rfl) (FnSt.subl rfl st131.keys (aC (.inl (by kernel_rfl)) (aC (.inl (by kernel_rfl)) aN))) ch_L131_17 co0_L131_17 (.exit 3) rfl stp_L131_17 _ run_L131_17 (fun x y h=>⟨_,h⟩) (fun _=>below_iff.1 rfl)
abbrev tY11:=(List Lease)×Int×Int×Int×Int
def step_L177v131_2 (l1:List Lease)(i1:Int)(i2:Int)(i3:Int)(i4:Int):Option ((tY11)⊕(((Int×Int)⊕(Int×Int)))) :=
 cond (decide (i3 < i2))
 (cond (decide (0≤i3))
 (ob (l1[i3.toNat]?) fun e0 =>
 cond (e0.device == i4)
 (some (.inr (.inr (i3,i4))))
 (some (.inl (l1,i1,i2,(w64 (i3+1)),i4))))
 none)
 (some (.inr (.inl (i1,i4))))
def stp_L177v131_2 (p:tY11):Option ((tY11)⊕(((Int×Int)⊕(Int×Int)))):=step_L177v131_2 p.1 p.2.1 p.2.2.1 p.2.2.2.1 p.2.2.2.2
def L177v131_2 (l1:List Lease)(i1:Int)(i2:Int)(i3:Int)(i4:Int):Option (((Int×Int)⊕(Int×Int))):=iterO stp_L177v131_2 ((i2 - i3).toNat+2) (l1,i1,i2,i3,i4)
def ch_L177v131_2:kT (tY11):=kO (kS 1 (kC (kF j_lLease) (kC (Cod.xs (Cod.sc (Cod.clo 153 [] [(0,0)]))) (kC kI (kC kI (kC kI kN))))) (kC (Cod.var 0 3 (kC kJ kN)) kN)) (fun p=>(p.1.1,p.1.2.2.1,p.1.2.2.2.1,p.1.2.2.2.2.1,p.2.1.1)) (fun (x:tY11)=>((x.1,((),(x.2.1,(x.2.2.1,(x.2.2.2.1,()))))),((x.2.2.2.2,()),()))) (fun _=>rfl)
def co0_L177v131_2:kT (Int×Int):=kO (kS 2 (kC kI kN) (kC (Cod.var 0 3 (kC kJ kN)) kN)) (fun p=>(p.1.1,p.2.1.1)) (fun (x:Int×Int)=>((x.1,()),((x.2,()),()))) (fun _=>rfl)
def sl_L177v131_2:SFn TL:=SFn.two ch_L177v131_2.dec (fun p=>L177v131_2 p.1 p.2.1 p.2.2.1 p.2.2.2.1 p.2.2.2.2) (.exit 0) .ret co0_L177v131_2.enc co0_L177v131_2.enc
def v_L177v131_2:Env:=envOf tab sl sh [(153,fd153)] []
theorem v_L177v131_2_ok:EnvOK PR (mkD cZ sZ) v_L177v131_2:=envOK_of base (aC (st153.okl rfl aN) aN) aN
theorem run_L177v131_2 (x:tY11):Out.run (mkO cZ sZ) (evRound v_L177v131_2 12 20 fd177v131.an q_L177v131_2 (loopIn (loopsOf fd177v131.body) 2) (ch_L177v131_2.enc x)) (back2 ch_L177v131_2 co0_L177v131_2 co0_L177v131_2 (.exit 0) .ret)=stp_L177v131_2 x:=by kernel_rfl
theorem ok_L177v131_2:LoopOK PR (oneS sl_L177v131_2) nt177 q_L177v131_2 (loopIn (loopsOf fd177v131.body) 2) :=
  loop_two v_L177v131_2_ok (loops:=12) (k:=20) (an:=fd177v131.an) (by kernel_rfl) (FnSt.subl rfl st177v131.keys (aC (.inl (by kernel_rfl)) aN)) ch_L177v131_2 co0_L177v131_2 co0_L177v131_2 (.exit 0) .ret rfl rfl stp_L177v131_2 _ run_L177v131_2 (fun x y h=>⟨_,h⟩) (fun _=>below_iff.1 rfl)
def ledgerGrant (bx1:Book)(i1:Int)(i2:Int)(i3:Int)(l1:List Want):Option (Book×Lease×Int) :=
 ob (ledger_within i1 0 5) fun r0 =>
 cond (!r0)
 (ob (ledgerOwn bx1) fun y3 =>
 some (y3,(Lease.mk 0 0 0 0 [] [] []),1))
 (ob (ledger_within i2 1 1073741824) fun r1 =>
 cond (!r1)
 (ob (ledgerOwn bx1) fun y4 =>
 some (y4,(Lease.mk 0 0 0 0 [] [] []),1))
 (ob (ledger_within i3 0 2199023255552) fun r2 =>
 cond (cond (!r2) true (decide ((l1.length:Int) > 5)))
 (ob (ledgerOwn bx1) fun y5 =>
 some (y5,(Lease.mk 0 0 0 0 [] [] []),1))
 (ob (L177v131_2 bx1.leases 0 (bx1.leases.length:Int) 0 i1) fun y6 =>
 two y6 (fun a7 =>
 ob (ledgerOwn bx1) fun y10 =>
 ob (L131_7 l1 0 l1 (l1.length:Int) 0 bx1 a7.2 (Book.mk [] [] [] []) (Lease.mk 0 0 0 0 [] [] []) y10 (Lease.mk a7.2 i2 i3 (-1) [] [] [])) fun y11 =>
 two y11 (fun a12 =>
 ob (L131_17 0 a12.2.2.1 a12.2.2.2.1 a12.2.2.2.2.1 a12.2.2.2.2.2.1 a12.2.2.2.2.2.2) fun y14 =>
 ob (ledgerLease y14.2.2.2.2.2) fun y15 =>
 cond (decide (0≤y14.1))
 (cond (decide (y14.1≤(y14.2.2.2.2.1.leases.length:Int)))
 (cond (fits ((((y14.2.2.2.2.1.leases.take y14.1.toNat)++[y15])++((y14.2.2.2.2.1.leases.take y14.2.2.2.2.1.leases.length).drop y14.1.toNat)).length))
 (ob (ledgerOwn (Book.mk y14.2.2.2.2.1.counters y14.2.2.2.2.1.free (((y14.2.2.2.2.1.leases.take y14.1.toNat)++[y15])++((y14.2.2.2.2.1.leases.take y14.2.2.2.2.1.leases.length).drop y14.1.toNat)) y14.2.2.2.2.1.bound)) fun y16 =>
 ob (ledgerLease y14.2.2.2.2.2) fun y17 =>
 some (y16,y17,0))
 none)
 none)
 none) (fun b13 =>
 some (b13.2.2.2.1,b13.2.2.2.2.1,b13.1))) (fun b8 =>
 cond (decide (b8.1≥0))
 (ob (ledgerOwn bx1) fun y9 =>
 some (y9,(Lease.mk 0 0 0 0 [] [] []),19))
 (ob (ledgerOwn bx1) fun y18 =>
 ob (L131_7 l1 0 l1 (l1.length:Int) 0 bx1 b8.2 (Book.mk [] [] [] []) (Lease.mk 0 0 0 0 [] [] []) y18 (Lease.mk b8.2 i2 i3 (-1) [] [] [])) fun y19 =>
 two y19 (fun a20 =>
 ob (L131_17 0 a20.2.2.1 a20.2.2.2.1 a20.2.2.2.2.1 a20.2.2.2.2.2.1 a20.2.2.2.2.2.2) fun y22 =>
 ob (ledgerLease y22.2.2.2.2.2) fun y23 =>
 cond (decide (0≤y22.1))
 (cond (decide (y22.1≤(y22.2.2.2.2.1.leases.length:Int)))
 (cond (fits ((((y22.2.2.2.2.1.leases.take y22.1.toNat)++[y23])++((y22.2.2.2.2.1.leases.take y22.2.2.2.2.1.leases.length).drop y22.1.toNat)).length))
 (ob (ledgerOwn (Book.mk y22.2.2.2.2.1.counters y22.2.2.2.2.1.free (((y22.2.2.2.2.1.leases.take y22.1.toNat)++[y23])++((y22.2.2.2.2.1.leases.take y22.2.2.2.2.1.leases.length).drop y22.1.toNat)) y22.2.2.2.2.1.bound)) fun y24 =>
 ob (ledgerLease y22.2.2.2.2.2) fun y25 =>
 some (y24,y25,0))
 none)
 none)
 none) (fun b21 =>
 some (b21.2.2.2.1,b21.2.2.2.2.1,b21.1)))))))
def un_ledgerGrant (p:Book×Int×Int×Int×(List Want)):Option (Book×Lease×Int):=ledgerGrant p.1 p.2.1 p.2.2.1 p.2.2.2.1 p.2.2.2.2
def df_ledgerGrant:DFn TL:=DFn.of (DA.cons (DT.agg dc_Book) (DA.cons dI (DA.cons dI (DA.cons dI (DA.one (DT.one di_lWant)))))) un_ledgerGrant (DA.cons (DT.agg dc_Book) (DA.cons (DT.agg dc_Lease) (DA.one dI)))
theorem run_ledgerGrant:DRun [(122,df_ledger_within)] [(124,sf_ledgerOwn),(151,sf_ledgerLease),(231007,sl_L131_7),(231017,sl_L131_17),(1610277002,sl_L177v131_2)] (envOf tab sl sh [(131,fd131),(152,fd152),(177,fd177v131)] [(122,.pure),(124,.sum),(151,.sum),(157,(.ins 43))]) 131 (DA.cons (DT.agg dc_Book) (DA.cons dI (DA.cons dI (DA.cons dI (DA.one (DT.one di_lWant)))))) un_ledgerGrant (DA.cons (DT.agg dc_Book) (DA.cons (DT.agg dc_Lease) (DA.one dI))):=fun _=>by kernel_rfl
theorem ok_ledgerGrant:DOK PR 131 .keep df_ledgerGrant:=dok run_ledgerGrant (envOK_of base (aC (st131.okl rfl (aC (lC ok_L131_7 rfl) (aC (lC ok_L131_17 rfl) aN))) (aC (st152.okl rfl aN) (aC (st177v131.okl rfl (aC (lC ok_L177v131_2 rfl) aN)) aN))) (aC (oD ok_ledger_within rfl) (aC (okS rfl ok_ledgerOwn) (aC (okS rfl ok_ledgerLease) (aC (okIns okI_157) aN))))) (.inl rfl) st131.enters
def clerkCheckout (c1:Clerk):Option (Reply×Clerk) :=
 cond (decide (0≤c1.c.device) && decide (c1.c.device < 6))
 (cond (cond ((cond (decide (c1.c.device=0)) c1.d.dev.a0.epoch (cond (decide (c1.c.device=1)) c1.d.dev.a1.epoch (cond (decide (c1.c.device=2)) c1.d.dev.a2.epoch (cond (decide (c1.c.device=3)) c1.d.dev.a3.epoch (cond (decide (c1.c.device=4)) c1.d.dev.a4.epoch c1.d.dev.a5.epoch))))) == 0) true (decide (c1.c.epoch > (cond (decide (c1.c.device=0)) c1.d.dev.a0.epoch (cond (decide (c1.c.device=1)) c1.d.dev.a1.epoch (cond (decide (c1.c.device=2)) c1.d.dev.a2.epoch (cond (decide (c1.c.device=3)) c1.d.dev.a3.epoch (cond (decide (c1.c.device=4)) c1.d.dev.a4.epoch c1.d.dev.a5.epoch))))))))
 (ob (desk_fail 2) fun r1 =>
 some (r1,c1))
 (cond (decide (c1.c.epoch < (cond (decide (c1.c.device=0)) c1.d.dev.a0.epoch (cond (decide (c1.c.device=1)) c1.d.dev.a1.epoch (cond (decide (c1.c.device=2)) c1.d.dev.a2.epoch (cond (decide (c1.c.device=3)) c1.d.dev.a3.epoch (cond (decide (c1.c.device=4)) c1.d.dev.a4.epoch c1.d.dev.a5.epoch)))))))
 (ob (desk_fail 16) fun r2 =>
 some (r2,c1))
 (ob (clerkLost c1.d.lost c1.c.device (cond (decide (c1.c.device=0)) c1.d.dev.a0.epoch (cond (decide (c1.c.device=1)) c1.d.dev.a1.epoch (cond (decide (c1.c.device=2)) c1.d.dev.a2.epoch (cond (decide (c1.c.device=3)) c1.d.dev.a3.epoch (cond (decide (c1.c.device=4)) c1.d.dev.a4.epoch c1.d.dev.a5.epoch)))))) fun r0 =>
 cond (r0)
 (ob (desk_fail 16) fun r3 =>
 some (r3,c1))
 (cond (cond (decide (c1.c.n < 1)) true (decide (c1.c.n > 1000)))
 (ob (desk_fail 1) fun r4 =>
 some (r4,c1))
 (ob (ledgerGrant c1.d.book c1.c.device c1.c.epoch (w64 (c1.d.now+c1.c.n)) c1.c.wants) fun r5 =>
 cond (r5.2.2 != 0)
 (ob (desk_fail r5.2.2) fun r6 =>
 some (r6,c1))
 (some ((Reply.mk 0 0 r5.2.1),(Clerk.mk (Desk.mk r5.1 c1.d.colls c1.d.log c1.d.dev c1.d.lost c1.d.now) c1.c))))))))
 none
def hc1_Clerk:Cod (List (Nat×En TL)) Clerk:=kO (kC (Cod.var 0 100 (kC (kG j_lCounter) (kC (kG j_lRange) (kC (kG j_lLease) (kC (kG j_lInt) (kC (kA 86) (kC (kA 87) (kC (kA 88) (kC (kA 89) (kC (kA 90) (kC (kA 91) (kC (kA 92) (kC (kA 93) (kC (kA 94) (kC (kA 95) (kC (kA 96) (kC (kA 97) (kC (kA 98) (kC (kA 99) (kC (kA 100) (kC (kA 101) (kC (kA 102) (kC (kA 103) (kC (kA 104) (kC kJ (kC kJ (kC kJ (kC kJ (kC kJ (kC kJ (kC kJ (kC kJ (kC (kA 105) (kC (kA 106) (kC (kA 107) (kC kJ (kC kJ (kC kJ (kC kJ (kC kJ (kC kJ (kC kJ (kC kJ (kC (kA 108) (kC (kA 109) (kC (kA 110) (kC kJ (kC kJ (kC kJ (kC kJ (kC kJ (kC kJ (kC kJ (kC kJ (kC (kA 111) (kC (kA 112) (kC (kA 113) (kC kJ (kC kJ (kC kJ (kC kJ (kC kJ (kC kJ (kC kJ (kC kJ (kC (kA 114) (kC (kA 115) (kC (kA 116) (kC kJ (kC kJ (kC kJ (kC kJ (kC kJ (kC kJ (kC kJ (kC kJ (kC (kA 117) (kC (kA 118) (kC (kA 119) (kC kJ (kC kJ (kC kJ (kC kJ (kC kJ (kC kJ (kC kJ (kC kJ (kC (kA 120) (kC (kA 121) (kC (kA 122) (kC (kA 123) (kC kJ (kC kJ (kC kJ (kC kJ (kC kJ (kC kJ (kC (kG j_lWant) (kC (kG j_lOp) kN))))))))))))))))))))))))))))))))))))))))))))))))))))))))))))))))))))))))))))))))))))))))))))))))))) (kC (Cod.dead 1) (kC (Cod.dead 2) (kC (Cod.dead 3) (kC (Cod.dead 4) (kC (Cod.dead 5) (kC (Cod.dead 6) (kC (Cod.dead 7) (kC (Cod.dead 8) (kC (Cod.dead 9) (kC (Cod.dead 10) (kC (Cod.dead 11) (kC (Cod.dead 12) (kC (Cod.dead 13) (kC (Cod.dead 14) (kC (Cod.dead 15) (kC (Cod.dead 16) (kC (Cod.dead 17) (kC (Cod.dead 18) (kC (Cod.dead 19) (kC (Cod.dead 20) (kC (Cod.dead 21) (kC (Cod.dead 22) (kC (Cod.dead 23) (kC (Cod.dead 24) (kC (Cod.dead 25) (kC (Cod.dead 26) (kC (Cod.dead 27) (kC (Cod.dead 28) (kC (Cod.dead 29) (kC (Cod.dead 30) (kC (Cod.dead 31) (kC (Cod.dead 32) (kC (Cod.dead 33) (kC (Cod.dead 34) (kC (Cod.dead 35) (kC (Cod.dead 36) (kC (Cod.dead 37) (kC (Cod.dead 38) (kC (Cod.dead 39) (kC (Cod.dead 40) (kC (Cod.dead 41) (kC (Cod.dead 42) (kC (kR 86 66 j_lEntry) (kC (kR 87 142 j_lReg) (kC (kR 88 145 j_lElem) (kC (kR 89 59 j_lEntry) (kC (kR 90 129 j_lSum) (kC (kR 91 149 j_lBind) (kC (kR 92 66 j_lEntry) (kC (kR 93 142 j_lReg) (kC (kR 94 145 j_lElem) (kC (kR 95 59 j_lEntry) (kC (kR 96 129 j_lSum) (kC (kR 97 149 j_lBind) (kC (kR 98 66 j_lEntry) (kC (kR 99 142 j_lReg) (kC (kR 100 145 j_lElem) (kC (kR 101 59 j_lEntry) (kC (kR 102 129 j_lSum) (kC (kR 103 149 j_lBind) (kC (kR 104 61 j_lOp) (kC (kR 105 133 j_lSlice) (kC (kR 106 153 j_lRange) (kC (kR 107 3 j_lInt) (kC (kR 108 133 j_lSlice) (kC (kR 109 153 j_lRange) (kC (kR 110 3 j_lInt) (kC (kR 111 133 j_lSlice) (kC (kR 112 153 j_lRange) (kC (kR 113 3 j_lInt) (kC (kR 114 133 j_lSlice) (kC (kR 115 153 j_lRange) (kC (kR 116 3 j_lInt) (kC (kR 117 133 j_lSlice) (kC (kR 118 153 j_lRange) (kC (kR 119 3 j_lInt) (kC (kR 120 133 j_lSlice) (kC (kR 121 153 j_lRange) (kC (kR 122 3 j_lInt) (kC (kR 123 66 j_lEntry) kN))))))))))))))))))))))))))))))))))))))))))))))))))))))))))))))))))))))))))))))))) (fun p=>(Clerk.mk (Desk.mk (Book.mk p.1.1 p.1.2.1 p.1.2.2.1 p.1.2.2.2.1) (A3Coll.mk (Coll.mk (t8 (t32 p)).2.2.2.1 (t8 (t32 p)).2.2.2.2.1 (t8 (t32 p)).2.2.2.2.2.1 (t8 (t32 p)).2.2.2.2.2.2.1 (t8 (t32 p)).2.2.2.2.2.2.2.1 (t8 (t8 (t32 p))).1) (Coll.mk (t8 (t8 (t32 p))).2.1 (t8 (t8 (t32 p))).2.2.1 (t8 (t8 (t32 p))).2.2.2.1 (t8 (t8 (t32 p))).2.2.2.2.1 (t8 (t8 (t32 p))).2.2.2.2.2.1 (t8 (t8 (t32 p))).2.2.2.2.2.2.1) (Coll.mk (t8 (t8 (t32 p))).2.2.2.2.2.2.2.1 (t8 (t8 (t8 (t32 p)))).1 (t8 (t8 (t8 (t32 p)))).2.1 (t8 (t8 (t8 (t32 p)))).2.2.1 (t8 (t8 (t8 (t32 p)))).2.2.2.1 (t8 (t8 (t8 (t32 p)))).2.2.2.2.1)) (t8 (t8 (t8 (t32 p)))).2.2.2.2.2.1 (A6Device.mk (Device.mk (t8 (t8 p.1)).2.2.2.2.2.2.2.1 (t8 (t8 (t8 p.1))).1 (Reply.mk (t8 (t8 (t8 p.1))).2.1 (t8 (t8 (t8 p.1))).2.2.1 (Lease.mk (t8 (t8 (t8 p.1))).2.2.2.1 (t8 (t8 (t8 p.1))).2.2.2.2.1 (t8 (t8 (t8 p.1))).2.2.2.2.2.1 (t8 (t8 (t8 p.1))).2.2.2.2.2.2.1 (t8 (t8 (t8 (t32 p)))).2.2.2.2.2.2.1 (t8 (t8 (t8 (t32 p)))).2.2.2.2.2.2.2.1 (t32 (t32 p)).1))) (Device.mk (t32 p.1).2.2.1 (t32 p.1).2.2.2.1 (Reply.mk (t32 p.1).2.2.2.2.1 (t32 p.1).2.2.2.2.2.1 (Lease.mk (t32 p.1).2.2.2.2.2.2.1 (t32 p.1).2.2.2.2.2.2.2.1 (t8 (t32 p.1)).1 (t8 (t32 p.1)).2.1 (t32 (t32 p)).2.1 (t32 (t32 p)).2.2.1 (t32 (t32 p)).2.2.2.1))) (Device.mk (t8 (t32 p.1)).2.2.2.2.2.1 (t8 (t32 p.1)).2.2.2.2.2.2.1 (Reply.mk (t8 (t32 p.1)).2.2.2.2.2.2.2.1 (t8 (t8 (t32 p.1))).1 (Lease.mk (t8 (t8 (t32 p.1))).2.1 (t8 (t8 (t32 p.1))).2.2.1 (t8 (t8 (t32 p.1))).2.2.2.1 (t8 (t8 (t32 p.1))).2.2.2.2.1 (t32 (t32 p)).2.2.2.2.1 (t32 (t32 p)).2.2.2.2.2.1 (t32 (t32 p)).2.2.2.2.2.2.1))) (Device.mk (t8 (t8 (t8 (t32 p.1)))).1 (t8 (t8 (t8 (t32 p.1)))).2.1 (Reply.mk (t8 (t8 (t8 (t32 p.1)))).2.2.1 (t8 (t8 (t8 (t32 p.1)))).2.2.2.1 (Lease.mk (t8 (t8 (t8 (t32 p.1)))).2.2.2.2.1 (t8 (t8 (t8 (t32 p.1)))).2.2.2.2.2.1 (t8 (t8 (t8 (t32 p.1)))).2.2.2.2.2.2.1 (t8 (t8 (t8 (t32 p.1)))).2.2.2.2.2.2.2.1 (t32 (t32 p)).2.2.2.2.2.2.2.1 (t8 (t32 (t32 p))).1 (t8 (t32 (t32 p))).2.1))) (Device.mk (t32 (t32 p.1)).2.2.2.1 (t32 (t32 p.1)).2.2.2.2.1 (Reply.mk (t32 (t32 p.1)).2.2.2.2.2.1 (t32 (t32 p.1)).2.2.2.2.2.2.1 (Lease.mk (t32 (t32 p.1)).2.2.2.2.2.2.2.1 (t8 (t32 (t32 p.1))).1 (t8 (t32 (t32 p.1))).2.1 (t8 (t32 (t32 p.1))).2.2.1 (t8 (t32 (t32 p))).2.2.1 (t8 (t32 (t32 p))).2.2.2.1 (t8 (t32 (t32 p))).2.2.2.2.1))) (Device.mk (t8 (t32 (t32 p.1))).2.2.2.2.2.2.1 (t8 (t32 (t32 p.1))).2.2.2.2.2.2.2.1 (Reply.mk (t8 (t8 (t32 (t32 p.1)))).1 (t8 (t8 (t32 (t32 p.1)))).2.1 (Lease.mk (t8 (t8 (t32 (t32 p.1)))).2.2.1 (t8 (t8 (t32 (t32 p.1)))).2.2.2.1 (t8 (t8 (t32 (t32 p.1)))).2.2.2.2.1 (t8 (t8 (t32 (t32 p.1)))).2.2.2.2.2.1 (t8 (t32 (t32 p))).2.2.2.2.2.1 (t8 (t32 (t32 p))).2.2.2.2.2.2.1 (t8 (t32 (t32 p))).2.2.2.2.2.2.2.1)))) (t8 (t8 (t32 (t32 p)))).1 (t8 (t8 (t8 (t32 (t32 p.1))))).2.2.1) (Cmd.mk (t8 (t8 (t8 (t32 (t32 p.1))))).2.2.2.1 (t8 (t8 (t8 (t32 (t32 p.1))))).2.2.2.2.1 (t8 (t8 (t8 (t32 (t32 p.1))))).2.2.2.2.2.1 (t8 (t8 (t8 (t32 (t32 p.1))))).2.2.2.2.2.2.1 (t8 (t8 (t8 (t32 (t32 p.1))))).2.2.2.2.2.2.2.1 (t32 (t32 (t32 p.1))).1 (t32 (t32 (t32 p.1))).2.1))) (fun (x:Clerk)=>((x.d.book.counters,(x.d.book.free,(x.d.book.leases,(x.d.book.bound,((),((),((),((),((),((),((),((),((),((),((),((),((),((),((),((),((),((),((),(x.d.dev.a0.epoch,(x.d.dev.a0.req,(x.d.dev.a0.reply.err,(x.d.dev.a0.reply.n,(x.d.dev.a0.reply.lease.device,(x.d.dev.a0.reply.lease.epoch,(x.d.dev.a0.reply.lease.until_,(x.d.dev.a0.reply.lease.last,((),((),((),(x.d.dev.a1.epoch,(x.d.dev.a1.req,(x.d.dev.a1.reply.err,(x.d.dev.a1.reply.n,(x.d.dev.a1.reply.lease.device,(x.d.dev.a1.reply.lease.epoch,(x.d.dev.a1.reply.lease.until_,(x.d.dev.a1.reply.lease.last,((),((),((),(x.d.dev.a2.epoch,(x.d.dev.a2.req,(x.d.dev.a2.reply.err,(x.d.dev.a2.reply.n,(x.d.dev.a2.reply.lease.device,(x.d.dev.a2.reply.lease.epoch,(x.d.dev.a2.reply.lease.until_,(x.d.dev.a2.reply.lease.last,((),((),((),(x.d.dev.a3.epoch,(x.d.dev.a3.req,(x.d.dev.a3.reply.err,(x.d.dev.a3.reply.n,(x.d.dev.a3.reply.lease.device,(x.d.dev.a3.reply.lease.epoch,(x.d.dev.a3.reply.lease.until_,(x.d.dev.a3.reply.lease.last,((),((),((),(x.d.dev.a4.epoch,(x.d.dev.a4.req,(x.d.dev.a4.reply.err,(x.d.dev.a4.reply.n,(x.d.dev.a4.reply.lease.device,(x.d.dev.a4.reply.lease.epoch,(x.d.dev.a4.reply.lease.until_,(x.d.dev.a4.reply.lease.last,((),((),((),(x.d.dev.a5.epoch,(x.d.dev.a5.req,(x.d.dev.a5.reply.err,(x.d.dev.a5.reply.n,(x.d.dev.a5.reply.lease.device,(x.d.dev.a5.reply.lease.epoch,(x.d.dev.a5.reply.lease.until_,(x.d.dev.a5.reply.lease.last,((),((),((),((),(x.d.now,(x.c.kind,(x.c.device,(x.c.epoch,(x.c.req,(x.c.n,(x.c.wants,(x.c.ops,())))))))))))))))))))))))))))))))))))))))))))))))))))))))))))))))))))))))))))))))))))))))))))))))))),((),((),((),((),((),((),((),((),((),((),((),((),((),((),((),((),((),((),((),((),((),((),((),((),((),((),((),((),((),((),((),((),((),((),((),((),((),((),((),((),((),((),(x.d.colls.a0.v,(x.d.colls.a0.regs,(x.d.colls.a0.elems,(x.d.colls.a0.gone,(x.d.colls.a0.sums,(x.d.colls.a0.binds,(x.d.colls.a1.v,(x.d.colls.a1.regs,(x.d.colls.a1.elems,(x.d.colls.a1.gone,(x.d.colls.a1.sums,(x.d.colls.a1.binds,(x.d.colls.a2.v,(x.d.colls.a2.regs,(x.d.colls.a2.elems,(x.d.colls.a2.gone,(x.d.colls.a2.sums,(x.d.colls.a2.binds,(x.d.log,(x.d.dev.a0.reply.lease.slices,(x.d.dev.a0.reply.lease.ids,(x.d.dev.a0.reply.lease.used,(x.d.dev.a1.reply.lease.slices,(x.d.dev.a1.reply.lease.ids,(x.d.dev.a1.reply.lease.used,(x.d.dev.a2.reply.lease.slices,(x.d.dev.a2.reply.lease.ids,(x.d.dev.a2.reply.lease.used,(x.d.dev.a3.reply.lease.slices,(x.d.dev.a3.reply.lease.ids,(x.d.dev.a3.reply.lease.used,(x.d.dev.a4.reply.lease.slices,(x.d.dev.a4.reply.lease.ids,(x.d.dev.a4.reply.lease.used,(x.d.dev.a5.reply.lease.slices,(x.d.dev.a5.reply.lease.ids,(x.d.dev.a5.reply.lease.used,(x.d.lost,())))))))))))))))))))))))))))))))))))))))))))))))))))))))))))))))))))))))))))))))))) (fun _=>rfl)
def co_clerkCheckout:kT (Reply×Clerk):=kO (kS 124 (kC (Cod.xs (Cod.sa cc_Reply)) kN) hc1_Clerk) (fun p=>(p.1.1,p.2)) (fun (x:Reply×Clerk)=>((x.1,()),x.2)) (fun _=>rfl)
def un_clerkCheckout (p:Clerk):Option (Reply×Clerk):=clerkCheckout p
def sf_clerkCheckout:SFn TL:=SFn.one ch_clerkRegister.dec un_clerkCheckout .normal co_clerkCheckout.enc
def cs_clerkCheckout:cL:=[(129,df_clerkLost),(39,df_desk_fail),(131,df_ledgerGrant)]
def env_clerkCheckout:Env:=envOf tab sl sh [(85,fd85),(130,fd130),(128,fd128)] [(129,(.rd 89 66)),(39,.keep),(131,.keep)]
theorem env_clerkCheckout_ok:EnvOK PR (mkD cs_clerkCheckout sZ) env_clerkCheckout:=envOK_of base (aC (st85.okl rfl aN) (aC (st130.okl rfl aN) (aC (st128.okl rfl aN) aN))) (aC (oD ok_clerkLost rfl) (aC (oD ok_desk_fail rfl) (aC (oD ok_ledgerGrant rfl) aN)))
theorem run_clerkCheckout (x:Clerk):Out.run (mkO cs_clerkCheckout sZ) (evSum env_clerkCheckout 12 20 85 (ch_clerkRegister.enc x)) (back1 co_clerkCheckout)=un_clerkCheckout x:=by kernel_rfl
theorem ok_clerkCheckout:SOK PR 85 sf_clerkCheckout:=sum_one env_clerkCheckout_ok (loops:=12) (n:=20) st85.enters ch_clerkRegister co_clerkCheckout un_clerkCheckout run_clerkCheckout
def clerkIncluded (l1:List Op)(i1:Int)(i2:Int):Option Int :=
  cond (fits l1.length) (some (inclIn (fun (o:Op)=>o.dot.device == i1 && o.dot.epoch == i2) (fun o=>o.dot.seq) l1)) none
def un_clerkIncluded (p:(List Op)×Int×Int):Option Int:=clerkIncluded p.1 p.2.1 p.2.2
def df_clerkIncluded:DFn TL:=DFn.of (DA.cons (DT.one di_lOp) (DA.cons dI (DA.one dI))) un_clerkIncluded (DA.one dI)
theorem of_lOp_fz {l:TL}{a:List Op}(h:of_lOp (.fz l)=some a):l=.lOp a:=by
  cases l<;>simp only [of_lOp,Option.some.injEq,reduceCtorEq] at h
  rw [h]
theorem flat_Op:∀ {a:List Op} {G:Fz} {xs:List Value},RepIs G (a.map v_OpC).flatten xs→∃ es:List OpC,xs=flatO es∧es.map (fun x=>(x.d,x.e,x.s))=a.map fun e=>(e.dot.device,e.dot.epoch,e.dot.seq)
  | [],_,_,h=>by cases h;exact ⟨[],rfl,rfl⟩
  | e::r,_,_,h=>by
    cases h with | cons h1 h=>cases h with | cons h2 h=>cases h with | cons h3 h =>
    cases h with | cons k0 h=>cases h with | cons k1 h=>cases h with | cons k2 h=>cases h with | cons k3 h =>
    cases h with | cons k4 h=>cases h with | cons k5 h=>cases h with | cons k6 h=>cases h with | cons k7 h =>
    cases h1;cases h2;cases h3
    obtain ⟨es,rfl,he⟩:=flat_Op h
    refine ⟨⟨e.dot.device,e.dot.epoch,e.dot.seq,_,_,_,_,_,_,_,_,?_⟩::es,rfl,by simp [he]⟩
    intro v hv
    simp only [List.mem_cons,List.not_mem_nil,or_false] at hv
    rcases hv with rfl | rfl | rfl | rfl | rfl | rfl | rfl | rfl
    · exact k0.one
    · exact k1.one
    · exact k2.one
    · exact k3.one
    · exact k4.one
    · exact k5.one
    · exact k6.one
    · exact k7.one
theorem inclIn_map {α β:Type}(g:α→β)(p:β→Bool)(n:β→Int)(l:List α):inclIn p n (l.map g)=inclIn (fun x=>p (g x)) (fun x=>n (g x)) l:=by
  unfold inclIn
  rw [← List.map_reverse,List.find?_map]
  cases h:l.reverse.find? (p∘g) with
  | none=>rw [show (fun x=>p (g x))=p∘g from rfl,h];rfl
  | some x=>rw [show (fun x=>p (g x))=p∘g from rfl,h];rfl
theorem ok_clerkIncluded:DOK PR 133 (.rd 22 61) df_clerkIncluded:=by
  refine ⟨enters_of Tryz.func133 (by kernel_rfl) (c:=bod Tryz.f133.body) rfl,by simp [isBlt],?_⟩
  rintro l ys rs ⟨x,y,hx,hy,rfl⟩ G w k cells t sv xs vs hk hsv hc hlen hrep _ hys
  have hle:=(DA.cons (DT.one di_lOp) (DA.cons dI (DA.one dI))).ok (.c (.im (.fz l))::ys) x hx
  obtain ⟨a,ha,hx⟩:=ob_eq.1 hx
  cases of_lOp_fz ha
  obtain ⟨b',hb',hx⟩:=ob_eq.1 hx
  cases hx
  cases hle with
  | cons _ h2 =>
  have h3:=all2_le h2 hys
  obtain ⟨i1,i2⟩:=b'
  cases h3 with
  | cons v1 h3=>cases h3 with
  | cons v2 h3 =>
  cases h3;cases v1;cases v2
  obtain ⟨ad,cap,rfl,_,hcs⟩:=hc
  have hcell:w.cell? ⟨k,22,none⟩=some (.slice ad (LI.els (TL.lOp a)).length cap):=by rw [cell_of_block hk];simpa using hsv
  have hln:(LI.els (TL.lOp a)).length=a.length:=by simp [LI.els]
  rw [hln] at hcell hcs
  have hF:clerkIncluded a i1 i2=some y:=hy
  unfold clerkIncluded at hF
  cases hft:fits a.length with
  | false=>rw [hft] at hF;cases hF
  | true =>
  rw [hft,cond_true] at hF
  cases hF
  have hl:=of_decide_eq_true hft
  replace hrep:RepIs G (a.map v_OpC).flatten xs:=hrep
  obtain ⟨es,rfl,he⟩:=flat_Op hrep
  have hm:es.length=a.length:=by have:=congrArg List.length he;simpa using this
  refine Calls.mono (callsIn_wide.1 (included_in (Fence.wide) 3 trivial trivial trivial rfl (Nat.le_refl _) w k ad cap es i1 i2 (by rw [hm];exact hl) (by rw [hm];exact hcell) (by rw [hm];exact hcs))) ?_
  rintro en w' ⟨rfl,hb'⟩
  refine ⟨_,rfl,?_,hb'⟩
  have e1:inclIn (fun x:OpC=>x.d == i1 && x.e == i2) (fun x=>x.s) es=inclIn (fun t:K3=>t.1 == i1 && t.2.1 == i2) (fun t=>t.2.2) (es.map fun x=>(x.d,x.e,x.s)):=(inclIn_map (fun x:OpC=>(x.d,x.e,x.s)) (fun t:K3=>t.1 == i1 && t.2.1 == i2) (fun t:K3=>t.2.2) es).symm
  rw [e1,he,inclIn_map]
  exact .int
abbrev tY12:=(List Lease)×Int×Int×Int×Int×Int
def step_L177v162_2 (l1:List Lease)(i1:Int)(i2:Int)(i3:Int)(i4:Int)(i5:Int):Option ((tY12)⊕(((Int×Int×Int)⊕(Int×Int×Int)))) :=
 cond (decide (i3 < i2))
 (cond (decide (0≤i3))
 (ob (l1[i3.toNat]?) fun e0 =>
 cond (cond (e0.device == i4) (e0.epoch == i5) false)
 (some (.inr (.inr (i3,i4,i5))))
 (some (.inl (l1,i1,i2,(w64 (i3+1)),i4,i5))))
 none)
 (some (.inr (.inl (i1,i4,i5))))
def stp_L177v162_2 (p:tY12):Option ((tY12)⊕(((Int×Int×Int)⊕(Int×Int×Int)))):=step_L177v162_2 p.1 p.2.1 p.2.2.1 p.2.2.2.1 p.2.2.2.2.1 p.2.2.2.2.2
def L177v162_2 (l1:List Lease)(i1:Int)(i2:Int)(i3:Int)(i4:Int)(i5:Int):Option (((Int×Int×Int)⊕(Int×Int×Int))):=iterO stp_L177v162_2 ((i2 - i3).toNat+2) (l1,i1,i2,i3,i4,i5)
def ch_L177v162_2:kT (tY12):=kO (kS 2 (kC (kF j_lLease) (kC (Cod.xs (Cod.sc (Cod.clo 196 [] [(0,0),(1,0)]))) (kC kI (kC kI (kC kI kN))))) (kC (Cod.var 0 3 (kC kJ kN)) (kC (Cod.var 1 3 (kC kJ kN)) kN))) (fun p=>(p.1.1,p.1.2.2.1,p.1.2.2.2.1,p.1.2.2.2.2.1,p.2.1.1,p.2.2.1.1)) (fun (x:tY12)=>((x.1,((),(x.2.1,(x.2.2.1,(x.2.2.2.1,()))))),((x.2.2.2.2.1,()),((x.2.2.2.2.2,()),())))) (fun _=>rfl)
def co0_L177v162_2:kT (Int×Int×Int):=kO (kS 4 (kC kI kN) (kC (Cod.var 0 3 (kC kJ kN)) (kC (Cod.var 1 3 (kC kJ kN)) kN))) (fun p=>(p.1.1,p.2.1.1,p.2.2.1.1)) (fun (x:Int×Int×Int)=>((x.1,()),((x.2.1,()),((x.2.2,()),())))) (fun _=>rfl)
def sl_L177v162_2:SFn TL:=SFn.two ch_L177v162_2.dec (fun p=>L177v162_2 p.1 p.2.1 p.2.2.1 p.2.2.2.1 p.2.2.2.2.1 p.2.2.2.2.2) (.exit 0) .ret co0_L177v162_2.enc co0_L177v162_2.enc
def v_L177v162_2:Env:=envOf tab sl sh [(196,fd196)] []
theorem v_L177v162_2_ok:EnvOK PR (mkD cZ sZ) v_L177v162_2:=envOK_of base (aC (st196.okl rfl aN) aN) aN
theorem run_L177v162_2 (x:tY12):Out.run (mkO cZ sZ) (evRound v_L177v162_2 12 20 fd177v162.an q_L177v162_2 (loopIn (loopsOf fd177v162.body) 2) (ch_L177v162_2.enc x)) (back2 ch_L177v162_2 co0_L177v162_2 co0_L177v162_2 (.exit 0) .ret)=stp_L177v162_2 x:=by kernel_rfl
theorem ok_L177v162_2:LoopOK PR (oneS sl_L177v162_2) nt177 q_L177v162_2 (loopIn (loopsOf fd177v162.body) 2) :=
  loop_two v_L177v162_2_ok (loops:=12) (k:=20) (an:=fd177v162.an) (by kernel_rfl) (FnSt.subl rfl st177v162.keys (aC (.inl (by kernel_rfl)) aN)) ch_L177v162_2 co0_L177v162_2 co0_L177v162_2 (.exit 0) .ret rfl rfl stp_L177v162_2 _ run_L177v162_2 (fun x y h=>⟨_,h⟩) (fun _=>below_iff.1 rfl)
def ledger_at (bx1:Book)(i1:Int)(i2:Int):Option Int :=
 ob (L177v162_2 bx1.leases 0 (bx1.leases.length:Int) 0 i1 i2) fun y0 =>
 two y0 (fun _ =>
 some (-1)) (fun b2 =>
 some b2.1)
def un_ledger_at (p:Book×Int×Int):Option Int:=ledger_at p.1 p.2.1 p.2.2
def df_ledger_at:DFn TL:=DFn.of (DA.cons (DT.agg dc_Book) (DA.cons dI (DA.one dI))) un_ledger_at (DA.one dI)
theorem run_ledger_at:DRun [] [(1920277002,sl_L177v162_2)] (envOf tab sl sh [(162,fd162),(177,fd177v162)] []) 162 (DA.cons (DT.agg dc_Book) (DA.cons dI (DA.one dI))) un_ledger_at (DA.one dI):=fun _=>by kernel_rfl
theorem ok_ledger_at:DOK PR 162 .pure df_ledger_at:=dok run_ledger_at (envOK_of base (aC (st162.okl rfl aN) (aC (st177v162.okl rfl (aC (lC ok_L177v162_2 rfl) aN)) aN)) aN) (.inr rfl) st162.enters
def ledgerFind (bx1:Book)(i1:Int)(i2:Int):Option (Lease×Bool) :=
 ob (ledger_at bx1 i1 i2) fun r0 =>
 cond (decide (r0 < 0))
 (some ((Lease.mk 0 0 0 0 [] [] []),false))
 (cond (decide (0≤r0))
 (ob (bx1.leases[r0.toNat]?) fun e1 =>
 ob (ledgerLease e1) fun y2 =>
 some (y2,true))
 none)
def un_ledgerFind (p:Book×Int×Int):Option (Lease×Bool):=ledgerFind p.1 p.2.1 p.2.2
def df_ledgerFind:DFn TL:=DFn.of (DA.cons (DT.agg dc_Book) (DA.cons dI (DA.one dI))) un_ledgerFind (DA.cons (DT.agg dc_Lease) (DA.one dB))
theorem run_ledgerFind:DRun [(162,df_ledger_at)] [(151,sf_ledgerLease)] (envOf tab sl sh [(134,fd134)] [(162,.pure),(151,.sum)]) 134 (DA.cons (DT.agg dc_Book) (DA.cons dI (DA.one dI))) un_ledgerFind (DA.cons (DT.agg dc_Lease) (DA.one dB)):=fun _=>by kernel_rfl
theorem ok_ledgerFind:DOK PR 134 .keep df_ledgerFind:=dok run_ledgerFind (envOK_of base (aC (st134.okl rfl aN) aN) (aC (oD ok_ledger_at rfl) (aC (okS rfl ok_ledgerLease) aN))) (.inl rfl) st134.enters
def ops_within (i1:Int)(i2:Int)(i3:Int):Option Bool :=
 some (cond (decide (i1≥i2)) (decide (i1≤i3)) false)
def un_ops_within (p:Int×Int×Int):Option Bool:=ops_within p.1 p.2.1 p.2.2
def df_ops_within:DFn TL:=DFn.of (DA.cons dI (DA.cons dI (DA.one dI))) un_ops_within (DA.one dB)
theorem run_ops_within:DRun [] [] (envOf tab sl sh [(182,fd182)] []) 182 (DA.cons dI (DA.cons dI (DA.one dI))) un_ops_within (DA.one dB):=fun _=>by kernel_rfl
theorem ok_ops_within:DOK PR 182 .pure df_ops_within:=dok run_ops_within (envOK_of base (aC (st182.okl rfl aN) aN) aN) (.inr rfl) st182.enters
end
end Go.Proofs.YtcjpeijiaojeiaaGreat
