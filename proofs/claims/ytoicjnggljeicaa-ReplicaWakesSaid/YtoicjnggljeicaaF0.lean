/- By program (gen.py): the functions in their typed form. -/
import Derived.Test.YtoicjnggljeicaaFn
namespace Go.Proofs.Ytoicjnggljeicaa
open Go Go.Ev
set_option maxRecDepth 1000000
noncomputable section
abbrev cL:=List (Nat×DFn TL)
abbrev sL:=List (Nat×SFn TL)
def cZ:cL:=[]
def sZ:sL:=[]
abbrev kI:Cod (X TL) Int:=Cod.xs (Cod.sc (Cod.im (Cod.int .i64)))
abbrev kB:Cod (X TL) Bool:=Cod.xs (Cod.sc (Cod.im Cod.bool))
abbrev kD:Cod (C TL) Bool:=Cod.im Cod.bool
abbrev kE:Cod (C TL) ByteArray:=Cod.im Cod.str
abbrev kR {T:Type}(i:Nat)(e:TypeId)(j:Cod.Inj TL T):=Cod.arr i e j
abbrev kA (i:Nat):Cod (C TL) Unit:=Cod.ar i
abbrev kO {α β γ:Type}(c:Cod α β)(f:β→γ)(g:γ→β)(h:∀ b,g (f b)=b):=Cod.iso c f g h
abbrev kS {β γ:Type}(n:Nat)(a:Cod (List (X TL)) β)(b:Cod (List (Nat×En TL)) γ):=Cod.cst n a b
abbrev kT:=Cod (Cst TL)
abbrev kF {T:Type}(j:Cod.Inj TL T):Cod (X TL) T:=Cod.xs (Cod.sc (Cod.im (Cod.fz j)))
abbrev kG {T:Type}(j:Cod.Inj TL T):Cod (C TL) T:=Cod.im (Cod.fz j)
abbrev kP (a b:Nat):Cod (X TL) Unit:=Cod.xs (Cod.sc (Cod.ptr a b))
abbrev kJ:Cod (C TL) Int:=Cod.im (Cod.int .i64)
abbrev kC {α β γ:Type}(c:Cod α β)(d:Cod (List α) γ):=Cod.cons c d
abbrev kN {α:Type}:Cod (List α) Unit:=Cod.nil
abbrev dI:DT TL Int:=DT.one (DI.int .i64)
abbrev dB:DT TL Bool:=DT.one DI.bool
def DRun (cs:cL)(ss:sL)(E:Env)(f:FuncId){X Y:Type}(a:DA TL X)(u:X→Option Y)(r:DA TL Y):Prop:=∀ x,Out.run (mkO cs ss) (evOrc E 12 20 f (a.enc x)) r.dec=u x
theorem dok {P:Program}{cs:cL}{ss:sL}{E:Env}{f:FuncId}{kd:OrcKind}{X Y:Type}{a:DA TL X}{u:X→Option Y}{r:DA TL Y}(h:DRun cs ss E f a u r)(hE:EnvOK P (mkD cs ss) E)(hk:kd=.keep∨kd=.pure)(hen:Enters P f):DOK P f kd (DFn.of a u r):=data_of hE hk hen a u r h
theorem lC {P:Program}{nt:Nat}{q:LoopA}{b:Code}{d:SFn TL}{cs:cL}{ss:sL}(h:LoopOK P (oneS d) nt q b)(hd:lookU ss q.sid=some d):LoopOK P (mkD cs ss) nt q b:=LoopOK.cast h hd
theorem oD {P:Program}{cs:cL}{ss:sL}{f:Nat}{k:OrcKind}{d:DFn TL}(h:DOK P f k d)(hd:lookU cs f=some d):OGood P cs ss (f,k):=okD hd h
theorem aN {α:Type}{p:α→Prop}:∀ x∈([]:List α),p x:=all_nil
theorem aC {α:Type}{p:α→Prop}{a:α}{l:List α}(h:p a)(t:∀ x∈l,p x):∀ x∈a::l,p x:=all_cons h t
abbrev PR:=Try.prog
def A3Bool.sel (c:Bool)(a b:A3Bool):A3Bool:=A3Bool.mk (cond c a.a0 b.a0) (cond c a.a1 b.a1) (cond c a.a2 b.a2)
def A3Int.sel (c:Bool)(a b:A3Int):A3Int:=A3Int.mk (cond c a.a0 b.a0) (cond c a.a1 b.a1) (cond c a.a2 b.a2)
def Node.sel (c:Bool)(a b:Node):Node:=Node.mk (cond c a.id_ b.id_) (cond c a.term_ b.term_) (cond c a.vote b.vote) (cond c a.base b.base) (cond c a.baseTerm b.baseTerm) (cond c a.snap b.snap) (cond c a.log b.log) (cond c a.role b.role) (cond c a.commit b.commit) (cond c a.wait b.wait) (A3Bool.sel c a.votes b.votes) (A3Int.sel c a.next b.next) (A3Int.sel c a.match_ b.match_)
def within (i1:Int)(i2:Int):Option Int :=
 cond (decide (i2=0))
 none
 (some (cond (decide ((i1.tmod i2) < 0)) (w64 ((i1.tmod i2)+i2)) (i1.tmod i2)))
def un_within (p:Int×Int):Option Int:=within p.1 p.2
def df_within:DFn TL:=DFn.of (DA.cons dI (DA.one dI)) un_within (DA.one dI)
theorem run_within:DRun [] [] (envOf tab sl sh [(11,fd11)] []) 11 (DA.cons dI (DA.one dI)) un_within (DA.one dI):=fun _=>by kernel_rfl
theorem ok_within:DOK PR 11 .pure df_within:=dok run_within (envOK_of base (aC (st11.okl rfl aN) aN) aN) (.inr rfl) st11.enters
def own (l1:List Entry):Option ((List Entry)) :=
 cond (decide (0≤(l1.length:Int)))
 (cond (fits (((l1.length:Int)).toNat))
 (some ((l1.take (Nat.min l1.length ((List.replicate (((l1.length:Int)).toNat) (Entry.mk 0 s_empty)).length)))++(((List.replicate (((l1.length:Int)).toNat) (Entry.mk 0 s_empty)).take ((List.replicate (((l1.length:Int)).toNat) (Entry.mk 0 s_empty)).length)).drop (Nat.min l1.length ((List.replicate (((l1.length:Int)).toNat) (Entry.mk 0 s_empty)).length)))))
 none)
 none
def un_own (p:(List Entry)):Option ((List Entry)):=own p
def df_own:DFn TL:=⟨(List Entry),(List Entry),(DA.one (DT.one di_lEntry):DA TL ((List Entry))).dec,un_own,fun l=>[.c (.im (.fz (j_lEntry.put l)))]⟩
def env_own:Env:=envOf tab sl sh [(35,fd35)] []
theorem env_own_ok:EnvOK PR (mkD cZ sZ) env_own:=envOK_of base (aC (st35.okl rfl aN) aN) aN
theorem run_own (x:(List Entry)):Out.run (mkO cZ sZ) (evFresh env_own 12 20 35 32 ((DA.one (DT.one di_lEntry):DA TL ((List Entry))).enc x)) j_lEntry.un=un_own x:=by kernel_rfl
theorem ok_own:DOK PR 35 (.fresh 32) df_own:=fresh_of env_own_ok (loops:=12) (n:=20) st35.enters (DA.one (DT.one di_lEntry)) un_own j_lEntry run_own
def last_ (n1:Node):Option (Int×Int) :=
 cond (cond (decide ((w64 ((w64 ((w64 (n1.base+(n1.log.length:Int))) - n1.base)) - 1))≥0)) (decide ((w64 ((w64 ((w64 (n1.base+(n1.log.length:Int))) - n1.base)) - 1)) < (n1.log.length:Int))) false)
 (cond (decide (0≤(w64 ((w64 ((w64 (n1.base+(n1.log.length:Int))) - n1.base)) - 1))))
 (ob (n1.log[((w64 ((w64 ((w64 (n1.base+(n1.log.length:Int))) - n1.base)) - 1))).toNat]?) fun e0 =>
 some ((w64 (n1.base+(n1.log.length:Int))),e0.term_))
 none)
 (some ((w64 (n1.base+(n1.log.length:Int))),n1.baseTerm))
def un_last_ (p:Node):Option (Int×Int):=last_ p
def df_last_:DFn TL:=DFn.of (DA.one (DT.agg dc_Node)) un_last_ (DA.cons dI (DA.one dI))
theorem run_last_:DRun [] [] (envOf tab sl sh [(12,fd12),(23,fd23)] []) 12 (DA.one (DT.agg dc_Node)) un_last_ (DA.cons dI (DA.one dI)):=fun _=>by kernel_rfl
theorem ok_last_:DOK PR 12 .pure df_last_:=dok run_last_ (envOK_of base (aC (st12.okl rfl aN) (aC (st23.okl rfl aN) aN)) aN) (.inr rfl) st12.enters
abbrev tY0:=(List Entry)×(List Entry)×Bool×Int×Int
def step_L34_4 (l1:List Entry)(l2:List Entry)(b1:Bool)(i1:Int)(i2:Int):Option ((tY0)⊕(((Bool)⊕(Bool)))) :=
 cond (decide (i2 < i1))
 (cond (decide (0≤i2))
 (ob (l1[i2.toNat]?) fun e0 =>
 cond (decide (0≤i2))
 (ob (l2[i2.toNat]?) fun e1 =>
 cond (!(cond (e0.term_ == e1.term_) (cond (sEq e0.cmd e1.cmd) true false) false))
 (some (.inr (.inr false)))
 (some (.inl (l1,l2,b1,i1,(w64 (i2+1))))))
 none)
 none)
 (some (.inr (.inl b1)))
def stp_L34_4 (p:tY0):Option ((tY0)⊕(((Bool)⊕(Bool)))):=step_L34_4 p.1 p.2.1 p.2.2.1 p.2.2.2.1 p.2.2.2.2
def L34_4 (l1:List Entry)(l2:List Entry)(b1:Bool)(i1:Int)(i2:Int):Option (((Bool)⊕(Bool))):=iterO stp_L34_4 ((i1 - i2).toNat+2) (l1,l2,b1,i1,i2)
def ch_L34_4:kT (tY0):=kO (kS 0 (kC (kF j_lEntry) (kC (kF j_lEntry) (kC kB (kC kI (kC kI kN))))) kN) (fun ((z0,z1,z2,z3,z4,_),_)=>(z0,z1,z2,z3,z4)) (fun (x:tY0)=>((x.1,(x.2.1,(x.2.2.1,(x.2.2.2.1,(x.2.2.2.2,()))))),())) (fun _=>rfl)
def co0_L34_4:kT (Bool):=kO (kS 0 (kC kB kN) kN) (fun p=>p.1.1) (fun (x:Bool)=>((x,()),())) (fun _=>rfl)
def sl_L34_4:SFn TL:=SFn.two ch_L34_4.dec (fun p=>L34_4 p.1 p.2.1 p.2.2.1 p.2.2.2.1 p.2.2.2.2) (.exit 0) .ret co0_L34_4.enc co0_L34_4.enc
def v_L34_4:Env:=envOf tab sl sh [] []
theorem v_L34_4_ok:EnvOK PR (mkD cZ sZ) v_L34_4:=envOK_of base aN aN
theorem run_L34_4 (x:tY0):Out.run (mkO cZ sZ) (evRound v_L34_4 12 20 fd34.an q_L34_4 (loopIn (loopsOf fd34.body) 4) (ch_L34_4.enc x)) (back2 ch_L34_4 co0_L34_4 co0_L34_4 (.exit 0) .ret)=stp_L34_4 x:=by kernel_rfl
theorem ok_L34_4:LoopOK PR (oneS sl_L34_4) nt34 q_L34_4 (loopIn (loopsOf fd34.body) 4) :=
  loop_two v_L34_4_ok (loops:=12) (k:=20) (an:=fd34.an) (by kernel_rfl) (FnSt.subl rfl st34.keys (aC (.inl (by kernel_rfl)) aN)) ch_L34_4 co0_L34_4 co0_L34_4 (.exit 0) .ret rfl rfl stp_L34_4 _ run_L34_4 (fun x y h=>⟨_,h⟩) (fun _=>below_iff.1 rfl)
def equalEntries (l1:List Entry)(l2:List Entry):Option Bool :=
 cond ((l1.length:Int) != (l2.length:Int))
 (some false)
 (ob (L34_4 l1 l2 false (l1.length:Int) 0) fun y0 =>
 two y0 (fun _ =>
 some true) (fun b2 =>
 some b2))
def un_equalEntries (p:(List Entry)×(List Entry)):Option Bool:=equalEntries p.1 p.2
def df_equalEntries:DFn TL:=DFn.of (DA.cons (DT.one di_lEntry) (DA.one (DT.one di_lEntry))) un_equalEntries (DA.one dB)
theorem run_equalEntries:DRun [] [(134004,sl_L34_4)] (envOf tab sl sh [(34,fd34)] []) 34 (DA.cons (DT.one di_lEntry) (DA.one (DT.one di_lEntry))) un_equalEntries (DA.one dB):=fun _=>by kernel_rfl
theorem ok_equalEntries:DOK PR 34 .pure df_equalEntries:=dok run_equalEntries (envOK_of base (aC (st34.okl rfl (aC (lC ok_L34_4 rfl) aN)) aN) aN) (.inr rfl) st34.enters
def same (n1:Node)(n2:Node):Option Bool :=
 cond (n1.id_ == n2.id_)
 (cond (n1.term_ == n2.term_)
 (cond (n1.vote == n2.vote)
 (cond (n1.base == n2.base)
 (cond (n1.baseTerm == n2.baseTerm)
 (cond (sEq n1.snap n2.snap)
 (ob (equalEntries n1.log n2.log) fun r0 =>
 some (cond r0 (cond (n1.role == n2.role) (cond (n1.commit == n2.commit) (cond (n1.wait == n2.wait) (cond (cond (n1.votes.a0 == n2.votes.a0) (cond (n1.votes.a1 == n2.votes.a1) (cond (n1.votes.a2 == n2.votes.a2) true false) false) false) (cond (cond (n1.next.a0 == n2.next.a0) (cond (n1.next.a1 == n2.next.a1) (cond (n1.next.a2 == n2.next.a2) true false) false) false) (cond (n1.match_.a0 == n2.match_.a0) (cond (n1.match_.a1 == n2.match_.a1) (cond (n1.match_.a2 == n2.match_.a2) true false) false) false) false) false) false) false) false) false))
 (some false))
 (some false))
 (some false))
 (some false))
 (some false))
 (some false)
def un_same (p:Node×Node):Option Bool:=same p.1 p.2
def df_same:DFn TL:=DFn.of (DA.cons (DT.agg dc_Node) (DA.one (DT.agg dc_Node))) un_same (DA.one dB)
theorem run_same:DRun [(34,df_equalEntries)] [] (envOf tab sl sh [(16,fd16)] [(34,.pure)]) 16 (DA.cons (DT.agg dc_Node) (DA.one (DT.agg dc_Node))) un_same (DA.one dB):=fun _=>by kernel_rfl
theorem ok_same:DOK PR 16 .pure df_same:=dok run_same (envOK_of base (aC (st16.okl rfl aN) aN) (aC (oD ok_equalEntries rfl) aN)) (.inr rfl) st16.enters
def send (i1:Int)(m1:Msg)(w1:Worker):Option Worker :=
 cond (fits ((w1.out++[(Msg.mk m1.kind w1.node.id_ i1 w1.node.term_ m1.index m1.logTerm m1.commit m1.yes m1.entries m1.snap)]).length))
 (some (Worker.mk w1.node (w1.out++[(Msg.mk m1.kind w1.node.id_ i1 w1.node.term_ m1.index m1.logTerm m1.commit m1.yes m1.entries m1.snap)])))
 none
def cc_Msg:Cod (List (C TL)) Msg:=kO (kC kJ (kC kJ (kC kJ (kC kJ (kC kJ (kC kJ (kC kJ (kC kD (kC (kG j_lEntry) (kC kE kN)))))))))) (fun p=>(Msg.mk p.1 p.2.1 p.2.2.1 p.2.2.2.1 p.2.2.2.2.1 p.2.2.2.2.2.1 p.2.2.2.2.2.2.1 p.2.2.2.2.2.2.2.1 (t8 p).1 (t8 p).2.1)) (fun (x:Msg)=>(x.kind,(x.from_,(x.to_,(x.term_,(x.index,(x.logTerm,(x.commit,(x.yes,(x.entries,(x.snap,()))))))))))) (fun _=>rfl)
def hc0_Worker:Cod (List (Nat×En TL)) Worker:=kO (kC (Cod.var 0 68 (kC kJ (kC kJ (kC kJ (kC kJ (kC kJ (kC kE (kC (kG j_lEntry) (kC kJ (kC kJ (kC kJ (kC kD (kC kD (kC kD (kC kJ (kC kJ (kC kJ (kC kJ (kC kJ (kC kJ (kC (kA 1) kN))))))))))))))))))))) (kC (kR 1 39 j_lMsg) kN)) (fun p=>(Worker.mk (Node.mk p.1.1 p.1.2.1 p.1.2.2.1 p.1.2.2.2.1 p.1.2.2.2.2.1 p.1.2.2.2.2.2.1 p.1.2.2.2.2.2.2.1 p.1.2.2.2.2.2.2.2.1 (t8 p.1).1 (t8 p.1).2.1 (A3Bool.mk (t8 p.1).2.2.1 (t8 p.1).2.2.2.1 (t8 p.1).2.2.2.2.1) (A3Int.mk (t8 p.1).2.2.2.2.2.1 (t8 p.1).2.2.2.2.2.2.1 (t8 p.1).2.2.2.2.2.2.2.1) (A3Int.mk (t8 (t8 p.1)).1 (t8 (t8 p.1)).2.1 (t8 (t8 p.1)).2.2.1)) p.2.1)) (fun (x:Worker)=>((x.node.id_,(x.node.term_,(x.node.vote,(x.node.base,(x.node.baseTerm,(x.node.snap,(x.node.log,(x.node.role,(x.node.commit,(x.node.wait,(x.node.votes.a0,(x.node.votes.a1,(x.node.votes.a2,(x.node.next.a0,(x.node.next.a1,(x.node.next.a2,(x.node.match_.a0,(x.node.match_.a1,(x.node.match_.a2,((),())))))))))))))))))))),(x.out,()))) (fun _=>rfl)
def ch_send:kT (Int×Msg×Worker):=kO (kS 2 (kC (kP 0 0) (kC kI (kC (Cod.xs (Cod.sa cc_Msg)) kN))) hc0_Worker) (fun p=>(p.1.2.1,p.1.2.2.1,p.2)) (fun (x:Int×Msg×Worker)=>(((),(x.1,(x.2.1,()))),x.2.2)) (fun _=>rfl)
def hc1_Worker:Cod (List (Nat×En TL)) Worker:=kO (kC (Cod.var 0 68 (kC kJ (kC kJ (kC kJ (kC kJ (kC kJ (kC kE (kC (kG j_lEntry) (kC kJ (kC kJ (kC kJ (kC kD (kC kD (kC kD (kC kJ (kC kJ (kC kJ (kC kJ (kC kJ (kC kJ (kC (kA 4) kN))))))))))))))))))))) (kC (Cod.dead 1) (kC (kR 4 39 j_lMsg) kN))) (fun p=>(Worker.mk (Node.mk p.1.1 p.1.2.1 p.1.2.2.1 p.1.2.2.2.1 p.1.2.2.2.2.1 p.1.2.2.2.2.2.1 p.1.2.2.2.2.2.2.1 p.1.2.2.2.2.2.2.2.1 (t8 p.1).1 (t8 p.1).2.1 (A3Bool.mk (t8 p.1).2.2.1 (t8 p.1).2.2.2.1 (t8 p.1).2.2.2.2.1) (A3Int.mk (t8 p.1).2.2.2.2.2.1 (t8 p.1).2.2.2.2.2.2.1 (t8 p.1).2.2.2.2.2.2.2.1) (A3Int.mk (t8 (t8 p.1)).1 (t8 (t8 p.1)).2.1 (t8 (t8 p.1)).2.2.1)) p.2.2.1)) (fun (x:Worker)=>((x.node.id_,(x.node.term_,(x.node.vote,(x.node.base,(x.node.baseTerm,(x.node.snap,(x.node.log,(x.node.role,(x.node.commit,(x.node.wait,(x.node.votes.a0,(x.node.votes.a1,(x.node.votes.a2,(x.node.next.a0,(x.node.next.a1,(x.node.next.a2,(x.node.match_.a0,(x.node.match_.a1,(x.node.match_.a2,((),())))))))))))))))))))),((),(x.out,())))) (fun _=>rfl)
def co_send:kT (Worker):=kO (kS 5 (kC (Cod.xt kN) kN) hc1_Worker) (fun p=>p.2) (fun (x:Worker)=>(((),()),x)) (fun _=>rfl)
def un_send (p:Int×Msg×Worker):Option Worker:=send p.1 p.2.1 p.2.2
def sf_send:SFn TL:=SFn.one ch_send.dec un_send .normal co_send.enc
def env_send:Env:=envOf tab sl sh [(46,fd46)] []
theorem env_send_ok:EnvOK PR (mkD cZ sZ) env_send:=envOK_of base (aC (st46.okl rfl aN) aN) aN
theorem run_send (x:Int×Msg×Worker):Out.run (mkO cZ sZ) (evSum env_send 12 20 46 (ch_send.enc x)) (back1 co_send)=un_send x:=by kernel_rfl
theorem ok_send:SOK PR 46 sf_send:=sum_one env_send_ok (loops:=12) (n:=20) st46.enters ch_send co_send un_send run_send
def owe (i1:Int)(w1:Worker):Option Worker :=
 cond (decide (0≤i1) && decide (i1 < 3))
 (cond (decide ((cond (decide (i1=0)) w1.node.next.a0 (cond (decide (i1=1)) w1.node.next.a1 w1.node.next.a2))≤w1.node.base))
 (ob (send i1 (Msg.mk 5 0 0 0 w1.node.base w1.node.baseTerm 0 false [] w1.node.snap) w1) fun y0 =>
 some y0)
 (cond (decide (0≤i1) && decide (i1 < 3))
 (cond (decide (0≤(min2 (w64 ((w64 ((cond (decide (i1=0)) w1.node.next.a0 (cond (decide (i1=1)) w1.node.next.a1 w1.node.next.a2)) - 1)) - w1.node.base)) (w1.node.log.length:Int))))
 (cond (decide ((min2 (w64 ((w64 ((cond (decide (i1=0)) w1.node.next.a0 (cond (decide (i1=1)) w1.node.next.a1 w1.node.next.a2)) - 1)) - w1.node.base)) (w1.node.log.length:Int))≤(w1.node.log.length:Int)))
 (cond (decide ((w1.node.log.length:Int)≤(w1.node.log.length:Int)))
 (cond (cond (decide ((w64 ((w64 ((w64 ((cond (decide (i1=0)) w1.node.next.a0 (cond (decide (i1=1)) w1.node.next.a1 w1.node.next.a2)) - 1)) - w1.node.base)) - 1))≥0)) (decide ((w64 ((w64 ((w64 ((cond (decide (i1=0)) w1.node.next.a0 (cond (decide (i1=1)) w1.node.next.a1 w1.node.next.a2)) - 1)) - w1.node.base)) - 1)) < (w1.node.log.length:Int))) false)
 (cond (decide (0≤(w64 ((w64 ((w64 ((cond (decide (i1=0)) w1.node.next.a0 (cond (decide (i1=1)) w1.node.next.a1 w1.node.next.a2)) - 1)) - w1.node.base)) - 1))))
 (ob (w1.node.log[((w64 ((w64 ((w64 ((cond (decide (i1=0)) w1.node.next.a0 (cond (decide (i1=1)) w1.node.next.a1 w1.node.next.a2)) - 1)) - w1.node.base)) - 1))).toNat]?) fun e1 =>
 cond (decide (0≤(min2 (((w1.node.log.take (((w1.node.log.length:Int)).toNat)).drop (((min2 (w64 ((w64 ((cond (decide (i1=0)) w1.node.next.a0 (cond (decide (i1=1)) w1.node.next.a1 w1.node.next.a2)) - 1)) - w1.node.base)) (w1.node.log.length:Int))).toNat)).length:Int) 8)))
 (cond (decide ((min2 (((w1.node.log.take (((w1.node.log.length:Int)).toNat)).drop (((min2 (w64 ((w64 ((cond (decide (i1=0)) w1.node.next.a0 (cond (decide (i1=1)) w1.node.next.a1 w1.node.next.a2)) - 1)) - w1.node.base)) (w1.node.log.length:Int))).toNat)).length:Int) 8)≤(((w1.node.log.take (((w1.node.log.length:Int)).toNat)).drop (((min2 (w64 ((w64 ((cond (decide (i1=0)) w1.node.next.a0 (cond (decide (i1=1)) w1.node.next.a1 w1.node.next.a2)) - 1)) - w1.node.base)) (w1.node.log.length:Int))).toNat)).length:Int)))
 (ob (own (((w1.node.log.take (((w1.node.log.length:Int)).toNat)).drop (((min2 (w64 ((w64 ((cond (decide (i1=0)) w1.node.next.a0 (cond (decide (i1=1)) w1.node.next.a1 w1.node.next.a2)) - 1)) - w1.node.base)) (w1.node.log.length:Int))).toNat)).take (((min2 (((w1.node.log.take (((w1.node.log.length:Int)).toNat)).drop (((min2 (w64 ((w64 ((cond (decide (i1=0)) w1.node.next.a0 (cond (decide (i1=1)) w1.node.next.a1 w1.node.next.a2)) - 1)) - w1.node.base)) (w1.node.log.length:Int))).toNat)).length:Int) 8)).toNat))) fun r2 =>
 ob (send i1 (Msg.mk 3 0 0 0 (w64 ((cond (decide (i1=0)) w1.node.next.a0 (cond (decide (i1=1)) w1.node.next.a1 w1.node.next.a2)) - 1)) e1.term_ w1.node.commit false r2 s_empty) w1) fun y3 =>
 some y3)
 none)
 none)
 none)
 (cond (decide (0≤(min2 (((w1.node.log.take (((w1.node.log.length:Int)).toNat)).drop (((min2 (w64 ((w64 ((cond (decide (i1=0)) w1.node.next.a0 (cond (decide (i1=1)) w1.node.next.a1 w1.node.next.a2)) - 1)) - w1.node.base)) (w1.node.log.length:Int))).toNat)).length:Int) 8)))
 (cond (decide ((min2 (((w1.node.log.take (((w1.node.log.length:Int)).toNat)).drop (((min2 (w64 ((w64 ((cond (decide (i1=0)) w1.node.next.a0 (cond (decide (i1=1)) w1.node.next.a1 w1.node.next.a2)) - 1)) - w1.node.base)) (w1.node.log.length:Int))).toNat)).length:Int) 8)≤(((w1.node.log.take (((w1.node.log.length:Int)).toNat)).drop (((min2 (w64 ((w64 ((cond (decide (i1=0)) w1.node.next.a0 (cond (decide (i1=1)) w1.node.next.a1 w1.node.next.a2)) - 1)) - w1.node.base)) (w1.node.log.length:Int))).toNat)).length:Int)))
 (ob (own (((w1.node.log.take (((w1.node.log.length:Int)).toNat)).drop (((min2 (w64 ((w64 ((cond (decide (i1=0)) w1.node.next.a0 (cond (decide (i1=1)) w1.node.next.a1 w1.node.next.a2)) - 1)) - w1.node.base)) (w1.node.log.length:Int))).toNat)).take (((min2 (((w1.node.log.take (((w1.node.log.length:Int)).toNat)).drop (((min2 (w64 ((w64 ((cond (decide (i1=0)) w1.node.next.a0 (cond (decide (i1=1)) w1.node.next.a1 w1.node.next.a2)) - 1)) - w1.node.base)) (w1.node.log.length:Int))).toNat)).length:Int) 8)).toNat))) fun r4 =>
 ob (send i1 (Msg.mk 3 0 0 0 (w64 ((cond (decide (i1=0)) w1.node.next.a0 (cond (decide (i1=1)) w1.node.next.a1 w1.node.next.a2)) - 1)) w1.node.baseTerm w1.node.commit false r4 s_empty) w1) fun y5 =>
 some y5)
 none)
 none))
 none)
 none)
 none)
 none))
 none
def ch_owe:kT (Int×Worker):=kO (kS 2 (kC (kP 0 0) (kC kI kN)) hc0_Worker) (fun p=>(p.1.2.1,p.2)) (fun (x:Int×Worker)=>(((),(x.1,())),x.2)) (fun _=>rfl)
def un_owe (p:Int×Worker):Option Worker:=owe p.1 p.2
def sf_owe:SFn TL:=SFn.one ch_owe.dec un_owe .normal co_send.enc
def cs_owe:cL:=[(35,df_own)]
def ss_owe:sL:=[(46,sf_send)]
def env_owe:Env:=envOf tab sl sh [(32,fd32),(23,fd23)] [(46,.sum),(35,(.fresh 32))]
theorem env_owe_ok:EnvOK PR (mkD cs_owe ss_owe) env_owe:=envOK_of base (aC (st32.okl rfl aN) (aC (st23.okl rfl aN) aN)) (aC (okS rfl ok_send) (aC (oD ok_own rfl) aN))
theorem run_owe (x:Int×Worker):Out.run (mkO cs_owe ss_owe) (evSum env_owe 12 20 32 (ch_owe.enc x)) (back1 co_send)=un_owe x:=by kernel_rfl
theorem ok_owe:SOK PR 32 sf_owe:=sum_one env_owe_ok (loops:=12) (n:=20) st32.enters ch_owe co_send un_owe run_owe
def stand (w1:Worker):Option Worker :=
 cond (decide (0≤w1.node.id_) && decide (w1.node.id_ < 3))
 (ob (last_ (Node.mk w1.node.id_ (w64 (w1.node.term_+1)) w1.node.id_ w1.node.base w1.node.baseTerm w1.node.snap w1.node.log 1 w1.node.commit 0 (A3Bool.mk (cond (decide (w1.node.id_=0)) true false) (cond (decide (w1.node.id_=1)) true false) (cond (decide (w1.node.id_=2)) true false)) w1.node.next w1.node.match_)) fun r0 =>
 cond (0 != w1.node.id_)
 (ob (send 0 (Msg.mk 1 0 0 0 r0.1 r0.2 0 false [] s_empty) (Worker.mk (Node.mk w1.node.id_ (w64 (w1.node.term_+1)) w1.node.id_ w1.node.base w1.node.baseTerm w1.node.snap w1.node.log 1 w1.node.commit 0 (A3Bool.mk (cond (decide (w1.node.id_=0)) true false) (cond (decide (w1.node.id_=1)) true false) (cond (decide (w1.node.id_=2)) true false)) w1.node.next w1.node.match_) w1.out)) fun y1 =>
 cond (1 != y1.node.id_)
 (ob (send 1 (Msg.mk 1 0 0 0 r0.1 r0.2 0 false [] s_empty) y1) fun y2 =>
 cond (2 != y2.node.id_)
 (ob (send 2 (Msg.mk 1 0 0 0 r0.1 r0.2 0 false [] s_empty) y2) fun y3 =>
 some y3)
 (some y2))
 (cond (2 != y1.node.id_)
 (ob (send 2 (Msg.mk 1 0 0 0 r0.1 r0.2 0 false [] s_empty) y1) fun y4 =>
 some y4)
 (some y1)))
 (cond (1 != w1.node.id_)
 (ob (send 1 (Msg.mk 1 0 0 0 r0.1 r0.2 0 false [] s_empty) (Worker.mk (Node.mk w1.node.id_ (w64 (w1.node.term_+1)) w1.node.id_ w1.node.base w1.node.baseTerm w1.node.snap w1.node.log 1 w1.node.commit 0 (A3Bool.mk (cond (decide (w1.node.id_=0)) true false) (cond (decide (w1.node.id_=1)) true false) (cond (decide (w1.node.id_=2)) true false)) w1.node.next w1.node.match_) w1.out)) fun y5 =>
 cond (2 != y5.node.id_)
 (ob (send 2 (Msg.mk 1 0 0 0 r0.1 r0.2 0 false [] s_empty) y5) fun y6 =>
 some y6)
 (some y5))
 (cond (2 != w1.node.id_)
 (ob (send 2 (Msg.mk 1 0 0 0 r0.1 r0.2 0 false [] s_empty) (Worker.mk (Node.mk w1.node.id_ (w64 (w1.node.term_+1)) w1.node.id_ w1.node.base w1.node.baseTerm w1.node.snap w1.node.log 1 w1.node.commit 0 (A3Bool.mk (cond (decide (w1.node.id_=0)) true false) (cond (decide (w1.node.id_=1)) true false) (cond (decide (w1.node.id_=2)) true false)) w1.node.next w1.node.match_) w1.out)) fun y7 =>
 some y7)
 (some (Worker.mk (Node.mk w1.node.id_ (w64 (w1.node.term_+1)) w1.node.id_ w1.node.base w1.node.baseTerm w1.node.snap w1.node.log 1 w1.node.commit 0 (A3Bool.mk (cond (decide (w1.node.id_=0)) true false) (cond (decide (w1.node.id_=1)) true false) (cond (decide (w1.node.id_=2)) true false)) w1.node.next w1.node.match_) w1.out)))))
 none
def ch_stand:kT (Worker):=kO (kS 2 (kC (kP 0 0) kN) hc0_Worker) (fun p=>p.2) (fun (x:Worker)=>(((),()),x)) (fun _=>rfl)
def un_stand (p:Worker):Option Worker:=stand p
def sf_stand:SFn TL:=SFn.one ch_stand.dec un_stand .normal co_send.enc
def cs_stand:cL:=[(12,df_last_)]
def ss_stand:sL:=[(46,sf_send)]
def env_stand:Env:=envOf tab sl sh [(33,fd33),(31,fd31),(49,fd49)] [(12,.pure),(46,.sum)]
theorem env_stand_ok:EnvOK PR (mkD cs_stand ss_stand) env_stand:=envOK_of base (aC (st33.okl rfl aN) (aC (st31.okl rfl aN) (aC (st49.okl rfl aN) aN))) (aC (oD ok_last_ rfl) (aC (okS rfl ok_send) aN))
theorem run_stand (x:Worker):Out.run (mkO cs_stand ss_stand) (evSum env_stand 12 20 33 (ch_stand.enc x)) (back1 co_send)=un_stand x:=by kernel_rfl
theorem ok_stand:SOK PR 33 sf_stand:=sum_one env_stand_ok (loops:=12) (n:=20) st33.enters ch_stand co_send un_stand run_stand
def tick (n1:Node):Option (Node×(List Msg)) :=
 ob (own n1.log) fun r0 =>
 cond (n1.role == 2)
 (cond (0 != n1.id_)
 (ob (owe 0 (Worker.mk (Node.mk n1.id_ n1.term_ n1.vote n1.base n1.baseTerm n1.snap r0 n1.role n1.commit n1.wait n1.votes n1.next n1.match_) [])) fun y1 =>
 cond (1 != y1.node.id_)
 (ob (owe 1 y1) fun y2 =>
 cond (2 != y2.node.id_)
 (ob (owe 2 y2) fun y3 =>
 ob (own y3.node.log) fun r8 =>
 some ((Node.mk y3.node.id_ y3.node.term_ y3.node.vote y3.node.base y3.node.baseTerm y3.node.snap r8 y3.node.role y3.node.commit y3.node.wait y3.node.votes y3.node.next y3.node.match_),y3.out))
 (ob (own y2.node.log) fun r9 =>
 some ((Node.mk y2.node.id_ y2.node.term_ y2.node.vote y2.node.base y2.node.baseTerm y2.node.snap r9 y2.node.role y2.node.commit y2.node.wait y2.node.votes y2.node.next y2.node.match_),y2.out)))
 (cond (2 != y1.node.id_)
 (ob (owe 2 y1) fun y4 =>
 ob (own y4.node.log) fun r10 =>
 some ((Node.mk y4.node.id_ y4.node.term_ y4.node.vote y4.node.base y4.node.baseTerm y4.node.snap r10 y4.node.role y4.node.commit y4.node.wait y4.node.votes y4.node.next y4.node.match_),y4.out))
 (ob (own y1.node.log) fun r11 =>
 some ((Node.mk y1.node.id_ y1.node.term_ y1.node.vote y1.node.base y1.node.baseTerm y1.node.snap r11 y1.node.role y1.node.commit y1.node.wait y1.node.votes y1.node.next y1.node.match_),y1.out))))
 (cond (1 != n1.id_)
 (ob (owe 1 (Worker.mk (Node.mk n1.id_ n1.term_ n1.vote n1.base n1.baseTerm n1.snap r0 n1.role n1.commit n1.wait n1.votes n1.next n1.match_) [])) fun y5 =>
 cond (2 != y5.node.id_)
 (ob (owe 2 y5) fun y6 =>
 ob (own y6.node.log) fun r12 =>
 some ((Node.mk y6.node.id_ y6.node.term_ y6.node.vote y6.node.base y6.node.baseTerm y6.node.snap r12 y6.node.role y6.node.commit y6.node.wait y6.node.votes y6.node.next y6.node.match_),y6.out))
 (ob (own y5.node.log) fun r13 =>
 some ((Node.mk y5.node.id_ y5.node.term_ y5.node.vote y5.node.base y5.node.baseTerm y5.node.snap r13 y5.node.role y5.node.commit y5.node.wait y5.node.votes y5.node.next y5.node.match_),y5.out)))
 (cond (2 != n1.id_)
 (ob (owe 2 (Worker.mk (Node.mk n1.id_ n1.term_ n1.vote n1.base n1.baseTerm n1.snap r0 n1.role n1.commit n1.wait n1.votes n1.next n1.match_) [])) fun y7 =>
 ob (own y7.node.log) fun r14 =>
 some ((Node.mk y7.node.id_ y7.node.term_ y7.node.vote y7.node.base y7.node.baseTerm y7.node.snap r14 y7.node.role y7.node.commit y7.node.wait y7.node.votes y7.node.next y7.node.match_),y7.out))
 (ob (own r0) fun r15 =>
 some ((Node.mk n1.id_ n1.term_ n1.vote n1.base n1.baseTerm n1.snap r15 n1.role n1.commit n1.wait n1.votes n1.next n1.match_),[])))))
 (cond (cond (decide ((w64 (n1.wait+1))≥(w64 (5+(w64 (3 * n1.id_)))))) (decide (n1.term_ < 1073741824)) false)
 (ob (stand (Worker.mk (Node.mk n1.id_ n1.term_ n1.vote n1.base n1.baseTerm n1.snap r0 n1.role n1.commit (w64 (n1.wait+1)) n1.votes n1.next n1.match_) [])) fun y16 =>
 ob (own y16.node.log) fun r17 =>
 some ((Node.mk y16.node.id_ y16.node.term_ y16.node.vote y16.node.base y16.node.baseTerm y16.node.snap r17 y16.node.role y16.node.commit y16.node.wait y16.node.votes y16.node.next y16.node.match_),y16.out))
 (ob (own r0) fun r18 =>
 some ((Node.mk n1.id_ n1.term_ n1.vote n1.base n1.baseTerm n1.snap r18 n1.role n1.commit (w64 (n1.wait+1)) n1.votes n1.next n1.match_),[])))
def un_tick (p:Node):Option (Node×(List Msg)):=tick p
def df_tick:DFn TL:=DFn.of (DA.one (DT.agg dc_Node)) un_tick (DA.cons (DT.agg dc_Node) (DA.one (DT.one di_lMsg)))
theorem run_tick:DRun [(35,df_own)] [(32,sf_owe),(33,sf_stand)] (envOf tab sl sh [(15,fd15),(24,fd24),(31,fd31),(25,fd25)] [(35,(.fresh 32)),(32,.sum),(33,.sum)]) 15 (DA.one (DT.agg dc_Node)) un_tick (DA.cons (DT.agg dc_Node) (DA.one (DT.one di_lMsg))):=fun _=>by kernel_rfl
theorem ok_tick:DOK PR 15 .keep df_tick:=dok run_tick (envOK_of base (aC (st15.okl rfl aN) (aC (st24.okl rfl aN) (aC (st31.okl rfl aN) (aC (st25.okl rfl aN) aN)))) (aC (oD ok_own rfl) (aC (okS rfl ok_owe) (aC (okS rfl ok_stand) aN)))) (.inl rfl) st15.enters
def vote (m1:Msg)(w1:Worker):Option Worker :=
 ob (last_ w1.node) fun r0 =>
 cond (cond (m1.term_ == w1.node.term_) (cond (w1.node.vote == (-1)) (cond (decide (m1.logTerm > r0.2)) true (cond (m1.logTerm == r0.2) (decide (m1.index≥r0.1)) false)) (cond (w1.node.vote == m1.from_) (cond (decide (m1.logTerm > r0.2)) true (cond (m1.logTerm == r0.2) (decide (m1.index≥r0.1)) false)) false)) false)
 (ob (send m1.from_ (Msg.mk 2 0 0 0 0 0 0 (cond (m1.term_ == w1.node.term_) (cond (w1.node.vote == (-1)) (cond (decide (m1.logTerm > r0.2)) true (cond (m1.logTerm == r0.2) (decide (m1.index≥r0.1)) false)) (cond (w1.node.vote == m1.from_) (cond (decide (m1.logTerm > r0.2)) true (cond (m1.logTerm == r0.2) (decide (m1.index≥r0.1)) false)) false)) false) [] s_empty) (Worker.mk (Node.mk w1.node.id_ w1.node.term_ m1.from_ w1.node.base w1.node.baseTerm w1.node.snap w1.node.log w1.node.role w1.node.commit 0 w1.node.votes w1.node.next w1.node.match_) w1.out)) fun y1 =>
 some y1)
 (ob (send m1.from_ (Msg.mk 2 0 0 0 0 0 0 (cond (m1.term_ == w1.node.term_) (cond (w1.node.vote == (-1)) (cond (decide (m1.logTerm > r0.2)) true (cond (m1.logTerm == r0.2) (decide (m1.index≥r0.1)) false)) (cond (w1.node.vote == m1.from_) (cond (decide (m1.logTerm > r0.2)) true (cond (m1.logTerm == r0.2) (decide (m1.index≥r0.1)) false)) false)) false) [] s_empty) w1) fun y2 =>
 some y2)
def ch_vote:kT (Msg×Worker):=kO (kS 2 (kC (kP 0 0) (kC (Cod.xs (Cod.sa cc_Msg)) kN)) hc0_Worker) (fun p=>(p.1.2.1,p.2)) (fun (x:Msg×Worker)=>(((),(x.1,())),x.2)) (fun _=>rfl)
def un_vote (p:Msg×Worker):Option Worker:=vote p.1 p.2
def sf_vote:SFn TL:=SFn.one ch_vote.dec un_vote .normal co_send.enc
def cs_vote:cL:=[(12,df_last_)]
def ss_vote:sL:=[(46,sf_send)]
def env_vote:Env:=envOf tab sl sh [(26,fd26)] [(12,.pure),(46,.sum)]
theorem env_vote_ok:EnvOK PR (mkD cs_vote ss_vote) env_vote:=envOK_of base (aC (st26.okl rfl aN) aN) (aC (oD ok_last_ rfl) (aC (okS rfl ok_send) aN))
theorem run_vote (x:Msg×Worker):Out.run (mkO cs_vote ss_vote) (evSum env_vote 12 20 26 (ch_vote.enc x)) (back1 co_send)=un_vote x:=by kernel_rfl
theorem ok_vote:SOK PR 26 sf_vote:=sum_one env_vote_ok (loops:=12) (n:=20) st26.enters ch_vote co_send un_vote run_vote
def voted (m1:Msg)(w1:Worker):Option Worker :=
 cond (cond (m1.term_ != w1.node.term_) true (cond (w1.node.role != 1) true (!m1.yes)))
 (some w1)
 (cond (decide (0≤m1.from_) && decide (m1.from_ < 3))
 (cond (decide ((cond (cond (decide (m1.from_=2)) true w1.node.votes.a2) (w64 ((cond (cond (decide (m1.from_=1)) true w1.node.votes.a1) (w64 ((cond (cond (decide (m1.from_=0)) true w1.node.votes.a0) 1 0)+1)) (cond (cond (decide (m1.from_=0)) true w1.node.votes.a0) 1 0))+1)) (cond (cond (decide (m1.from_=1)) true w1.node.votes.a1) (w64 ((cond (cond (decide (m1.from_=0)) true w1.node.votes.a0) 1 0)+1)) (cond (cond (decide (m1.from_=0)) true w1.node.votes.a0) 1 0))) < 2))
 (some (Worker.mk (Node.mk w1.node.id_ w1.node.term_ w1.node.vote w1.node.base w1.node.baseTerm w1.node.snap w1.node.log w1.node.role w1.node.commit w1.node.wait (A3Bool.mk (cond (decide (m1.from_=0)) true w1.node.votes.a0) (cond (decide (m1.from_=1)) true w1.node.votes.a1) (cond (decide (m1.from_=2)) true w1.node.votes.a2)) w1.node.next w1.node.match_) w1.out))
 (cond (fits ((w1.node.log++[(Entry.mk w1.node.term_ s_empty)]).length))
 (ob (last_ (Node.mk w1.node.id_ w1.node.term_ w1.node.vote w1.node.base w1.node.baseTerm w1.node.snap (w1.node.log++[(Entry.mk w1.node.term_ s_empty)]) 2 w1.node.commit w1.node.wait (A3Bool.mk (cond (decide (m1.from_=0)) true w1.node.votes.a0) (cond (decide (m1.from_=1)) true w1.node.votes.a1) (cond (decide (m1.from_=2)) true w1.node.votes.a2)) w1.node.next w1.node.match_)) fun r0 =>
 cond (decide (0≤w1.node.id_) && decide (w1.node.id_ < 3))
 (cond (0 != w1.node.id_)
 (ob (owe 0 (Worker.mk (Node.mk w1.node.id_ w1.node.term_ w1.node.vote w1.node.base w1.node.baseTerm w1.node.snap (w1.node.log++[(Entry.mk w1.node.term_ s_empty)]) 2 w1.node.commit w1.node.wait (A3Bool.mk (cond (decide (m1.from_=0)) true w1.node.votes.a0) (cond (decide (m1.from_=1)) true w1.node.votes.a1) (cond (decide (m1.from_=2)) true w1.node.votes.a2)) (A3Int.mk r0.1 r0.1 r0.1) (A3Int.mk (cond (decide (w1.node.id_=0)) r0.1 0) (cond (decide (w1.node.id_=1)) r0.1 0) (cond (decide (w1.node.id_=2)) r0.1 0))) w1.out)) fun y1 =>
 cond (1 != y1.node.id_)
 (ob (owe 1 y1) fun y2 =>
 cond (2 != y2.node.id_)
 (ob (owe 2 y2) fun y3 =>
 some y3)
 (some y2))
 (cond (2 != y1.node.id_)
 (ob (owe 2 y1) fun y4 =>
 some y4)
 (some y1)))
 (cond (1 != w1.node.id_)
 (ob (owe 1 (Worker.mk (Node.mk w1.node.id_ w1.node.term_ w1.node.vote w1.node.base w1.node.baseTerm w1.node.snap (w1.node.log++[(Entry.mk w1.node.term_ s_empty)]) 2 w1.node.commit w1.node.wait (A3Bool.mk (cond (decide (m1.from_=0)) true w1.node.votes.a0) (cond (decide (m1.from_=1)) true w1.node.votes.a1) (cond (decide (m1.from_=2)) true w1.node.votes.a2)) (A3Int.mk r0.1 r0.1 r0.1) (A3Int.mk (cond (decide (w1.node.id_=0)) r0.1 0) (cond (decide (w1.node.id_=1)) r0.1 0) (cond (decide (w1.node.id_=2)) r0.1 0))) w1.out)) fun y5 =>
 cond (2 != y5.node.id_)
 (ob (owe 2 y5) fun y6 =>
 some y6)
 (some y5))
 (cond (2 != w1.node.id_)
 (ob (owe 2 (Worker.mk (Node.mk w1.node.id_ w1.node.term_ w1.node.vote w1.node.base w1.node.baseTerm w1.node.snap (w1.node.log++[(Entry.mk w1.node.term_ s_empty)]) 2 w1.node.commit w1.node.wait (A3Bool.mk (cond (decide (m1.from_=0)) true w1.node.votes.a0) (cond (decide (m1.from_=1)) true w1.node.votes.a1) (cond (decide (m1.from_=2)) true w1.node.votes.a2)) (A3Int.mk r0.1 r0.1 r0.1) (A3Int.mk (cond (decide (w1.node.id_=0)) r0.1 0) (cond (decide (w1.node.id_=1)) r0.1 0) (cond (decide (w1.node.id_=2)) r0.1 0))) w1.out)) fun y7 =>
 some y7)
 (some (Worker.mk (Node.mk w1.node.id_ w1.node.term_ w1.node.vote w1.node.base w1.node.baseTerm w1.node.snap (w1.node.log++[(Entry.mk w1.node.term_ s_empty)]) 2 w1.node.commit w1.node.wait (A3Bool.mk (cond (decide (m1.from_=0)) true w1.node.votes.a0) (cond (decide (m1.from_=1)) true w1.node.votes.a1) (cond (decide (m1.from_=2)) true w1.node.votes.a2)) (A3Int.mk r0.1 r0.1 r0.1) (A3Int.mk (cond (decide (w1.node.id_=0)) r0.1 0) (cond (decide (w1.node.id_=1)) r0.1 0) (cond (decide (w1.node.id_=2)) r0.1 0))) w1.out)))))
 none)
 none))
 none)
def hc2_Worker:Cod (List (Nat×En TL)) Worker:=kO (kC (Cod.var 0 68 (kC kJ (kC kJ (kC kJ (kC kJ (kC kJ (kC kE (kC (kA 1) (kC kJ (kC kJ (kC kJ (kC kD (kC kD (kC kD (kC kJ (kC kJ (kC kJ (kC kJ (kC kJ (kC kJ (kC (kA 2) kN))))))))))))))))))))) (kC (kR 1 32 j_lEntry) (kC (kR 2 39 j_lMsg) kN))) (fun p=>(Worker.mk (Node.mk p.1.1 p.1.2.1 p.1.2.2.1 p.1.2.2.2.1 p.1.2.2.2.2.1 p.1.2.2.2.2.2.1 p.2.1 p.1.2.2.2.2.2.2.2.1 (t8 p.1).1 (t8 p.1).2.1 (A3Bool.mk (t8 p.1).2.2.1 (t8 p.1).2.2.2.1 (t8 p.1).2.2.2.2.1) (A3Int.mk (t8 p.1).2.2.2.2.2.1 (t8 p.1).2.2.2.2.2.2.1 (t8 p.1).2.2.2.2.2.2.2.1) (A3Int.mk (t8 (t8 p.1)).1 (t8 (t8 p.1)).2.1 (t8 (t8 p.1)).2.2.1)) p.2.2.1)) (fun (x:Worker)=>((x.node.id_,(x.node.term_,(x.node.vote,(x.node.base,(x.node.baseTerm,(x.node.snap,((),(x.node.role,(x.node.commit,(x.node.wait,(x.node.votes.a0,(x.node.votes.a1,(x.node.votes.a2,(x.node.next.a0,(x.node.next.a1,(x.node.next.a2,(x.node.match_.a0,(x.node.match_.a1,(x.node.match_.a2,((),())))))))))))))))))))),(x.node.log,(x.out,())))) (fun _=>rfl)
def ch_voted:kT (Msg×Worker):=kO (kS 3 (kC (kP 0 0) (kC (Cod.xs (Cod.sa cc_Msg)) kN)) hc2_Worker) (fun p=>(p.1.2.1,p.2)) (fun (x:Msg×Worker)=>(((),(x.1,())),x.2)) (fun _=>rfl)
def hc3_Worker:Cod (List (Nat×En TL)) Worker:=kO (kC (Cod.var 0 68 (kC kJ (kC kJ (kC kJ (kC kJ (kC kJ (kC kE (kC (kG j_lEntry) (kC kJ (kC kJ (kC kJ (kC kD (kC kD (kC kD (kC kJ (kC kJ (kC kJ (kC kJ (kC kJ (kC kJ (kC (kA 6) kN))))))))))))))))))))) (kC (Cod.dead 1) (kC (Cod.dead 2) (kC (kR 6 39 j_lMsg) kN)))) (fun p=>(Worker.mk (Node.mk p.1.1 p.1.2.1 p.1.2.2.1 p.1.2.2.2.1 p.1.2.2.2.2.1 p.1.2.2.2.2.2.1 p.1.2.2.2.2.2.2.1 p.1.2.2.2.2.2.2.2.1 (t8 p.1).1 (t8 p.1).2.1 (A3Bool.mk (t8 p.1).2.2.1 (t8 p.1).2.2.2.1 (t8 p.1).2.2.2.2.1) (A3Int.mk (t8 p.1).2.2.2.2.2.1 (t8 p.1).2.2.2.2.2.2.1 (t8 p.1).2.2.2.2.2.2.2.1) (A3Int.mk (t8 (t8 p.1)).1 (t8 (t8 p.1)).2.1 (t8 (t8 p.1)).2.2.1)) p.2.2.2.1)) (fun (x:Worker)=>((x.node.id_,(x.node.term_,(x.node.vote,(x.node.base,(x.node.baseTerm,(x.node.snap,(x.node.log,(x.node.role,(x.node.commit,(x.node.wait,(x.node.votes.a0,(x.node.votes.a1,(x.node.votes.a2,(x.node.next.a0,(x.node.next.a1,(x.node.next.a2,(x.node.match_.a0,(x.node.match_.a1,(x.node.match_.a2,((),())))))))))))))))))))),((),((),(x.out,()))))) (fun _=>rfl)
def co_voted:kT (Worker):=kO (kS 7 (kC (Cod.xt kN) kN) hc3_Worker) (fun p=>p.2) (fun (x:Worker)=>(((),()),x)) (fun _=>rfl)
def un_voted (p:Msg×Worker):Option Worker:=voted p.1 p.2
def sf_voted:SFn TL:=SFn.one ch_voted.dec un_voted .normal co_voted.enc
def cs_voted:cL:=[(12,df_last_)]
def ss_voted:sL:=[(32,sf_owe)]
def env_voted:Env:=envOf tab sl sh [(27,fd27),(31,fd31)] [(12,.pure),(32,.sum)]
theorem env_voted_ok:EnvOK PR (mkD cs_voted ss_voted) env_voted:=envOK_of base (aC (st27.okl rfl aN) (aC (st31.okl rfl aN) aN)) (aC (oD ok_last_ rfl) (aC (okS rfl ok_owe) aN))
theorem run_voted (x:Msg×Worker):Out.run (mkO cs_voted ss_voted) (evSum env_voted 12 20 27 (ch_voted.enc x)) (back1 co_voted)=un_voted x:=by kernel_rfl
theorem ok_voted:SOK PR 27 sf_voted:=sum_one env_voted_ok (loops:=12) (n:=20) st27.enters ch_voted co_voted un_voted run_voted
def added (i1:Int)(b1:Bool)(i2:Int)(w1:Worker):Option Worker :=
 ob (send i1 (Msg.mk 4 0 0 0 i2 0 0 b1 [] s_empty) w1) fun y0 =>
 some y0
abbrev tY1:=Int×Bool×Int×Worker
def ch_added:kT (tY1):=kO (kS 2 (kC (kP 0 0) (kC kI (kC kB (kC kI kN)))) hc0_Worker) (fun p=>(p.1.2.1,p.1.2.2.1,p.1.2.2.2.1,p.2)) (fun (x:tY1)=>(((),(x.1,(x.2.1,(x.2.2.1,())))),x.2.2.2)) (fun _=>rfl)
def un_added (p:tY1):Option Worker:=added p.1 p.2.1 p.2.2.1 p.2.2.2
def sf_added:SFn TL:=SFn.one ch_added.dec un_added .normal co_send.enc
def ss_added:sL:=[(46,sf_send)]
def env_added:Env:=envOf tab sl sh [(47,fd47)] [(46,.sum)]
theorem env_added_ok:EnvOK PR (mkD cZ ss_added) env_added:=envOK_of base (aC (st47.okl rfl aN) aN) (aC (okS rfl ok_send) aN)
theorem run_added (x:tY1):Out.run (mkO cZ ss_added) (evSum env_added 12 20 47 (ch_added.enc x)) (back1 co_send)=un_added x:=by kernel_rfl
theorem ok_added:SOK PR 47 sf_added:=sum_one env_added_ok (loops:=12) (n:=20) st47.enters ch_added co_send un_added run_added
abbrev tY2:=(List Entry)×Int×Int×Worker×Msg
def step_L28_10 (l1:List Entry)(i1:Int)(i2:Int)(w1:Worker)(m1:Msg):Option ((tY2)⊕(Worker×Msg)) :=
 cond (decide (i2 < i1))
 (cond (decide (0≤i2))
 (ob (l1[i2.toNat]?) fun e0 =>
 cond (decide ((w64 ((w64 (m1.index - w1.node.base))+i2)) < (w1.node.log.length:Int)))
 (cond (decide (0≤(w64 ((w64 (m1.index - w1.node.base))+i2))))
 (cond (decide ((w64 ((w64 (m1.index - w1.node.base))+i2)) < (w1.node.log.length:Int)))
 (ob (w1.node.log[((w64 ((w64 (m1.index - w1.node.base))+i2))).toNat]?) fun e1 =>
 cond (e1.term_ == e0.term_)
 (some (.inl (l1,i1,(w64 (i2+1)),w1,m1)))
 (cond (decide (0≤(min2 (w64 ((w64 (m1.index - w1.node.base))+i2)) (w1.node.log.length:Int))))
 (cond (decide ((min2 (w64 ((w64 (m1.index - w1.node.base))+i2)) (w1.node.log.length:Int))≤(w1.node.log.length:Int)))
 (cond (fits (((w1.node.log.take (((min2 (w64 ((w64 (m1.index - w1.node.base))+i2)) (w1.node.log.length:Int))).toNat))++[e0]).length))
 (some (.inl (l1,i1,(w64 (i2+1)),(Worker.mk (Node.mk w1.node.id_ w1.node.term_ w1.node.vote w1.node.base w1.node.baseTerm w1.node.snap ((w1.node.log.take (((min2 (w64 ((w64 (m1.index - w1.node.base))+i2)) (w1.node.log.length:Int))).toNat))++[e0]) w1.node.role w1.node.commit w1.node.wait w1.node.votes w1.node.next w1.node.match_) w1.out),m1)))
 none)
 none)
 none))
 none)
 none)
 (cond (decide (0≤(min2 (w64 ((w64 (m1.index - w1.node.base))+i2)) (w1.node.log.length:Int))))
 (cond (decide ((min2 (w64 ((w64 (m1.index - w1.node.base))+i2)) (w1.node.log.length:Int))≤(w1.node.log.length:Int)))
 (cond (fits (((w1.node.log.take (((min2 (w64 ((w64 (m1.index - w1.node.base))+i2)) (w1.node.log.length:Int))).toNat))++[e0]).length))
 (some (.inl (l1,i1,(w64 (i2+1)),(Worker.mk (Node.mk w1.node.id_ w1.node.term_ w1.node.vote w1.node.base w1.node.baseTerm w1.node.snap ((w1.node.log.take (((min2 (w64 ((w64 (m1.index - w1.node.base))+i2)) (w1.node.log.length:Int))).toNat))++[e0]) w1.node.role w1.node.commit w1.node.wait w1.node.votes w1.node.next w1.node.match_) w1.out),m1)))
 none)
 none)
 none))
 none)
 (some (.inr (w1,m1)))
def stp_L28_10 (p:tY2):Option ((tY2)⊕(Worker×Msg)):=step_L28_10 p.1 p.2.1 p.2.2.1 p.2.2.2.1 p.2.2.2.2
def L28_10 (l1:List Entry)(i1:Int)(i2:Int)(w1:Worker)(m1:Msg):Option (Worker×Msg):=iterO stp_L28_10 ((i1 - i2).toNat+2) (l1,i1,i2,w1,m1)
def ch_L28_10:kT (tY2):=kO (kS 4 (kC (kP 0 0) (kC (kP 1 0) (kC (kF j_lEntry) (kC kI (kC kI kN))))) (kC (Cod.var 0 68 (kC kJ (kC kJ (kC kJ (kC kJ (kC kJ (kC kE (kC (kA 2) (kC kJ (kC kJ (kC kJ (kC kD (kC kD (kC kD (kC kJ (kC kJ (kC kJ (kC kJ (kC kJ (kC kJ (kC (kA 3) kN))))))))))))))))))))) (kC (Cod.var 1 39 cc_Msg) (kC (kR 2 32 j_lEntry) (kC (kR 3 39 j_lMsg) kN))))) (fun p=>(p.1.2.2.1,p.1.2.2.2.1,p.1.2.2.2.2.1,(Worker.mk (Node.mk p.2.1.1 p.2.1.2.1 p.2.1.2.2.1 p.2.1.2.2.2.1 p.2.1.2.2.2.2.1 p.2.1.2.2.2.2.2.1 p.2.2.2.1 p.2.1.2.2.2.2.2.2.2.1 (t8 p.2.1).1 (t8 p.2.1).2.1 (A3Bool.mk (t8 p.2.1).2.2.1 (t8 p.2.1).2.2.2.1 (t8 p.2.1).2.2.2.2.1) (A3Int.mk (t8 p.2.1).2.2.2.2.2.1 (t8 p.2.1).2.2.2.2.2.2.1 (t8 p.2.1).2.2.2.2.2.2.2.1) (A3Int.mk (t8 (t8 p.2.1)).1 (t8 (t8 p.2.1)).2.1 (t8 (t8 p.2.1)).2.2.1)) p.2.2.2.2.1),p.2.2.1)) (fun (x:tY2)=>(((),((),(x.1,(x.2.1,(x.2.2.1,()))))),((x.2.2.2.1.node.id_,(x.2.2.2.1.node.term_,(x.2.2.2.1.node.vote,(x.2.2.2.1.node.base,(x.2.2.2.1.node.baseTerm,(x.2.2.2.1.node.snap,((),(x.2.2.2.1.node.role,(x.2.2.2.1.node.commit,(x.2.2.2.1.node.wait,(x.2.2.2.1.node.votes.a0,(x.2.2.2.1.node.votes.a1,(x.2.2.2.1.node.votes.a2,(x.2.2.2.1.node.next.a0,(x.2.2.2.1.node.next.a1,(x.2.2.2.1.node.next.a2,(x.2.2.2.1.node.match_.a0,(x.2.2.2.1.node.match_.a1,(x.2.2.2.1.node.match_.a2,((),())))))))))))))))))))),(x.2.2.2.2,(x.2.2.2.1.node.log,(x.2.2.2.1.out,())))))) (fun _=>rfl)
def co0_L28_10:kT (Worker×Msg):=kO (kS 8 (kC (kP 0 0) (kC (kP 1 0) kN)) (kC (Cod.var 0 68 (kC kJ (kC kJ (kC kJ (kC kJ (kC kJ (kC kE (kC (kA 6) (kC kJ (kC kJ (kC kJ (kC kD (kC kD (kC kD (kC kJ (kC kJ (kC kJ (kC kJ (kC kJ (kC kJ (kC (kA 7) kN))))))))))))))))))))) (kC (Cod.var 1 39 cc_Msg) (kC (kR 6 32 j_lEntry) (kC (kR 7 39 j_lMsg) kN))))) (fun p=>((Worker.mk (Node.mk p.2.1.1 p.2.1.2.1 p.2.1.2.2.1 p.2.1.2.2.2.1 p.2.1.2.2.2.2.1 p.2.1.2.2.2.2.2.1 p.2.2.2.1 p.2.1.2.2.2.2.2.2.2.1 (t8 p.2.1).1 (t8 p.2.1).2.1 (A3Bool.mk (t8 p.2.1).2.2.1 (t8 p.2.1).2.2.2.1 (t8 p.2.1).2.2.2.2.1) (A3Int.mk (t8 p.2.1).2.2.2.2.2.1 (t8 p.2.1).2.2.2.2.2.2.1 (t8 p.2.1).2.2.2.2.2.2.2.1) (A3Int.mk (t8 (t8 p.2.1)).1 (t8 (t8 p.2.1)).2.1 (t8 (t8 p.2.1)).2.2.1)) p.2.2.2.2.1),p.2.2.1)) (fun (x:Worker×Msg)=>(((),((),())),((x.1.node.id_,(x.1.node.term_,(x.1.node.vote,(x.1.node.base,(x.1.node.baseTerm,(x.1.node.snap,((),(x.1.node.role,(x.1.node.commit,(x.1.node.wait,(x.1.node.votes.a0,(x.1.node.votes.a1,(x.1.node.votes.a2,(x.1.node.next.a0,(x.1.node.next.a1,(x.1.node.next.a2,(x.1.node.match_.a0,(x.1.node.match_.a1,(x.1.node.match_.a2,((),())))))))))))))))))))),(x.2,(x.1.node.log,(x.1.out,())))))) (fun _=>rfl)
def sl_L28_10:SFn TL:=SFn.one ch_L28_10.dec (fun p=>L28_10 p.1 p.2.1 p.2.2.1 p.2.2.2.1 p.2.2.2.2) (.exit 1) co0_L28_10.enc
def v_L28_10:Env:=envOf tab sl sh [] []
theorem v_L28_10_ok:EnvOK PR (mkD cZ sZ) v_L28_10:=envOK_of base aN aN
theorem run_L28_10 (x:tY2):Out.run (mkO cZ sZ) (evRound v_L28_10 12 20 fd28.an q_L28_10 (loopIn (loopsOf fd28.body) 10) (ch_L28_10.enc x)) (back ch_L28_10 co0_L28_10 fun e=>exE e (.exit 1))=stp_L28_10 x:=by kernel_rfl
theorem ok_L28_10:LoopOK PR (oneS sl_L28_10) nt28 q_L28_10 (loopIn (loopsOf fd28.body) 10) :=
  loop_one v_L28_10_ok (loops:=12) (k:=20) (an:=fd28.an) (by kernel_rfl) (FnSt.subl rfl st28.keys (aC (.inl (by kernel_rfl)) aN)) ch_L28_10 co0_L28_10 (.exit 1) rfl stp_L28_10 _ run_L28_10 (fun x y h=>⟨_,h⟩) (fun _=>below_iff.1 rfl)
def add (m1:Msg)(w1:Worker):Option Worker :=
 cond (decide (m1.term_ < w1.node.term_))
 (ob (added m1.from_ false 0 w1) fun y0 =>
 some y0)
 (ob (last_ (Node.mk w1.node.id_ w1.node.term_ w1.node.vote w1.node.base w1.node.baseTerm w1.node.snap w1.node.log 0 w1.node.commit 0 w1.node.votes w1.node.next w1.node.match_)) fun r1 =>
 cond (decide (m1.index < w1.node.base))
 (ob (added m1.from_ true w1.node.base (Worker.mk (Node.mk w1.node.id_ w1.node.term_ w1.node.vote w1.node.base w1.node.baseTerm w1.node.snap w1.node.log 0 w1.node.commit 0 w1.node.votes w1.node.next w1.node.match_) w1.out)) fun y2 =>
 some y2)
 (cond (decide (m1.index > r1.1))
 (ob (added m1.from_ false (min2 r1.1 (w64 (m1.index - 1))) (Worker.mk (Node.mk w1.node.id_ w1.node.term_ w1.node.vote w1.node.base w1.node.baseTerm w1.node.snap w1.node.log 0 w1.node.commit 0 w1.node.votes w1.node.next w1.node.match_) w1.out)) fun y4 =>
 some y4)
 (cond (cond (decide ((w64 ((w64 (m1.index - w1.node.base)) - 1))≥0)) (decide ((w64 ((w64 (m1.index - w1.node.base)) - 1)) < (w1.node.log.length:Int))) false)
 (cond (decide (0≤(w64 ((w64 (m1.index - w1.node.base)) - 1))))
 (cond (decide ((w64 ((w64 (m1.index - w1.node.base)) - 1)) < (w1.node.log.length:Int)))
 (ob (w1.node.log[((w64 ((w64 (m1.index - w1.node.base)) - 1))).toNat]?) fun e3 =>
 cond (e3.term_ != m1.logTerm)
 (ob (added m1.from_ false (min2 r1.1 (w64 (m1.index - 1))) (Worker.mk (Node.mk w1.node.id_ w1.node.term_ w1.node.vote w1.node.base w1.node.baseTerm w1.node.snap w1.node.log 0 w1.node.commit 0 w1.node.votes w1.node.next w1.node.match_) w1.out)) fun y5 =>
 some y5)
 (ob (L28_10 m1.entries (m1.entries.length:Int) 0 (Worker.mk (Node.mk w1.node.id_ w1.node.term_ w1.node.vote w1.node.base w1.node.baseTerm w1.node.snap w1.node.log 0 w1.node.commit 0 w1.node.votes w1.node.next w1.node.match_) w1.out) m1) fun y7 =>
 cond (decide (y7.2.commit > y7.1.node.commit))
 (ob (added y7.2.from_ true (w64 (y7.2.index+(y7.2.entries.length:Int))) (Worker.mk (Node.mk y7.1.node.id_ y7.1.node.term_ y7.1.node.vote y7.1.node.base y7.1.node.baseTerm y7.1.node.snap y7.1.node.log y7.1.node.role (max2 (min2 y7.2.commit (w64 (y7.2.index+(y7.2.entries.length:Int)))) y7.1.node.commit) y7.1.node.wait y7.1.node.votes y7.1.node.next y7.1.node.match_) y7.1.out)) fun y8 =>
 some y8)
 (ob (added y7.2.from_ true (w64 (y7.2.index+(y7.2.entries.length:Int))) y7.1) fun y9 =>
 some y9)))
 none)
 none)
 (cond (w1.node.baseTerm != m1.logTerm)
 (ob (added m1.from_ false (min2 r1.1 (w64 (m1.index - 1))) (Worker.mk (Node.mk w1.node.id_ w1.node.term_ w1.node.vote w1.node.base w1.node.baseTerm w1.node.snap w1.node.log 0 w1.node.commit 0 w1.node.votes w1.node.next w1.node.match_) w1.out)) fun y6 =>
 some y6)
 (ob (L28_10 m1.entries (m1.entries.length:Int) 0 (Worker.mk (Node.mk w1.node.id_ w1.node.term_ w1.node.vote w1.node.base w1.node.baseTerm w1.node.snap w1.node.log 0 w1.node.commit 0 w1.node.votes w1.node.next w1.node.match_) w1.out) m1) fun y10 =>
 cond (decide (y10.2.commit > y10.1.node.commit))
 (ob (added y10.2.from_ true (w64 (y10.2.index+(y10.2.entries.length:Int))) (Worker.mk (Node.mk y10.1.node.id_ y10.1.node.term_ y10.1.node.vote y10.1.node.base y10.1.node.baseTerm y10.1.node.snap y10.1.node.log y10.1.node.role (max2 (min2 y10.2.commit (w64 (y10.2.index+(y10.2.entries.length:Int)))) y10.1.node.commit) y10.1.node.wait y10.1.node.votes y10.1.node.next y10.1.node.match_) y10.1.out)) fun y11 =>
 some y11)
 (ob (added y10.2.from_ true (w64 (y10.2.index+(y10.2.entries.length:Int))) y10.1) fun y12 =>
 some y12))))))
def un_add (p:Msg×Worker):Option Worker:=add p.1 p.2
def sf_add:SFn TL:=SFn.one ch_voted.dec un_add .normal co_voted.enc
def cs_add:cL:=[(12,df_last_)]
def ss_add:sL:=[(47,sf_added),(128010,sl_L28_10)]
def env_add:Env:=envOf tab sl sh [(28,fd28),(23,fd23)] [(47,.sum),(12,.pure)]
theorem env_add_ok:EnvOK PR (mkD cs_add ss_add) env_add:=envOK_of base (aC (st28.okl rfl (aC (lC ok_L28_10 rfl) aN)) (aC (st23.okl rfl aN) aN)) (aC (okS rfl ok_added) (aC (oD ok_last_ rfl) aN))
theorem run_add (x:Msg×Worker):Out.run (mkO cs_add ss_add) (evSum env_add 12 20 28 (ch_voted.enc x)) (back1 co_voted)=un_add x:=by kernel_rfl
theorem ok_add:SOK PR 28 sf_add:=sum_one env_add_ok (loops:=12) (n:=20) st28.enters ch_voted co_voted un_add run_add
abbrev tY3:=Int×Int×(List Entry)×Int×Int×A3Int×Int×Worker×Entry
def step_L48_5 (i1:Int)(i2:Int)(l1:List Entry)(i3:Int)(i4:Int)(ax1:A3Int)(i5:Int)(w1:Worker)(ex1:Entry):Option ((tY3)⊕(Int×Int×(List Entry)×Int×Int×Worker×Entry)) :=
 cond (decide (i5 < 3))
 (cond (decide (0≤i5) && decide (i5 < 3))
 (some (.inl (i1,(cond (decide ((cond (decide (i5=0)) ax1.a0 (cond (decide (i5=1)) ax1.a1 ax1.a2))≥i1)) (w64 (i2+1)) i2),l1,i3,i4,ax1,(w64 (i5+1)),w1,ex1)))
 none)
 (some (.inr (i1,i2,l1,i3,i4,w1,ex1)))
def stp_L48_5 (p:tY3):Option ((tY3)⊕(Int×Int×(List Entry)×Int×Int×Worker×Entry)):=step_L48_5 p.1 p.2.1 p.2.2.1 p.2.2.2.1 p.2.2.2.2.1 p.2.2.2.2.2.1 p.2.2.2.2.2.2.1 p.2.2.2.2.2.2.2.1 p.2.2.2.2.2.2.2.2
def L48_5 (i1:Int)(i2:Int)(l1:List Entry)(i3:Int)(i4:Int)(ax1:A3Int)(i5:Int)(w1:Worker)(ex1:Entry):Option (Int×Int×(List Entry)×Int×Int×Worker×Entry):=iterO stp_L48_5 ((3 - i5).toNat+2) (i1,i2,l1,i3,i4,ax1,i5,w1,ex1)
def ch_L48_5:kT (tY3):=kO (kS 3 (kC (kP 0 0) (kC (kP 1 0) (kC kI (kC kI (kC (kF j_lEntry) (kC kI (kC kI (kC (Cod.xs (Cod.sa (kC kJ (kC kJ (kC kJ kN))))) (kC kI kN))))))))) (kC (Cod.var 0 68 (kC kJ (kC kJ (kC kJ (kC kJ (kC kJ (kC kE (kC (kG j_lEntry) (kC kJ (kC kJ (kC kJ (kC kD (kC kD (kC kD (kC kJ (kC kJ (kC kJ (kC kJ (kC kJ (kC kJ (kC (kA 2) kN))))))))))))))))))))) (kC (Cod.var 1 32 (kC kJ (kC kE kN))) (kC (kR 2 39 j_lMsg) kN)))) (fun p=>(p.1.2.2.1,p.1.2.2.2.1,p.1.2.2.2.2.1,p.1.2.2.2.2.2.1,p.1.2.2.2.2.2.2.1,(A3Int.mk p.1.2.2.2.2.2.2.2.1.1 p.1.2.2.2.2.2.2.2.1.2.1 p.1.2.2.2.2.2.2.2.1.2.2.1),(t8 p.1).1,(Worker.mk (Node.mk p.2.1.1 p.2.1.2.1 p.2.1.2.2.1 p.2.1.2.2.2.1 p.2.1.2.2.2.2.1 p.2.1.2.2.2.2.2.1 p.2.1.2.2.2.2.2.2.1 p.2.1.2.2.2.2.2.2.2.1 (t8 p.2.1).1 (t8 p.2.1).2.1 (A3Bool.mk (t8 p.2.1).2.2.1 (t8 p.2.1).2.2.2.1 (t8 p.2.1).2.2.2.2.1) (A3Int.mk (t8 p.2.1).2.2.2.2.2.1 (t8 p.2.1).2.2.2.2.2.2.1 (t8 p.2.1).2.2.2.2.2.2.2.1) (A3Int.mk (t8 (t8 p.2.1)).1 (t8 (t8 p.2.1)).2.1 (t8 (t8 p.2.1)).2.2.1)) p.2.2.2.1),(Entry.mk p.2.2.1.1 p.2.2.1.2.1))) (fun (x:tY3)=>(((),((),(x.1,(x.2.1,(x.2.2.1,(x.2.2.2.1,(x.2.2.2.2.1,((x.2.2.2.2.2.1.a0,(x.2.2.2.2.2.1.a1,(x.2.2.2.2.2.1.a2,()))),(x.2.2.2.2.2.2.1,()))))))))),((x.2.2.2.2.2.2.2.1.node.id_,(x.2.2.2.2.2.2.2.1.node.term_,(x.2.2.2.2.2.2.2.1.node.vote,(x.2.2.2.2.2.2.2.1.node.base,(x.2.2.2.2.2.2.2.1.node.baseTerm,(x.2.2.2.2.2.2.2.1.node.snap,(x.2.2.2.2.2.2.2.1.node.log,(x.2.2.2.2.2.2.2.1.node.role,(x.2.2.2.2.2.2.2.1.node.commit,(x.2.2.2.2.2.2.2.1.node.wait,(x.2.2.2.2.2.2.2.1.node.votes.a0,(x.2.2.2.2.2.2.2.1.node.votes.a1,(x.2.2.2.2.2.2.2.1.node.votes.a2,(x.2.2.2.2.2.2.2.1.node.next.a0,(x.2.2.2.2.2.2.2.1.node.next.a1,(x.2.2.2.2.2.2.2.1.node.next.a2,(x.2.2.2.2.2.2.2.1.node.match_.a0,(x.2.2.2.2.2.2.2.1.node.match_.a1,(x.2.2.2.2.2.2.2.1.node.match_.a2,((),())))))))))))))))))))),((x.2.2.2.2.2.2.2.2.term_,(x.2.2.2.2.2.2.2.2.cmd,())),(x.2.2.2.2.2.2.2.1.out,()))))) (fun _=>rfl)
def co0_L48_5:kT (Int×Int×(List Entry)×Int×Int×Worker×Entry):=kO (kS 6 (kC (kP 0 0) (kC (kP 1 0) (kC kI (kC kI (kC (kF j_lEntry) (kC kI (kC kI kN))))))) (kC (Cod.var 0 68 (kC kJ (kC kJ (kC kJ (kC kJ (kC kJ (kC kE (kC (kG j_lEntry) (kC kJ (kC kJ (kC kJ (kC kD (kC kD (kC kD (kC kJ (kC kJ (kC kJ (kC kJ (kC kJ (kC kJ (kC (kA 5) kN))))))))))))))))))))) (kC (Cod.var 1 32 (kC kJ (kC kE kN))) (kC (kR 5 39 j_lMsg) kN)))) (fun p=>(p.1.2.2.1,p.1.2.2.2.1,p.1.2.2.2.2.1,p.1.2.2.2.2.2.1,p.1.2.2.2.2.2.2.1,(Worker.mk (Node.mk p.2.1.1 p.2.1.2.1 p.2.1.2.2.1 p.2.1.2.2.2.1 p.2.1.2.2.2.2.1 p.2.1.2.2.2.2.2.1 p.2.1.2.2.2.2.2.2.1 p.2.1.2.2.2.2.2.2.2.1 (t8 p.2.1).1 (t8 p.2.1).2.1 (A3Bool.mk (t8 p.2.1).2.2.1 (t8 p.2.1).2.2.2.1 (t8 p.2.1).2.2.2.2.1) (A3Int.mk (t8 p.2.1).2.2.2.2.2.1 (t8 p.2.1).2.2.2.2.2.2.1 (t8 p.2.1).2.2.2.2.2.2.2.1) (A3Int.mk (t8 (t8 p.2.1)).1 (t8 (t8 p.2.1)).2.1 (t8 (t8 p.2.1)).2.2.1)) p.2.2.2.1),(Entry.mk p.2.2.1.1 p.2.2.1.2.1))) (fun (x:Int×Int×(List Entry)×Int×Int×Worker×Entry)=>(((),((),(x.1,(x.2.1,(x.2.2.1,(x.2.2.2.1,(x.2.2.2.2.1,()))))))),((x.2.2.2.2.2.1.node.id_,(x.2.2.2.2.2.1.node.term_,(x.2.2.2.2.2.1.node.vote,(x.2.2.2.2.2.1.node.base,(x.2.2.2.2.2.1.node.baseTerm,(x.2.2.2.2.2.1.node.snap,(x.2.2.2.2.2.1.node.log,(x.2.2.2.2.2.1.node.role,(x.2.2.2.2.2.1.node.commit,(x.2.2.2.2.2.1.node.wait,(x.2.2.2.2.2.1.node.votes.a0,(x.2.2.2.2.2.1.node.votes.a1,(x.2.2.2.2.2.1.node.votes.a2,(x.2.2.2.2.2.1.node.next.a0,(x.2.2.2.2.2.1.node.next.a1,(x.2.2.2.2.2.1.node.next.a2,(x.2.2.2.2.2.1.node.match_.a0,(x.2.2.2.2.2.1.node.match_.a1,(x.2.2.2.2.2.1.node.match_.a2,((),())))))))))))))))))))),((x.2.2.2.2.2.2.term_,(x.2.2.2.2.2.2.cmd,())),(x.2.2.2.2.2.1.out,()))))) (fun _=>rfl)
def sl_L48_5:SFn TL:=SFn.one ch_L48_5.dec (fun p=>L48_5 p.1 p.2.1 p.2.2.1 p.2.2.2.1 p.2.2.2.2.1 p.2.2.2.2.2.1 p.2.2.2.2.2.2.1 p.2.2.2.2.2.2.2.1 p.2.2.2.2.2.2.2.2) (.exit 2) co0_L48_5.enc
def v_L48_5:Env:=envOf tab sl sh [] []
theorem v_L48_5_ok:EnvOK PR (mkD cZ sZ) v_L48_5:=envOK_of base aN aN
theorem run_L48_5 (x:tY3):Out.run (mkO cZ sZ) (evRound v_L48_5 12 20 fd48.an q_L48_5 (loopIn (loopsOf fd48.body) 5) (ch_L48_5.enc x)) (back ch_L48_5 co0_L48_5 fun e=>exE e (.exit 2))=stp_L48_5 x:=by kernel_rfl
theorem ok_L48_5:LoopOK PR (oneS sl_L48_5) nt48 q_L48_5 (loopIn (loopsOf fd48.body) 5) :=
  loop_one v_L48_5_ok (loops:=12) (k:=20) (an:=fd48.an) (by kernel_rfl) (FnSt.subl rfl st48.keys (aC (.inl (by kernel_rfl)) (aC (.inl (by kernel_rfl)) aN))) ch_L48_5 co0_L48_5 (.exit 2) rfl stp_L48_5 _ run_L48_5 (fun x y h=>⟨_,h⟩) (fun _=>below_iff.1 rfl)
abbrev tY4:=(List Entry)×Int×Int×Worker
def step_L48_1 (l1:List Entry)(i1:Int)(i2:Int)(w1:Worker):Option ((tY4)⊕(Worker)) :=
 cond (decide (i2 < i1))
 (cond (decide (0≤i2))
 (ob (l1[i2.toNat]?) fun e0 =>
 ob (L48_5 (w64 ((w64 (w1.node.base+i2))+1)) 0 l1 i1 i2 w1.node.match_ 0 w1 e0) fun y1 =>
 cond (cond (decide (y1.2.1≥2)) (y1.2.2.2.2.2.2.term_ == y1.2.2.2.2.2.1.node.term_) false)
 (some (.inl (y1.2.2.1,y1.2.2.2.1,(w64 (y1.2.2.2.2.1+1)),(Worker.mk (Node.mk y1.2.2.2.2.2.1.node.id_ y1.2.2.2.2.2.1.node.term_ y1.2.2.2.2.2.1.node.vote y1.2.2.2.2.2.1.node.base y1.2.2.2.2.2.1.node.baseTerm y1.2.2.2.2.2.1.node.snap y1.2.2.2.2.2.1.node.log y1.2.2.2.2.2.1.node.role (max2 y1.2.2.2.2.2.1.node.commit y1.1) y1.2.2.2.2.2.1.node.wait y1.2.2.2.2.2.1.node.votes y1.2.2.2.2.2.1.node.next y1.2.2.2.2.2.1.node.match_) y1.2.2.2.2.2.1.out))))
 (some (.inl (y1.2.2.1,y1.2.2.2.1,(w64 (y1.2.2.2.2.1+1)),y1.2.2.2.2.2.1))))
 none)
 (some (.inr w1))
def stp_L48_1 (p:tY4):Option ((tY4)⊕(Worker)):=step_L48_1 p.1 p.2.1 p.2.2.1 p.2.2.2
def L48_1 (l1:List Entry)(i1:Int)(i2:Int)(w1:Worker):Option Worker:=iterO stp_L48_1 ((i1 - i2).toNat+2) (l1,i1,i2,w1)
def ch_L48_1:kT (tY4):=kO (kS 2 (kC (kP 0 0) (kC (kF j_lEntry) (kC kI (kC kI kN)))) hc0_Worker) (fun p=>(p.1.2.1,p.1.2.2.1,p.1.2.2.2.1,p.2)) (fun (x:tY4)=>(((),(x.1,(x.2.1,(x.2.2.1,())))),x.2.2.2)) (fun _=>rfl)
def hc4_Worker:Cod (List (Nat×En TL)) Worker:=kO (kC (Cod.var 0 68 (kC kJ (kC kJ (kC kJ (kC kJ (kC kJ (kC kE (kC (kG j_lEntry) (kC kJ (kC kJ (kC kJ (kC kD (kC kD (kC kD (kC kJ (kC kJ (kC kJ (kC kJ (kC kJ (kC kJ (kC (kA 3) kN))))))))))))))))))))) (kC (kR 3 39 j_lMsg) kN)) (fun p=>(Worker.mk (Node.mk p.1.1 p.1.2.1 p.1.2.2.1 p.1.2.2.2.1 p.1.2.2.2.2.1 p.1.2.2.2.2.2.1 p.1.2.2.2.2.2.2.1 p.1.2.2.2.2.2.2.2.1 (t8 p.1).1 (t8 p.1).2.1 (A3Bool.mk (t8 p.1).2.2.1 (t8 p.1).2.2.2.1 (t8 p.1).2.2.2.2.1) (A3Int.mk (t8 p.1).2.2.2.2.2.1 (t8 p.1).2.2.2.2.2.2.1 (t8 p.1).2.2.2.2.2.2.2.1) (A3Int.mk (t8 (t8 p.1)).1 (t8 (t8 p.1)).2.1 (t8 (t8 p.1)).2.2.1)) p.2.1)) (fun (x:Worker)=>((x.node.id_,(x.node.term_,(x.node.vote,(x.node.base,(x.node.baseTerm,(x.node.snap,(x.node.log,(x.node.role,(x.node.commit,(x.node.wait,(x.node.votes.a0,(x.node.votes.a1,(x.node.votes.a2,(x.node.next.a0,(x.node.next.a1,(x.node.next.a2,(x.node.match_.a0,(x.node.match_.a1,(x.node.match_.a2,((),())))))))))))))))))))),(x.out,()))) (fun _=>rfl)
def co0_L48_1:kT (Worker):=kO (kS 4 kN hc4_Worker) (fun p=>p.2) (fun (x:Worker)=>((),x)) (fun _=>rfl)
def sl_L48_1:SFn TL:=SFn.one ch_L48_1.dec (fun p=>L48_1 p.1 p.2.1 p.2.2.1 p.2.2.2) (.exit 0) co0_L48_1.enc
def ss_lL48_1:sL:=[(148005,sl_L48_5)]
def v_L48_1:Env:=envOf tab sl sh [] []
theorem v_L48_1_ok:EnvOK PR (mkD cZ ss_lL48_1) v_L48_1:=envOK_of base aN aN
theorem run_L48_1 (x:tY4):Out.run (mkO cZ ss_lL48_1) (evRound v_L48_1 12 20 fd48.an q_L48_1 (loopIn (loopsOf fd48.body) 1) (ch_L48_1.enc x)) (back ch_L48_1 co0_L48_1 fun e=>exE e (.exit 0))=stp_L48_1 x:=by kernel_rfl
theorem ok_L48_1:LoopOK PR (oneS sl_L48_1) nt48 q_L48_1 (loopIn (loopsOf fd48.body) 1) :=
  loop_one v_L48_1_ok (loops:=12) (k:=20) (an:=fd48.an) (by kernel_rfl) (FnSt.subl rfl st48.keys (aC (.inl (by kernel_rfl)) (aC (.inr (lC ok_L48_5 rfl)) aN))) ch_L48_1 co0_L48_1 (.exit 0) rfl stp_L48_1 _ run_L48_1 (fun x y h=>⟨_,h⟩) (fun _=>below_iff.1 rfl)
def reach (w1:Worker):Option Worker :=
 ob (L48_1 w1.node.log (w1.node.log.length:Int) 0 w1) fun y0 =>
 some y0
def un_reach (p:Worker):Option Worker:=reach p
def sf_reach:SFn TL:=SFn.one ch_stand.dec un_reach .normal co_send.enc
def ss_reach:sL:=[(148001,sl_L48_1),(148005,sl_L48_5)]
def env_reach:Env:=envOf tab sl sh [(48,fd48)] []
theorem env_reach_ok:EnvOK PR (mkD cZ ss_reach) env_reach:=envOK_of base (aC (st48.okl rfl (aC (lC ok_L48_1 rfl) (aC (lC ok_L48_5 rfl) aN))) aN) aN
theorem run_reach (x:Worker):Out.run (mkO cZ ss_reach) (evSum env_reach 12 20 48 (ch_stand.enc x)) (back1 co_send)=un_reach x:=by kernel_rfl
theorem ok_reach:SOK PR 48 sf_reach:=sum_one env_reach_ok (loops:=12) (n:=20) st48.enters ch_stand co_send un_reach run_reach
def heard (m1:Msg)(w1:Worker):Option Worker :=
 cond (cond (m1.term_ != w1.node.term_) true (w1.node.role != 2))
 (some w1)
 (cond (m1.yes)
 (cond (decide (0≤m1.from_) && decide (m1.from_ < 3))
 (cond (decide (0≤m1.from_) && decide (m1.from_ < 3))
 (cond (decide (0≤m1.from_) && decide (m1.from_ < 3))
 (cond (decide (0≤m1.from_) && decide (m1.from_ < 3))
 (ob (reach (Worker.mk (Node.mk w1.node.id_ w1.node.term_ w1.node.vote w1.node.base w1.node.baseTerm w1.node.snap w1.node.log w1.node.role w1.node.commit w1.node.wait w1.node.votes (A3Int.mk (cond (decide (m1.from_=0)) (w64 ((cond (decide (m1.from_=0)) (cond (decide (m1.from_=0)) (max2 (cond (decide (m1.from_=0)) w1.node.match_.a0 (cond (decide (m1.from_=1)) w1.node.match_.a1 w1.node.match_.a2)) m1.index) w1.node.match_.a0) (cond (decide (m1.from_=1)) (cond (decide (m1.from_=1)) (max2 (cond (decide (m1.from_=0)) w1.node.match_.a0 (cond (decide (m1.from_=1)) w1.node.match_.a1 w1.node.match_.a2)) m1.index) w1.node.match_.a1) (cond (decide (m1.from_=2)) (max2 (cond (decide (m1.from_=0)) w1.node.match_.a0 (cond (decide (m1.from_=1)) w1.node.match_.a1 w1.node.match_.a2)) m1.index) w1.node.match_.a2)))+1)) w1.node.next.a0) (cond (decide (m1.from_=1)) (w64 ((cond (decide (m1.from_=0)) (cond (decide (m1.from_=0)) (max2 (cond (decide (m1.from_=0)) w1.node.match_.a0 (cond (decide (m1.from_=1)) w1.node.match_.a1 w1.node.match_.a2)) m1.index) w1.node.match_.a0) (cond (decide (m1.from_=1)) (cond (decide (m1.from_=1)) (max2 (cond (decide (m1.from_=0)) w1.node.match_.a0 (cond (decide (m1.from_=1)) w1.node.match_.a1 w1.node.match_.a2)) m1.index) w1.node.match_.a1) (cond (decide (m1.from_=2)) (max2 (cond (decide (m1.from_=0)) w1.node.match_.a0 (cond (decide (m1.from_=1)) w1.node.match_.a1 w1.node.match_.a2)) m1.index) w1.node.match_.a2)))+1)) w1.node.next.a1) (cond (decide (m1.from_=2)) (w64 ((cond (decide (m1.from_=0)) (cond (decide (m1.from_=0)) (max2 (cond (decide (m1.from_=0)) w1.node.match_.a0 (cond (decide (m1.from_=1)) w1.node.match_.a1 w1.node.match_.a2)) m1.index) w1.node.match_.a0) (cond (decide (m1.from_=1)) (cond (decide (m1.from_=1)) (max2 (cond (decide (m1.from_=0)) w1.node.match_.a0 (cond (decide (m1.from_=1)) w1.node.match_.a1 w1.node.match_.a2)) m1.index) w1.node.match_.a1) (cond (decide (m1.from_=2)) (max2 (cond (decide (m1.from_=0)) w1.node.match_.a0 (cond (decide (m1.from_=1)) w1.node.match_.a1 w1.node.match_.a2)) m1.index) w1.node.match_.a2)))+1)) w1.node.next.a2)) (A3Int.mk (cond (decide (m1.from_=0)) (max2 (cond (decide (m1.from_=0)) w1.node.match_.a0 (cond (decide (m1.from_=1)) w1.node.match_.a1 w1.node.match_.a2)) m1.index) w1.node.match_.a0) (cond (decide (m1.from_=1)) (max2 (cond (decide (m1.from_=0)) w1.node.match_.a0 (cond (decide (m1.from_=1)) w1.node.match_.a1 w1.node.match_.a2)) m1.index) w1.node.match_.a1) (cond (decide (m1.from_=2)) (max2 (cond (decide (m1.from_=0)) w1.node.match_.a0 (cond (decide (m1.from_=1)) w1.node.match_.a1 w1.node.match_.a2)) m1.index) w1.node.match_.a2))) w1.out)) fun y0 =>
 some y0)
 none)
 none)
 none)
 none)
 (cond (decide (0≤m1.from_) && decide (m1.from_ < 3))
 (cond (decide (0≤m1.from_) && decide (m1.from_ < 3))
 (cond (decide (0≤m1.from_) && decide (m1.from_ < 3))
 (ob (last_ (Node.mk w1.node.id_ w1.node.term_ w1.node.vote w1.node.base w1.node.baseTerm w1.node.snap w1.node.log w1.node.role w1.node.commit w1.node.wait w1.node.votes (A3Int.mk (cond (decide (m1.from_=0)) (max2 (max2 (min2 (w64 ((cond (decide (m1.from_=0)) w1.node.next.a0 (cond (decide (m1.from_=1)) w1.node.next.a1 w1.node.next.a2)) - 1)) (w64 (m1.index+1))) 1) (w64 ((cond (decide (m1.from_=0)) w1.node.match_.a0 (cond (decide (m1.from_=1)) w1.node.match_.a1 w1.node.match_.a2))+1))) w1.node.next.a0) (cond (decide (m1.from_=1)) (max2 (max2 (min2 (w64 ((cond (decide (m1.from_=0)) w1.node.next.a0 (cond (decide (m1.from_=1)) w1.node.next.a1 w1.node.next.a2)) - 1)) (w64 (m1.index+1))) 1) (w64 ((cond (decide (m1.from_=0)) w1.node.match_.a0 (cond (decide (m1.from_=1)) w1.node.match_.a1 w1.node.match_.a2))+1))) w1.node.next.a1) (cond (decide (m1.from_=2)) (max2 (max2 (min2 (w64 ((cond (decide (m1.from_=0)) w1.node.next.a0 (cond (decide (m1.from_=1)) w1.node.next.a1 w1.node.next.a2)) - 1)) (w64 (m1.index+1))) 1) (w64 ((cond (decide (m1.from_=0)) w1.node.match_.a0 (cond (decide (m1.from_=1)) w1.node.match_.a1 w1.node.match_.a2))+1))) w1.node.next.a2)) w1.node.match_)) fun r1 =>
 cond (decide (0≤m1.from_) && decide (m1.from_ < 3))
 (cond (decide ((cond (decide (m1.from_=0)) (cond (decide (m1.from_=0)) (max2 (max2 (min2 (w64 ((cond (decide (m1.from_=0)) w1.node.next.a0 (cond (decide (m1.from_=1)) w1.node.next.a1 w1.node.next.a2)) - 1)) (w64 (m1.index+1))) 1) (w64 ((cond (decide (m1.from_=0)) w1.node.match_.a0 (cond (decide (m1.from_=1)) w1.node.match_.a1 w1.node.match_.a2))+1))) w1.node.next.a0) (cond (decide (m1.from_=1)) (cond (decide (m1.from_=1)) (max2 (max2 (min2 (w64 ((cond (decide (m1.from_=0)) w1.node.next.a0 (cond (decide (m1.from_=1)) w1.node.next.a1 w1.node.next.a2)) - 1)) (w64 (m1.index+1))) 1) (w64 ((cond (decide (m1.from_=0)) w1.node.match_.a0 (cond (decide (m1.from_=1)) w1.node.match_.a1 w1.node.match_.a2))+1))) w1.node.next.a1) (cond (decide (m1.from_=2)) (max2 (max2 (min2 (w64 ((cond (decide (m1.from_=0)) w1.node.next.a0 (cond (decide (m1.from_=1)) w1.node.next.a1 w1.node.next.a2)) - 1)) (w64 (m1.index+1))) 1) (w64 ((cond (decide (m1.from_=0)) w1.node.match_.a0 (cond (decide (m1.from_=1)) w1.node.match_.a1 w1.node.match_.a2))+1))) w1.node.next.a2)))≤r1.1))
 (ob (owe m1.from_ (Worker.mk (Node.mk w1.node.id_ w1.node.term_ w1.node.vote w1.node.base w1.node.baseTerm w1.node.snap w1.node.log w1.node.role w1.node.commit w1.node.wait w1.node.votes (A3Int.mk (cond (decide (m1.from_=0)) (max2 (max2 (min2 (w64 ((cond (decide (m1.from_=0)) w1.node.next.a0 (cond (decide (m1.from_=1)) w1.node.next.a1 w1.node.next.a2)) - 1)) (w64 (m1.index+1))) 1) (w64 ((cond (decide (m1.from_=0)) w1.node.match_.a0 (cond (decide (m1.from_=1)) w1.node.match_.a1 w1.node.match_.a2))+1))) w1.node.next.a0) (cond (decide (m1.from_=1)) (max2 (max2 (min2 (w64 ((cond (decide (m1.from_=0)) w1.node.next.a0 (cond (decide (m1.from_=1)) w1.node.next.a1 w1.node.next.a2)) - 1)) (w64 (m1.index+1))) 1) (w64 ((cond (decide (m1.from_=0)) w1.node.match_.a0 (cond (decide (m1.from_=1)) w1.node.match_.a1 w1.node.match_.a2))+1))) w1.node.next.a1) (cond (decide (m1.from_=2)) (max2 (max2 (min2 (w64 ((cond (decide (m1.from_=0)) w1.node.next.a0 (cond (decide (m1.from_=1)) w1.node.next.a1 w1.node.next.a2)) - 1)) (w64 (m1.index+1))) 1) (w64 ((cond (decide (m1.from_=0)) w1.node.match_.a0 (cond (decide (m1.from_=1)) w1.node.match_.a1 w1.node.match_.a2))+1))) w1.node.next.a2)) w1.node.match_) w1.out)) fun y2 =>
 some y2)
 (some (Worker.mk (Node.mk w1.node.id_ w1.node.term_ w1.node.vote w1.node.base w1.node.baseTerm w1.node.snap w1.node.log w1.node.role w1.node.commit w1.node.wait w1.node.votes (A3Int.mk (cond (decide (m1.from_=0)) (max2 (max2 (min2 (w64 ((cond (decide (m1.from_=0)) w1.node.next.a0 (cond (decide (m1.from_=1)) w1.node.next.a1 w1.node.next.a2)) - 1)) (w64 (m1.index+1))) 1) (w64 ((cond (decide (m1.from_=0)) w1.node.match_.a0 (cond (decide (m1.from_=1)) w1.node.match_.a1 w1.node.match_.a2))+1))) w1.node.next.a0) (cond (decide (m1.from_=1)) (max2 (max2 (min2 (w64 ((cond (decide (m1.from_=0)) w1.node.next.a0 (cond (decide (m1.from_=1)) w1.node.next.a1 w1.node.next.a2)) - 1)) (w64 (m1.index+1))) 1) (w64 ((cond (decide (m1.from_=0)) w1.node.match_.a0 (cond (decide (m1.from_=1)) w1.node.match_.a1 w1.node.match_.a2))+1))) w1.node.next.a1) (cond (decide (m1.from_=2)) (max2 (max2 (min2 (w64 ((cond (decide (m1.from_=0)) w1.node.next.a0 (cond (decide (m1.from_=1)) w1.node.next.a1 w1.node.next.a2)) - 1)) (w64 (m1.index+1))) 1) (w64 ((cond (decide (m1.from_=0)) w1.node.match_.a0 (cond (decide (m1.from_=1)) w1.node.match_.a1 w1.node.match_.a2))+1))) w1.node.next.a2)) w1.node.match_) w1.out)))
 none)
 none)
 none)
 none))
def un_heard (p:Msg×Worker):Option Worker:=heard p.1 p.2
def sf_heard:SFn TL:=SFn.one ch_vote.dec un_heard .normal co_send.enc
def cs_heard:cL:=[(12,df_last_)]
def ss_heard:sL:=[(48,sf_reach),(32,sf_owe)]
def env_heard:Env:=envOf tab sl sh [(29,fd29)] [(48,.sum),(12,.pure),(32,.sum)]
theorem env_heard_ok:EnvOK PR (mkD cs_heard ss_heard) env_heard:=envOK_of base (aC (st29.okl rfl aN) aN) (aC (okS rfl ok_reach) (aC (oD ok_last_ rfl) (aC (okS rfl ok_owe) aN)))
theorem run_heard (x:Msg×Worker):Out.run (mkO cs_heard ss_heard) (evSum env_heard 12 20 29 (ch_vote.enc x)) (back1 co_send)=un_heard x:=by kernel_rfl
theorem ok_heard:SOK PR 29 sf_heard:=sum_one env_heard_ok (loops:=12) (n:=20) st29.enters ch_vote co_send un_heard run_heard
def snap (m1:Msg)(w1:Worker):Option Worker :=
 cond (decide (m1.term_ < w1.node.term_))
 (ob (added m1.from_ false 0 w1) fun y0 =>
 some y0)
 (cond (decide (m1.index > w1.node.commit))
 (ob (last_ (Node.mk w1.node.id_ w1.node.term_ w1.node.vote w1.node.base w1.node.baseTerm w1.node.snap w1.node.log 0 w1.node.commit 0 w1.node.votes w1.node.next w1.node.match_)) fun r1 =>
 cond (decide (m1.index≤r1.1))
 (cond (decide (m1.index > w1.node.base))
 (cond (cond (decide ((w64 ((w64 (m1.index - w1.node.base)) - 1))≥0)) (decide ((w64 ((w64 (m1.index - w1.node.base)) - 1)) < (w1.node.log.length:Int))) false)
 (cond (decide (0≤(w64 ((w64 (m1.index - w1.node.base)) - 1))))
 (cond (decide ((w64 ((w64 (m1.index - w1.node.base)) - 1)) < (w1.node.log.length:Int)))
 (ob (w1.node.log[((w64 ((w64 (m1.index - w1.node.base)) - 1))).toNat]?) fun e2 =>
 cond (e2.term_ == m1.logTerm)
 (cond (decide (0≤(w64 (m1.index - w1.node.base))))
 (cond (decide ((w64 (m1.index - w1.node.base))≤(w1.node.log.length:Int)))
 (cond (decide ((w1.node.log.length:Int)≤(w1.node.log.length:Int)))
 (ob (own ((w1.node.log.take (((w1.node.log.length:Int)).toNat)).drop (((w64 (m1.index - w1.node.base))).toNat))) fun r3 =>
 ob (added m1.from_ true (max2 m1.index w1.node.commit) (Worker.mk (Node.mk w1.node.id_ w1.node.term_ w1.node.vote m1.index m1.logTerm m1.snap r3 0 m1.index 0 w1.node.votes w1.node.next w1.node.match_) w1.out)) fun y9 =>
 some y9)
 none)
 none)
 none)
 (ob (own []) fun r4 =>
 ob (added m1.from_ true (max2 m1.index w1.node.commit) (Worker.mk (Node.mk w1.node.id_ w1.node.term_ w1.node.vote m1.index m1.logTerm m1.snap r4 0 m1.index 0 w1.node.votes w1.node.next w1.node.match_) w1.out)) fun y10 =>
 some y10))
 none)
 none)
 (cond (w1.node.baseTerm == m1.logTerm)
 (cond (decide (0≤(w64 (m1.index - w1.node.base))))
 (cond (decide ((w64 (m1.index - w1.node.base))≤(w1.node.log.length:Int)))
 (cond (decide ((w1.node.log.length:Int)≤(w1.node.log.length:Int)))
 (ob (own ((w1.node.log.take (((w1.node.log.length:Int)).toNat)).drop (((w64 (m1.index - w1.node.base))).toNat))) fun r5 =>
 ob (added m1.from_ true (max2 m1.index w1.node.commit) (Worker.mk (Node.mk w1.node.id_ w1.node.term_ w1.node.vote m1.index m1.logTerm m1.snap r5 0 m1.index 0 w1.node.votes w1.node.next w1.node.match_) w1.out)) fun y11 =>
 some y11)
 none)
 none)
 none)
 (ob (own []) fun r6 =>
 ob (added m1.from_ true (max2 m1.index w1.node.commit) (Worker.mk (Node.mk w1.node.id_ w1.node.term_ w1.node.vote m1.index m1.logTerm m1.snap r6 0 m1.index 0 w1.node.votes w1.node.next w1.node.match_) w1.out)) fun y12 =>
 some y12)))
 (ob (own []) fun r7 =>
 ob (added m1.from_ true (max2 m1.index w1.node.commit) (Worker.mk (Node.mk w1.node.id_ w1.node.term_ w1.node.vote m1.index m1.logTerm m1.snap r7 0 m1.index 0 w1.node.votes w1.node.next w1.node.match_) w1.out)) fun y13 =>
 some y13))
 (ob (own []) fun r8 =>
 ob (added m1.from_ true (max2 m1.index w1.node.commit) (Worker.mk (Node.mk w1.node.id_ w1.node.term_ w1.node.vote m1.index m1.logTerm m1.snap r8 0 m1.index 0 w1.node.votes w1.node.next w1.node.match_) w1.out)) fun y14 =>
 some y14))
 (ob (added m1.from_ true (max2 m1.index w1.node.commit) (Worker.mk (Node.mk w1.node.id_ w1.node.term_ w1.node.vote w1.node.base w1.node.baseTerm w1.node.snap w1.node.log 0 w1.node.commit 0 w1.node.votes w1.node.next w1.node.match_) w1.out)) fun y15 =>
 some y15))
def un_snap (p:Msg×Worker):Option Worker:=snap p.1 p.2
def sf_snap:SFn TL:=SFn.one ch_voted.dec un_snap .normal co_voted.enc
def cs_snap:cL:=[(12,df_last_),(35,df_own)]
def ss_snap:sL:=[(47,sf_added)]
def env_snap:Env:=envOf tab sl sh [(30,fd30),(23,fd23)] [(47,.sum),(12,.pure),(35,(.fresh 32))]
theorem env_snap_ok:EnvOK PR (mkD cs_snap ss_snap) env_snap:=envOK_of base (aC (st30.okl rfl aN) (aC (st23.okl rfl aN) aN)) (aC (okS rfl ok_added) (aC (oD ok_last_ rfl) (aC (oD ok_own rfl) aN)))
theorem run_snap (x:Msg×Worker):Out.run (mkO cs_snap ss_snap) (evSum env_snap 12 20 30 (ch_voted.enc x)) (back1 co_voted)=un_snap x:=by kernel_rfl
theorem ok_snap:SOK PR 30 sf_snap:=sum_one env_snap_ok (loops:=12) (n:=20) st30.enters ch_voted co_voted un_snap run_snap
def take (n1:Node)(m1:Msg):Option (Node×(List Msg)) :=
 ob (own n1.log) fun r0 =>
 cond (cond (decide (m1.from_ < 0)) true (cond (decide (m1.from_≥3)) true (cond (m1.from_ == n1.id_) true (m1.to_ != n1.id_))))
 (ob (own r0) fun r1 =>
 some ((Node.mk n1.id_ n1.term_ n1.vote n1.base n1.baseTerm n1.snap r1 n1.role n1.commit n1.wait n1.votes n1.next n1.match_),[]))
 (cond (cond (decide (m1.kind < 1)) true (cond (decide (m1.kind > 5)) true (cond (decide (m1.term_ < 0)) true (decide (m1.term_ > 1073741824)))))
 (ob (own r0) fun r2 =>
 some ((Node.mk n1.id_ n1.term_ n1.vote n1.base n1.baseTerm n1.snap r2 n1.role n1.commit n1.wait n1.votes n1.next n1.match_),[]))
 (cond (decide (m1.term_ > n1.term_))
 (cond (m1.kind == 1)
 (ob (vote m1 (Worker.mk (Node.mk n1.id_ m1.term_ (-1) n1.base n1.baseTerm n1.snap r0 0 n1.commit n1.wait (A3Bool.mk false false false) n1.next n1.match_) [])) fun y3 =>
 ob (own y3.node.log) fun r8 =>
 some ((Node.mk y3.node.id_ y3.node.term_ y3.node.vote y3.node.base y3.node.baseTerm y3.node.snap r8 y3.node.role y3.node.commit y3.node.wait y3.node.votes y3.node.next y3.node.match_),y3.out))
 (cond (m1.kind == 2)
 (ob (voted m1 (Worker.mk (Node.mk n1.id_ m1.term_ (-1) n1.base n1.baseTerm n1.snap r0 0 n1.commit n1.wait (A3Bool.mk false false false) n1.next n1.match_) [])) fun y4 =>
 ob (own y4.node.log) fun r9 =>
 some ((Node.mk y4.node.id_ y4.node.term_ y4.node.vote y4.node.base y4.node.baseTerm y4.node.snap r9 y4.node.role y4.node.commit y4.node.wait y4.node.votes y4.node.next y4.node.match_),y4.out))
 (cond (m1.kind == 3)
 (ob (add m1 (Worker.mk (Node.mk n1.id_ m1.term_ (-1) n1.base n1.baseTerm n1.snap r0 0 n1.commit n1.wait (A3Bool.mk false false false) n1.next n1.match_) [])) fun y5 =>
 ob (own y5.node.log) fun r10 =>
 some ((Node.mk y5.node.id_ y5.node.term_ y5.node.vote y5.node.base y5.node.baseTerm y5.node.snap r10 y5.node.role y5.node.commit y5.node.wait y5.node.votes y5.node.next y5.node.match_),y5.out))
 (cond (m1.kind == 4)
 (ob (heard m1 (Worker.mk (Node.mk n1.id_ m1.term_ (-1) n1.base n1.baseTerm n1.snap r0 0 n1.commit n1.wait (A3Bool.mk false false false) n1.next n1.match_) [])) fun y6 =>
 ob (own y6.node.log) fun r11 =>
 some ((Node.mk y6.node.id_ y6.node.term_ y6.node.vote y6.node.base y6.node.baseTerm y6.node.snap r11 y6.node.role y6.node.commit y6.node.wait y6.node.votes y6.node.next y6.node.match_),y6.out))
 (cond (m1.kind == 5)
 (ob (snap m1 (Worker.mk (Node.mk n1.id_ m1.term_ (-1) n1.base n1.baseTerm n1.snap r0 0 n1.commit n1.wait (A3Bool.mk false false false) n1.next n1.match_) [])) fun y7 =>
 ob (own y7.node.log) fun r12 =>
 some ((Node.mk y7.node.id_ y7.node.term_ y7.node.vote y7.node.base y7.node.baseTerm y7.node.snap r12 y7.node.role y7.node.commit y7.node.wait y7.node.votes y7.node.next y7.node.match_),y7.out))
 (ob (own r0) fun r13 =>
 some ((Node.mk n1.id_ m1.term_ (-1) n1.base n1.baseTerm n1.snap r13 0 n1.commit n1.wait (A3Bool.mk false false false) n1.next n1.match_),[])))))))
 (cond (m1.kind == 1)
 (ob (vote m1 (Worker.mk (Node.mk n1.id_ n1.term_ n1.vote n1.base n1.baseTerm n1.snap r0 n1.role n1.commit n1.wait n1.votes n1.next n1.match_) [])) fun y14 =>
 ob (own y14.node.log) fun r19 =>
 some ((Node.mk y14.node.id_ y14.node.term_ y14.node.vote y14.node.base y14.node.baseTerm y14.node.snap r19 y14.node.role y14.node.commit y14.node.wait y14.node.votes y14.node.next y14.node.match_),y14.out))
 (cond (m1.kind == 2)
 (ob (voted m1 (Worker.mk (Node.mk n1.id_ n1.term_ n1.vote n1.base n1.baseTerm n1.snap r0 n1.role n1.commit n1.wait n1.votes n1.next n1.match_) [])) fun y15 =>
 ob (own y15.node.log) fun r20 =>
 some ((Node.mk y15.node.id_ y15.node.term_ y15.node.vote y15.node.base y15.node.baseTerm y15.node.snap r20 y15.node.role y15.node.commit y15.node.wait y15.node.votes y15.node.next y15.node.match_),y15.out))
 (cond (m1.kind == 3)
 (ob (add m1 (Worker.mk (Node.mk n1.id_ n1.term_ n1.vote n1.base n1.baseTerm n1.snap r0 n1.role n1.commit n1.wait n1.votes n1.next n1.match_) [])) fun y16 =>
 ob (own y16.node.log) fun r21 =>
 some ((Node.mk y16.node.id_ y16.node.term_ y16.node.vote y16.node.base y16.node.baseTerm y16.node.snap r21 y16.node.role y16.node.commit y16.node.wait y16.node.votes y16.node.next y16.node.match_),y16.out))
 (cond (m1.kind == 4)
 (ob (heard m1 (Worker.mk (Node.mk n1.id_ n1.term_ n1.vote n1.base n1.baseTerm n1.snap r0 n1.role n1.commit n1.wait n1.votes n1.next n1.match_) [])) fun y17 =>
 ob (own y17.node.log) fun r22 =>
 some ((Node.mk y17.node.id_ y17.node.term_ y17.node.vote y17.node.base y17.node.baseTerm y17.node.snap r22 y17.node.role y17.node.commit y17.node.wait y17.node.votes y17.node.next y17.node.match_),y17.out))
 (cond (m1.kind == 5)
 (ob (snap m1 (Worker.mk (Node.mk n1.id_ n1.term_ n1.vote n1.base n1.baseTerm n1.snap r0 n1.role n1.commit n1.wait n1.votes n1.next n1.match_) [])) fun y18 =>
 ob (own y18.node.log) fun r23 =>
 some ((Node.mk y18.node.id_ y18.node.term_ y18.node.vote y18.node.base y18.node.baseTerm y18.node.snap r23 y18.node.role y18.node.commit y18.node.wait y18.node.votes y18.node.next y18.node.match_),y18.out))
 (ob (own r0) fun r24 =>
 some ((Node.mk n1.id_ n1.term_ n1.vote n1.base n1.baseTerm n1.snap r24 n1.role n1.commit n1.wait n1.votes n1.next n1.match_),[])))))))))
def un_take (p:Node×Msg):Option (Node×(List Msg)):=take p.1 p.2
def df_take:DFn TL:=DFn.of (DA.cons (DT.agg dc_Node) (DA.one (DT.agg dc_Msg))) un_take (DA.cons (DT.agg dc_Node) (DA.one (DT.one di_lMsg)))
theorem run_take:DRun [(35,df_own)] [(26,sf_vote),(27,sf_voted),(28,sf_add),(29,sf_heard),(30,sf_snap)] (envOf tab sl sh [(13,fd13),(24,fd24),(25,fd25)] [(35,(.fresh 32)),(26,.sum),(27,.sum),(28,.sum),(29,.sum),(30,.sum)]) 13 (DA.cons (DT.agg dc_Node) (DA.one (DT.agg dc_Msg))) un_take (DA.cons (DT.agg dc_Node) (DA.one (DT.one di_lMsg))):=fun _=>by kernel_rfl
theorem ok_take:DOK PR 13 .keep df_take:=dok run_take (envOK_of base (aC (st13.okl rfl aN) (aC (st24.okl rfl aN) (aC (st25.okl rfl aN) aN))) (aC (oD ok_own rfl) (aC (okS rfl ok_vote) (aC (okS rfl ok_voted) (aC (okS rfl ok_add) (aC (okS rfl ok_heard) (aC (okS rfl ok_snap) aN))))))) (.inl rfl) st13.enters
def propose (n1:Node)(s1:ByteArray):Option (Node×Int×Int) :=
 ob (own n1.log) fun r0 =>
 cond (n1.role != 2)
 (some ((Node.mk n1.id_ n1.term_ n1.vote n1.base n1.baseTerm n1.snap r0 n1.role n1.commit n1.wait n1.votes n1.next n1.match_),0,21))
 (cond (sEq s1 s_empty)
 (some ((Node.mk n1.id_ n1.term_ n1.vote n1.base n1.baseTerm n1.snap r0 n1.role n1.commit n1.wait n1.votes n1.next n1.match_),0,1))
 (cond (fits ((r0++[(Entry.mk n1.term_ s1)]).length))
 (ob (last_ (Node.mk n1.id_ n1.term_ n1.vote n1.base n1.baseTerm n1.snap (r0++[(Entry.mk n1.term_ s1)]) n1.role n1.commit n1.wait n1.votes n1.next n1.match_)) fun r1 =>
 cond (decide (0≤n1.id_) && decide (n1.id_ < 3))
 (ob (own (r0++[(Entry.mk n1.term_ s1)])) fun r2 =>
 some ((Node.mk n1.id_ n1.term_ n1.vote n1.base n1.baseTerm n1.snap r2 n1.role n1.commit n1.wait n1.votes n1.next (A3Int.mk (cond (decide (n1.id_=0)) r1.1 n1.match_.a0) (cond (decide (n1.id_=1)) r1.1 n1.match_.a1) (cond (decide (n1.id_=2)) r1.1 n1.match_.a2))),r1.1,0))
 none)
 none))
def un_propose (p:Node×ByteArray):Option (Node×Int×Int):=propose p.1 p.2
def df_propose:DFn TL:=DFn.of (DA.cons (DT.agg dc_Node) (DA.one (DT.one DI.str))) un_propose (DA.cons (DT.agg dc_Node) (DA.cons dI (DA.one dI)))
theorem run_propose:DRun [(35,df_own),(12,df_last_)] [] (envOf tab sl sh [(14,fd14),(24,fd24),(25,fd25)] [(35,(.fresh 32)),(12,.pure)]) 14 (DA.cons (DT.agg dc_Node) (DA.one (DT.one DI.str))) un_propose (DA.cons (DT.agg dc_Node) (DA.cons dI (DA.one dI))):=fun _=>by kernel_rfl
theorem ok_propose:DOK PR 14 .keep df_propose:=dok run_propose (envOK_of base (aC (st14.okl rfl aN) (aC (st24.okl rfl aN) (aC (st25.okl rfl aN) aN))) (aC (oD ok_own rfl) (aC (oD ok_last_ rfl) aN))) (.inl rfl) st14.enters
def compact (n1:Node)(i1:Int)(s1:ByteArray):Option (Node×Int) :=
 ob (own n1.log) fun r0 =>
 ob (last_ (Node.mk n1.id_ n1.term_ n1.vote n1.base n1.baseTerm n1.snap r0 n1.role n1.commit n1.wait n1.votes n1.next n1.match_)) fun r1 =>
 cond (cond (decide (i1≤n1.base)) true (cond (decide (i1 > n1.commit)) true (decide (i1 > r1.1))))
 (some ((Node.mk n1.id_ n1.term_ n1.vote n1.base n1.baseTerm n1.snap r0 n1.role n1.commit n1.wait n1.votes n1.next n1.match_),1))
 (cond (cond (decide ((w64 ((w64 (i1 - n1.base)) - 1))≥0)) (decide ((w64 ((w64 (i1 - n1.base)) - 1)) < (r0.length:Int))) false)
 (cond (decide (0≤(w64 ((w64 (i1 - n1.base)) - 1))))
 (cond (decide ((w64 ((w64 (i1 - n1.base)) - 1)) < (r0.length:Int)))
 (ob (r0[((w64 ((w64 (i1 - n1.base)) - 1))).toNat]?) fun e2 =>
 cond (decide (0≤(w64 (i1 - n1.base))))
 (cond (decide ((w64 (i1 - n1.base))≤(r0.length:Int)))
 (cond (decide ((r0.length:Int)≤(r0.length:Int)))
 (ob (own ((r0.take (((r0.length:Int)).toNat)).drop (((w64 (i1 - n1.base))).toNat))) fun r3 =>
 some ((Node.mk n1.id_ n1.term_ n1.vote i1 e2.term_ s1 r3 n1.role n1.commit n1.wait n1.votes n1.next n1.match_),0))
 none)
 none)
 none)
 none)
 none)
 (cond (decide (0≤(w64 (i1 - n1.base))))
 (cond (decide ((w64 (i1 - n1.base))≤(r0.length:Int)))
 (cond (decide ((r0.length:Int)≤(r0.length:Int)))
 (ob (own ((r0.take (((r0.length:Int)).toNat)).drop (((w64 (i1 - n1.base))).toNat))) fun r4 =>
 some ((Node.mk n1.id_ n1.term_ n1.vote i1 n1.baseTerm s1 r4 n1.role n1.commit n1.wait n1.votes n1.next n1.match_),0))
 none)
 none)
 none))
def un_compact (p:Node×Int×ByteArray):Option (Node×Int):=compact p.1 p.2.1 p.2.2
def df_compact:DFn TL:=DFn.of (DA.cons (DT.agg dc_Node) (DA.cons dI (DA.one (DT.one DI.str)))) un_compact (DA.cons (DT.agg dc_Node) (DA.one dI))
theorem run_compact:DRun [(35,df_own),(12,df_last_)] [] (envOf tab sl sh [(18,fd18),(24,fd24),(23,fd23)] [(35,(.fresh 32)),(12,.pure)]) 18 (DA.cons (DT.agg dc_Node) (DA.cons dI (DA.one (DT.one DI.str)))) un_compact (DA.cons (DT.agg dc_Node) (DA.one dI)):=fun _=>by kernel_rfl
theorem ok_compact:DOK PR 18 .keep df_compact:=dok run_compact (envOK_of base (aC (st18.okl rfl aN) (aC (st24.okl rfl aN) (aC (st23.okl rfl aN) aN))) (aC (oD ok_own rfl) (aC (oD ok_last_ rfl) aN))) (.inl rfl) st18.enters
def wake (n1:Node):Option Node :=
 ob (own n1.log) fun r0 =>
 some (Node.mk n1.id_ n1.term_ n1.vote n1.base n1.baseTerm n1.snap r0 0 n1.commit 0 (A3Bool.mk false false false) (A3Int.mk 0 0 0) (A3Int.mk 0 0 0))
def un_wake (p:Node):Option Node:=wake p
def df_wake:DFn TL:=DFn.of (DA.one (DT.agg dc_Node)) un_wake (DA.one (DT.agg dc_Node))
theorem run_wake:DRun [(35,df_own)] [] (envOf tab sl sh [(22,fd22)] [(35,(.fresh 32))]) 22 (DA.one (DT.agg dc_Node)) un_wake (DA.one (DT.agg dc_Node)):=fun _=>by kernel_rfl
theorem ok_wake:DOK PR 22 .keep df_wake:=dok run_wake (envOK_of base (aC (st22.okl rfl aN) aN) (aC (oD ok_own rfl) aN)) (.inl rfl) st22.enters
def step_L9_3 (b1:Bool)(i1:Int)(n1:Node):Option ((Bool×Int×Node)⊕(((Bool×Node)⊕(Bool×Node)))) :=
 cond (decide (i1 < 4))
 (ob (tick n1) fun r0 =>
 cond ((r0.2.length:Int) != 0)
 (some (.inr (.inr (false,n1))))
 (some (.inl (b1,(w64 (i1+1)),r0.1))))
 (some (.inr (.inl (b1,n1))))
def stp_L9_3 (p:Bool×Int×Node):Option ((Bool×Int×Node)⊕(((Bool×Node)⊕(Bool×Node)))):=step_L9_3 p.1 p.2.1 p.2.2
def L9_3 (b1:Bool)(i1:Int)(n1:Node):Option (((Bool×Node)⊕(Bool×Node))):=iterO stp_L9_3 ((4 - i1).toNat+2) (b1,i1,n1)
def cc_Node:Cod (List (C TL)) Node:=kO (kC kJ (kC kJ (kC kJ (kC kJ (kC kJ (kC kE (kC (kG j_lEntry) (kC kJ (kC kJ (kC kJ (kC kD (kC kD (kC kD (kC kJ (kC kJ (kC kJ (kC kJ (kC kJ (kC kJ kN))))))))))))))))))) (fun p=>(Node.mk p.1 p.2.1 p.2.2.1 p.2.2.2.1 p.2.2.2.2.1 p.2.2.2.2.2.1 p.2.2.2.2.2.2.1 p.2.2.2.2.2.2.2.1 (t8 p).1 (t8 p).2.1 (A3Bool.mk (t8 p).2.2.1 (t8 p).2.2.2.1 (t8 p).2.2.2.2.1) (A3Int.mk (t8 p).2.2.2.2.2.1 (t8 p).2.2.2.2.2.2.1 (t8 p).2.2.2.2.2.2.2.1) (A3Int.mk (t8 (t8 p)).1 (t8 (t8 p)).2.1 (t8 (t8 p)).2.2.1))) (fun (x:Node)=>(x.id_,(x.term_,(x.vote,(x.base,(x.baseTerm,(x.snap,(x.log,(x.role,(x.commit,(x.wait,(x.votes.a0,(x.votes.a1,(x.votes.a2,(x.next.a0,(x.next.a1,(x.next.a2,(x.match_.a0,(x.match_.a1,(x.match_.a2,())))))))))))))))))))) (fun _=>rfl)
def ch_L9_3:kT (Bool×Int×Node):=kO (kS 1 (kC kB (kC (kP 0 0) (kC kI kN))) (kC (Cod.var 0 28 cc_Node) kN)) (fun p=>(p.1.1,p.1.2.2.1,p.2.1)) (fun (x:Bool×Int×Node)=>((x.1,((),(x.2.1,()))),(x.2.2,()))) (fun _=>rfl)
def co0_L9_3:kT (Bool×Node):=kO (kS 2 (kC kB (kC (kP 0 0) kN)) (kC (Cod.var 0 28 cc_Node) kN)) (fun p=>(p.1.1,p.2.1)) (fun (x:Bool×Node)=>((x.1,((),())),(x.2,()))) (fun _=>rfl)
def sl_L9_3:SFn TL:=SFn.two ch_L9_3.dec (fun p=>L9_3 p.1 p.2.1 p.2.2) (.exit 0) .ret co0_L9_3.enc co0_L9_3.enc
def cs_lL9_3:cL:=[(15,df_tick)]
def v_L9_3:Env:=envOf tab sl sh [] [(15,.keep)]
theorem v_L9_3_ok:EnvOK PR (mkD cs_lL9_3 sZ) v_L9_3:=envOK_of base aN (aC (oD ok_tick rfl) aN)
theorem run_L9_3 (x:Bool×Int×Node):Out.run (mkO cs_lL9_3 sZ) (evRound v_L9_3 12 20 fd9.an q_L9_3 (loopIn (loopsOf fd9.body) 3) (ch_L9_3.enc x)) (back2 ch_L9_3 co0_L9_3 co0_L9_3 (.exit 0) .ret)=stp_L9_3 x:=by kernel_rfl
theorem ok_L9_3:LoopOK PR (oneS sl_L9_3) nt9 q_L9_3 (loopIn (loopsOf fd9.body) 3) :=
  loop_two v_L9_3_ok (loops:=12) (k:=20) (an:=fd9.an) (by kernel_rfl) (FnSt.subl rfl st9.keys (aC (.inl (by kernel_rfl)) aN)) ch_L9_3 co0_L9_3 co0_L9_3 (.exit 0) .ret rfl rfl stp_L9_3 _ run_L9_3 (fun x y h=>⟨_,h⟩) (fun _=>below_iff.1 rfl)
def known  : Option Bool :=
 ob (L9_3 false 0 (Node.mk 0 0 (-1) 0 0 s_empty [] 0 0 0 (A3Bool.mk false false false) (A3Int.mk 0 0 0) (A3Int.mk 0 0 0))) fun y0 =>
 two y0 (fun a1 =>
 ob (tick a1.2) fun r3 =>
 cond ((r3.2.length:Int) == 2)
 (ob (r3.2[0]?) fun e4 =>
 some (cond (e4.kind == 1) (cond (r3.1.role == 1) (r3.1.term_ == 1) false) false))
 (some false)) (fun b2 =>
 some b2.1)
def un_known (_:Unit):Option Bool:=known
def df_known:DFn TL:=DFn.of (DA.nil) un_known (DA.one dB)
theorem run_known:DRun [(15,df_tick)] [(109003,sl_L9_3)] (envOf tab sl sh [(9,fd9),(10,fd10)] [(15,.keep)]) 9 (DA.nil) un_known (DA.one dB):=fun _=>by kernel_rfl
theorem ok_known:DOK PR 9 .pure df_known:=dok run_known (envOK_of base (aC (st9.okl rfl (aC (lC ok_L9_3 rfl) aN)) (aC (st10.okl rfl aN) aN)) (aC (oD ok_tick rfl) aN)) (.inr rfl) st9.enters
def step_L17_3 (i1:Int)(i2:Int)(n1:Node)(n2:Node):Option ((Int×Int×Node×Node)⊕(Int×Node×Node)) :=
 cond (decide (i2 < (w64 (5+(w64 (3 * n2.id_))))))
 (ob (tick n2) fun r0 =>
 some (.inl (i1,(w64 (i2+1)),n1,r0.1)))
 (some (.inr (i1,n1,n2)))
def stp_L17_3 (p:Int×Int×Node×Node):Option ((Int×Int×Node×Node)⊕(Int×Node×Node)):=step_L17_3 p.1 p.2.1 p.2.2.1 p.2.2.2
def L17_3 (i1:Int)(i2:Int)(n1:Node)(n2:Node):Option (Int×Node×Node):=iterO stp_L17_3 (20) (i1,i2,n1,n2)
def step_L17_8 (i1:Int)(i2:Int)(n1:Node)(n2:Node):Option ((Int×Int×Node×Node)⊕(Node×Node)) :=
 cond (decide (i2 < i1))
 (ob (propose n2 (strOfInts [(IntKind.u8.wrap ((w64 (97+i2))))])) fun r0 =>
 some (.inl (i1,(w64 (i2+1)),n1,r0.1)))
 (some (.inr (n1,n2)))
def stp_L17_8 (p:Int×Int×Node×Node):Option ((Int×Int×Node×Node)⊕(Node×Node)):=step_L17_8 p.1 p.2.1 p.2.2.1 p.2.2.2
def L17_8 (i1:Int)(i2:Int)(n1:Node)(n2:Node):Option (Node×Node):=iterO stp_L17_8 ((i1 - i2).toNat+2) (i1,i2,n1,n2)
def lead (i1:Int)(i2:Int):Option Node :=
 ob (L17_3 i2 0 (Node.mk 0 0 0 0 0 s_empty [] 0 0 0 (A3Bool.mk false false false) (A3Int.mk 0 0 0) (A3Int.mk 0 0 0)) (Node.mk ((w64 ((i1.tmod 3)+3)).tmod 3) 0 (-1) 0 0 s_empty [] 0 0 0 (A3Bool.mk false false false) (A3Int.mk 0 0 0) (A3Int.mk 0 0 0))) fun y0 =>
 ob (take y0.2.2 (Msg.mk 2 ((w64 (y0.2.2.id_+1)).tmod 3) y0.2.2.id_ 1 0 0 0 true [] s_empty)) fun r1 =>
 ob (L17_8 y0.1 0 y0.2.1 r1.1) fun y2 =>
 some y2.2
def step_L19_2 (l1:List Act)(b1:Bool)(i1:Int):Option (((List Act)×Bool×Int)⊕((((List Act)×Bool)⊕((List Act)×Bool)))) :=
 cond (decide (i1 < (l1.length:Int)))
 (cond (decide (0≤i1))
 (ob (l1[i1.toNat]?) fun e0 =>
 cond (decide ((e0.cmd.size:Int) > 40))
 (some (.inr (.inr (l1,false))))
 (some (.inl (l1,b1,(w64 (i1+1))))))
 none)
 (some (.inr (.inl (l1,b1))))
def stp_L19_2 (p:(List Act)×Bool×Int):Option (((List Act)×Bool×Int)⊕((((List Act)×Bool)⊕((List Act)×Bool)))):=step_L19_2 p.1 p.2.1 p.2.2
def L19_2 (l1:List Act)(b1:Bool)(i1:Int):Option ((((List Act)×Bool)⊕((List Act)×Bool))):=iterO stp_L19_2 (((l1.length:Int) - i1).toNat+2) (l1,b1,i1)
def ch_L19_2:kT ((List Act)×Bool×Int):=kO (kS 0 (kC (kF j_lAct) (kC kB (kC kI kN))) kN) (fun p=>(p.1.1,p.1.2.1,p.1.2.2.1)) (fun (x:(List Act)×Bool×Int)=>((x.1,(x.2.1,(x.2.2,()))),())) (fun _=>rfl)
def co0_L19_2:kT ((List Act)×Bool):=kO (kS 0 (kC (kF j_lAct) (kC kB kN)) kN) (fun p=>(p.1.1,p.1.2.1)) (fun (x:(List Act)×Bool)=>((x.1,(x.2,())),())) (fun _=>rfl)
def sl_L19_2:SFn TL:=SFn.two ch_L19_2.dec (fun p=>L19_2 p.1 p.2.1 p.2.2) (.exit 0) .ret co0_L19_2.enc co0_L19_2.enc
def v_L19_2:Env:=envOf tab sl sh [] []
theorem v_L19_2_ok:EnvOK PR (mkD cZ sZ) v_L19_2:=envOK_of base aN aN
theorem run_L19_2 (x:(List Act)×Bool×Int):Out.run (mkO cZ sZ) (evRound v_L19_2 12 20 fd19.an q_L19_2 (loopIn (loopsOf fd19.body) 2) (ch_L19_2.enc x)) (back2 ch_L19_2 co0_L19_2 co0_L19_2 (.exit 0) .ret)=stp_L19_2 x:=by kernel_rfl
theorem ok_L19_2:LoopOK PR (oneS sl_L19_2) nt19 q_L19_2 (loopIn (loopsOf fd19.body) 2) :=
  loop_two v_L19_2_ok (loops:=12) (k:=20) (an:=fd19.an) (by kernel_rfl) (FnSt.subl rfl st19.keys (aC (.inl (by kernel_rfl)) aN)) ch_L19_2 co0_L19_2 co0_L19_2 (.exit 0) .ret rfl rfl stp_L19_2 _ run_L19_2 (fun x y h=>⟨_,h⟩) (fun _=>below_iff.1 rfl)
def l15Few (l1:List Act):Option Bool :=
 ob (L19_2 l1 false 0) fun y0 =>
 two y0 (fun a1 =>
 some (decide ((a1.1.length:Int)≤400))) (fun b2 =>
 some b2.2)
def un_l15Few (p:(List Act)):Option Bool:=l15Few p
def df_l15Few:DFn TL:=DFn.of (DA.one (DT.one di_lAct)) un_l15Few (DA.one dB)
theorem run_l15Few:DRun [] [(119002,sl_L19_2)] (envOf tab sl sh [(19,fd19)] []) 19 (DA.one (DT.one di_lAct)) un_l15Few (DA.one dB):=fun _=>by kernel_rfl
theorem ok_l15Few:DOK PR 19 .pure df_l15Few:=dok run_l15Few (envOK_of base (aC (st19.okl rfl (aC (lC ok_L19_2 rfl) aN)) aN) aN) (.inr rfl) st19.enters
def step_L36_3 (i1:Int)(n1:Node)(n2:Node)(n3:Node):Option ((Int×Node×Node×Node)⊕(Node×Node×Node)) :=
 cond (decide (i1 < (n1.log.length:Int)))
 (cond (decide (0≤i1))
 (ob (n1.log[i1.toNat]?) fun e0 =>
 cond (decide (0≤i1))
 (ob (n1.log[i1.toNat]?) fun e1 =>
 cond (fits ((n3.log++[(Entry.mk e0.term_ e1.cmd)]).length))
 (some (.inl ((w64 (i1+1)),n1,n2,(Node.mk n3.id_ n3.term_ n3.vote n3.base n3.baseTerm n3.snap (n3.log++[(Entry.mk e0.term_ e1.cmd)]) n3.role n3.commit n3.wait n3.votes n3.next n3.match_))))
 none)
 none)
 none)
 (some (.inr (n1,n2,n3)))
def stp_L36_3 (p:Int×Node×Node×Node):Option ((Int×Node×Node×Node)⊕(Node×Node×Node)):=step_L36_3 p.1 p.2.1 p.2.2.1 p.2.2.2
def L36_3 (i1:Int)(n1:Node)(n2:Node)(n3:Node):Option (Node×Node×Node):=iterO stp_L36_3 (1099511627776) (i1,n1,n2,n3)
def ch_L36_3:kT (Int×Node×Node×Node):=kO (kS 5 (kC (kP 0 0) (kC (kP 1 0) (kC (kP 2 0) (kC kI kN)))) (kC (Cod.var 0 28 cc_Node) (kC (Cod.var 1 78 (kC kJ (kC kJ (kC kJ (kC kJ (kC kJ (kC kE (kC (kA 3) (kC kJ (kC kJ (kC kJ (kC kD (kC kD (kC kD (kC kJ (kC kJ (kC kJ (kC kJ (kC kJ (kC kJ kN)))))))))))))))))))) (kC (Cod.var 2 78 (kC kJ (kC kJ (kC kJ (kC kJ (kC kJ (kC kE (kC (kA 4) (kC kJ (kC kJ (kC kJ (kC kD (kC kD (kC kD (kC kJ (kC kJ (kC kJ (kC kJ (kC kJ (kC kJ kN)))))))))))))))))))) (kC (kR 3 98 j_lEntry) (kC (kR 4 98 j_lEntry) kN)))))) (fun p=>(p.1.2.2.2.1,p.2.1,(Node.mk p.2.2.1.1 p.2.2.1.2.1 p.2.2.1.2.2.1 p.2.2.1.2.2.2.1 p.2.2.1.2.2.2.2.1 p.2.2.1.2.2.2.2.2.1 p.2.2.2.2.1 p.2.2.1.2.2.2.2.2.2.2.1 (t8 p.2.2.1).1 (t8 p.2.2.1).2.1 (A3Bool.mk (t8 p.2.2.1).2.2.1 (t8 p.2.2.1).2.2.2.1 (t8 p.2.2.1).2.2.2.2.1) (A3Int.mk (t8 p.2.2.1).2.2.2.2.2.1 (t8 p.2.2.1).2.2.2.2.2.2.1 (t8 p.2.2.1).2.2.2.2.2.2.2.1) (A3Int.mk (t8 (t8 p.2.2.1)).1 (t8 (t8 p.2.2.1)).2.1 (t8 (t8 p.2.2.1)).2.2.1)),(Node.mk p.2.2.2.1.1 p.2.2.2.1.2.1 p.2.2.2.1.2.2.1 p.2.2.2.1.2.2.2.1 p.2.2.2.1.2.2.2.2.1 p.2.2.2.1.2.2.2.2.2.1 p.2.2.2.2.2.1 p.2.2.2.1.2.2.2.2.2.2.2.1 (t8 p.2.2.2.1).1 (t8 p.2.2.2.1).2.1 (A3Bool.mk (t8 p.2.2.2.1).2.2.1 (t8 p.2.2.2.1).2.2.2.1 (t8 p.2.2.2.1).2.2.2.2.1) (A3Int.mk (t8 p.2.2.2.1).2.2.2.2.2.1 (t8 p.2.2.2.1).2.2.2.2.2.2.1 (t8 p.2.2.2.1).2.2.2.2.2.2.2.1) (A3Int.mk (t8 (t8 p.2.2.2.1)).1 (t8 (t8 p.2.2.2.1)).2.1 (t8 (t8 p.2.2.2.1)).2.2.1)))) (fun (x:Int×Node×Node×Node)=>(((),((),((),(x.1,())))),(x.2.1,((x.2.2.1.id_,(x.2.2.1.term_,(x.2.2.1.vote,(x.2.2.1.base,(x.2.2.1.baseTerm,(x.2.2.1.snap,((),(x.2.2.1.role,(x.2.2.1.commit,(x.2.2.1.wait,(x.2.2.1.votes.a0,(x.2.2.1.votes.a1,(x.2.2.1.votes.a2,(x.2.2.1.next.a0,(x.2.2.1.next.a1,(x.2.2.1.next.a2,(x.2.2.1.match_.a0,(x.2.2.1.match_.a1,(x.2.2.1.match_.a2,()))))))))))))))))))),((x.2.2.2.id_,(x.2.2.2.term_,(x.2.2.2.vote,(x.2.2.2.base,(x.2.2.2.baseTerm,(x.2.2.2.snap,((),(x.2.2.2.role,(x.2.2.2.commit,(x.2.2.2.wait,(x.2.2.2.votes.a0,(x.2.2.2.votes.a1,(x.2.2.2.votes.a2,(x.2.2.2.next.a0,(x.2.2.2.next.a1,(x.2.2.2.next.a2,(x.2.2.2.match_.a0,(x.2.2.2.match_.a1,(x.2.2.2.match_.a2,()))))))))))))))))))),(x.2.2.1.log,(x.2.2.2.log,()))))))) (fun _=>rfl)
def co0_L36_3:kT (Node×Node×Node):=kO (kS 10 (kC (kP 1 0) (kC (kP 2 0) kN)) (kC (Cod.var 0 28 cc_Node) (kC (Cod.var 1 78 (kC kJ (kC kJ (kC kJ (kC kJ (kC kJ (kC kE (kC (kA 8) (kC kJ (kC kJ (kC kJ (kC kD (kC kD (kC kD (kC kJ (kC kJ (kC kJ (kC kJ (kC kJ (kC kJ kN)))))))))))))))))))) (kC (Cod.var 2 78 (kC kJ (kC kJ (kC kJ (kC kJ (kC kJ (kC kE (kC (kA 9) (kC kJ (kC kJ (kC kJ (kC kD (kC kD (kC kD (kC kJ (kC kJ (kC kJ (kC kJ (kC kJ (kC kJ kN)))))))))))))))))))) (kC (kR 8 98 j_lEntry) (kC (kR 9 98 j_lEntry) kN)))))) (fun p=>(p.2.1,(Node.mk p.2.2.1.1 p.2.2.1.2.1 p.2.2.1.2.2.1 p.2.2.1.2.2.2.1 p.2.2.1.2.2.2.2.1 p.2.2.1.2.2.2.2.2.1 p.2.2.2.2.1 p.2.2.1.2.2.2.2.2.2.2.1 (t8 p.2.2.1).1 (t8 p.2.2.1).2.1 (A3Bool.mk (t8 p.2.2.1).2.2.1 (t8 p.2.2.1).2.2.2.1 (t8 p.2.2.1).2.2.2.2.1) (A3Int.mk (t8 p.2.2.1).2.2.2.2.2.1 (t8 p.2.2.1).2.2.2.2.2.2.1 (t8 p.2.2.1).2.2.2.2.2.2.2.1) (A3Int.mk (t8 (t8 p.2.2.1)).1 (t8 (t8 p.2.2.1)).2.1 (t8 (t8 p.2.2.1)).2.2.1)),(Node.mk p.2.2.2.1.1 p.2.2.2.1.2.1 p.2.2.2.1.2.2.1 p.2.2.2.1.2.2.2.1 p.2.2.2.1.2.2.2.2.1 p.2.2.2.1.2.2.2.2.2.1 p.2.2.2.2.2.1 p.2.2.2.1.2.2.2.2.2.2.2.1 (t8 p.2.2.2.1).1 (t8 p.2.2.2.1).2.1 (A3Bool.mk (t8 p.2.2.2.1).2.2.1 (t8 p.2.2.2.1).2.2.2.1 (t8 p.2.2.2.1).2.2.2.2.1) (A3Int.mk (t8 p.2.2.2.1).2.2.2.2.2.1 (t8 p.2.2.2.1).2.2.2.2.2.2.1 (t8 p.2.2.2.1).2.2.2.2.2.2.2.1) (A3Int.mk (t8 (t8 p.2.2.2.1)).1 (t8 (t8 p.2.2.2.1)).2.1 (t8 (t8 p.2.2.2.1)).2.2.1)))) (fun (x:Node×Node×Node)=>(((),((),())),(x.1,((x.2.1.id_,(x.2.1.term_,(x.2.1.vote,(x.2.1.base,(x.2.1.baseTerm,(x.2.1.snap,((),(x.2.1.role,(x.2.1.commit,(x.2.1.wait,(x.2.1.votes.a0,(x.2.1.votes.a1,(x.2.1.votes.a2,(x.2.1.next.a0,(x.2.1.next.a1,(x.2.1.next.a2,(x.2.1.match_.a0,(x.2.1.match_.a1,(x.2.1.match_.a2,()))))))))))))))))))),((x.2.2.id_,(x.2.2.term_,(x.2.2.vote,(x.2.2.base,(x.2.2.baseTerm,(x.2.2.snap,((),(x.2.2.role,(x.2.2.commit,(x.2.2.wait,(x.2.2.votes.a0,(x.2.2.votes.a1,(x.2.2.votes.a2,(x.2.2.next.a0,(x.2.2.next.a1,(x.2.2.next.a2,(x.2.2.match_.a0,(x.2.2.match_.a1,(x.2.2.match_.a2,()))))))))))))))))))),(x.2.1.log,(x.2.2.log,()))))))) (fun _=>rfl)
def sl_L36_3:SFn TL:=SFn.one ch_L36_3.dec (fun p=>L36_3 p.1 p.2.1 p.2.2.1 p.2.2.2) (.exit 0) co0_L36_3.enc
def v_L36_3:Env:=envOf tab sl sh [] []
theorem v_L36_3_ok:EnvOK PR (mkD cZ sZ) v_L36_3:=envOK_of base aN aN
theorem run_L36_3 (x:Int×Node×Node×Node):Out.run (mkO cZ sZ) (evRound v_L36_3 12 20 fd36.an q_L36_3 (loopIn (loopsOf fd36.body) 3) (ch_L36_3.enc x)) (back ch_L36_3 co0_L36_3 fun e=>exE e (.exit 0))=stp_L36_3 x:=by kernel_rfl
theorem ok_L36_3:LoopOK PR (oneS sl_L36_3) nt36 q_L36_3 (loopIn (loopsOf fd36.body) 3) :=
  loop_one v_L36_3_ok (loops:=12) (k:=20) (an:=fd36.an) (by kernel_rfl) (FnSt.subl rfl st36.keys (aC (.inl (by kernel_rfl)) aN)) ch_L36_3 co0_L36_3 (.exit 0) rfl stp_L36_3 _ run_L36_3 (fun x y h=>⟨_,h⟩) (fun _=>below_iff.1 rfl)
def l15_toRef (n1:Node):Option Node :=
 ob (L36_3 0 n1 (Node.mk 0 0 0 0 0 s_empty [] 0 0 0 (A3Bool.mk false false false) (A3Int.mk 0 0 0) (A3Int.mk 0 0 0)) (Node.mk n1.id_ n1.term_ n1.vote n1.base n1.baseTerm n1.snap [] n1.role n1.commit n1.wait n1.votes n1.next n1.match_)) fun y0 =>
 some y0.2.2
def un_l15_toRef (p:Node):Option Node:=l15_toRef p
def df_l15_toRef:DFn TL:=DFn.of (DA.one (DT.agg dc_Node)) un_l15_toRef (DA.one (DT.agg dc_Node))
theorem run_l15_toRef:DRun [] [(136003,sl_L36_3)] (envOf tab sl sh [(36,fd36)] []) 36 (DA.one (DT.agg dc_Node)) un_l15_toRef (DA.one (DT.agg dc_Node)):=fun _=>by kernel_rfl
theorem ok_l15_toRef:DOK PR 36 .keep df_l15_toRef:=dok run_l15_toRef (envOK_of base (aC (st36.okl rfl (aC (lC ok_L36_3 rfl) aN)) aN) aN) (.inl rfl) st36.enters
def step_L52_3 (i1:Int)(l1:List Int)(i2:Int):Option ((Int×(List Int)×Int)⊕((List Int))) :=
 cond (decide (i2 < 3))
 (cond (i2 != i1)
 (cond (fits ((l1++[i2]).length))
 (some (.inl (i1,(l1++[i2]),(w64 (i2+1)))))
 none)
 (some (.inl (i1,l1,(w64 (i2+1))))))
 (some (.inr l1))
def stp_L52_3 (p:Int×(List Int)×Int):Option ((Int×(List Int)×Int)⊕((List Int))):=step_L52_3 p.1 p.2.1 p.2.2
def L52_3 (i1:Int)(l1:List Int)(i2:Int):Option ((List Int)):=iterO stp_L52_3 ((3 - i2).toNat+2) (i1,l1,i2)
def ch_L52_3:kT (Int×(List Int)×Int):=kO (kS 1 (kC kI (kC (Cod.xs (Cod.sc (kA 0))) (kC kI kN))) (kC (kR 0 3 j_lInt) kN)) (fun p=>(p.1.1,p.2.1,p.1.2.2.1)) (fun (x:Int×(List Int)×Int)=>((x.1,((),(x.2.2,()))),(x.2.1,()))) (fun _=>rfl)
def co0_L52_3:kT ((List Int)):=kO (kS 2 (kC (Cod.xs (Cod.sc (kA 1))) kN) (kC (kR 1 3 j_lInt) kN)) (fun p=>p.2.1) (fun (x:(List Int))=>(((),()),(x,()))) (fun _=>rfl)
def sl_L52_3:SFn TL:=SFn.one ch_L52_3.dec (fun p=>L52_3 p.1 p.2.1 p.2.2) (.exit 0) co0_L52_3.enc
def v_L52_3:Env:=envOf tab sl sh [] []
theorem v_L52_3_ok:EnvOK PR (mkD cZ sZ) v_L52_3:=envOK_of base aN aN
theorem run_L52_3 (x:Int×(List Int)×Int):Out.run (mkO cZ sZ) (evRound v_L52_3 12 20 fd52.an q_L52_3 (loopIn (loopsOf fd52.body) 3) (ch_L52_3.enc x)) (back ch_L52_3 co0_L52_3 fun e=>exE e (.exit 0))=stp_L52_3 x:=by kernel_rfl
theorem ok_L52_3:LoopOK PR (oneS sl_L52_3) nt52 q_L52_3 (loopIn (loopsOf fd52.body) 3) :=
  loop_one v_L52_3_ok (loops:=12) (k:=20) (an:=fd52.an) (by kernel_rfl) (FnSt.subl rfl st52.keys (aC (.inl (by kernel_rfl)) aN)) ch_L52_3 co0_L52_3 (.exit 0) rfl stp_L52_3 _ run_L52_3 (fun x y h=>⟨_,h⟩) (fun _=>below_iff.1 rfl)
def ref15_others (i1:Int):Option ((List Int)) :=
 ob (L52_3 i1 [] 0) fun y0 =>
 some y0
def un_ref15_others (p:Int):Option ((List Int)):=ref15_others p
def df_ref15_others:DFn TL:=DFn.of (DA.one dI) un_ref15_others (DA.one (DT.one di_lInt))
theorem run_ref15_others:DRun [] [(152003,sl_L52_3)] (envOf tab sl sh [(52,fd52)] []) 52 (DA.one dI) un_ref15_others (DA.one (DT.one di_lInt)):=fun _=>by kernel_rfl
theorem ok_ref15_others:DOK PR 52 .keep df_ref15_others:=dok run_ref15_others (envOK_of base (aC (st52.okl rfl (aC (lC ok_L52_3 rfl) aN)) aN) aN) (.inl rfl) st52.enters
def ref15TermAt (n1:Node)(i1:Int):Option Int :=
 cond (i1 == n1.base)
 (some n1.baseTerm)
 (cond (cond (decide (i1 < n1.base)) true (decide (i1 > (w64 (n1.base+(n1.log.length:Int))))))
 (some (-1))
 (cond (decide (0≤(w64 ((w64 (i1 - n1.base)) - 1))))
 (ob (n1.log[((w64 ((w64 (i1 - n1.base)) - 1))).toNat]?) fun e0 =>
 some e0.term_)
 none))
def un_ref15TermAt (p:Node×Int):Option Int:=ref15TermAt p.1 p.2
def df_ref15TermAt:DFn TL:=DFn.of (DA.cons (DT.agg dc_Node) (DA.one dI)) un_ref15TermAt (DA.one dI)
theorem run_ref15TermAt:DRun [] [] (envOf tab sl sh [(58,fd58)] []) 58 (DA.cons (DT.agg dc_Node) (DA.one dI)) un_ref15TermAt (DA.one dI):=fun _=>by kernel_rfl
theorem ok_ref15TermAt:DOK PR 58 .pure df_ref15TermAt:=dok run_ref15TermAt (envOK_of base (aC (st58.okl rfl aN) aN) aN) (.inr rfl) st58.enters
def step_L61_8 (i1:Int)(n1:Node)(m1:Msg)(m2:Msg):Option ((Int×Node×Msg×Msg)⊕(Node×Msg×Msg)) :=
 cond (cond (decide (i1 < (n1.log.length:Int))) (decide ((m2.entries.length:Int) < 8)) false)
 (cond (decide (0≤i1))
 (ob (n1.log[i1.toNat]?) fun e0 =>
 cond (fits ((m2.entries++[e0]).length))
 (some (.inl ((w64 (i1+1)),n1,m1,(Msg.mk m2.kind m2.from_ m2.to_ m2.term_ m2.index m2.logTerm m2.commit m2.yes (m2.entries++[e0]) m2.snap))))
 none)
 none)
 (some (.inr (n1,m1,m2)))
def stp_L61_8 (p:Int×Node×Msg×Msg):Option ((Int×Node×Msg×Msg)⊕(Node×Msg×Msg)):=step_L61_8 p.1 p.2.1 p.2.2.1 p.2.2.2
def L61_8 (i1:Int)(n1:Node)(m1:Msg)(m2:Msg):Option (Node×Msg×Msg):=iterO stp_L61_8 (1099511627776) (i1,n1,m1,m2)
def ch_L61_8:kT (Int×Node×Msg×Msg):=kO (kS 5 (kC (kP 0 0) (kC (kP 1 0) (kC (kP 2 0) (kC kI kN)))) (kC (Cod.var 0 78 cc_Node) (kC (Cod.var 1 86 (kC kJ (kC kJ (kC kJ (kC kJ (kC kJ (kC kJ (kC kJ (kC kD (kC (kA 3) (kC kE kN))))))))))) (kC (Cod.var 2 86 (kC kJ (kC kJ (kC kJ (kC kJ (kC kJ (kC kJ (kC kJ (kC kD (kC (kA 4) (kC kE kN))))))))))) (kC (kR 3 98 j_lEntry) (kC (kR 4 98 j_lEntry) kN)))))) (fun p=>(p.1.2.2.2.1,p.2.1,(Msg.mk p.2.2.1.1 p.2.2.1.2.1 p.2.2.1.2.2.1 p.2.2.1.2.2.2.1 p.2.2.1.2.2.2.2.1 p.2.2.1.2.2.2.2.2.1 p.2.2.1.2.2.2.2.2.2.1 p.2.2.1.2.2.2.2.2.2.2.1 p.2.2.2.2.1 (t8 p.2.2.1).2.1),(Msg.mk p.2.2.2.1.1 p.2.2.2.1.2.1 p.2.2.2.1.2.2.1 p.2.2.2.1.2.2.2.1 p.2.2.2.1.2.2.2.2.1 p.2.2.2.1.2.2.2.2.2.1 p.2.2.2.1.2.2.2.2.2.2.1 p.2.2.2.1.2.2.2.2.2.2.2.1 p.2.2.2.2.2.1 (t8 p.2.2.2.1).2.1))) (fun (x:Int×Node×Msg×Msg)=>(((),((),((),(x.1,())))),(x.2.1,((x.2.2.1.kind,(x.2.2.1.from_,(x.2.2.1.to_,(x.2.2.1.term_,(x.2.2.1.index,(x.2.2.1.logTerm,(x.2.2.1.commit,(x.2.2.1.yes,((),(x.2.2.1.snap,())))))))))),((x.2.2.2.kind,(x.2.2.2.from_,(x.2.2.2.to_,(x.2.2.2.term_,(x.2.2.2.index,(x.2.2.2.logTerm,(x.2.2.2.commit,(x.2.2.2.yes,((),(x.2.2.2.snap,())))))))))),(x.2.2.1.entries,(x.2.2.2.entries,()))))))) (fun _=>rfl)
def co0_L61_8:kT (Node×Msg×Msg):=kO (kS 10 (kC (kP 1 0) (kC (kP 2 0) kN)) (kC (Cod.var 0 78 cc_Node) (kC (Cod.var 1 86 (kC kJ (kC kJ (kC kJ (kC kJ (kC kJ (kC kJ (kC kJ (kC kD (kC (kA 8) (kC kE kN))))))))))) (kC (Cod.var 2 86 (kC kJ (kC kJ (kC kJ (kC kJ (kC kJ (kC kJ (kC kJ (kC kD (kC (kA 9) (kC kE kN))))))))))) (kC (kR 8 98 j_lEntry) (kC (kR 9 98 j_lEntry) kN)))))) (fun p=>(p.2.1,(Msg.mk p.2.2.1.1 p.2.2.1.2.1 p.2.2.1.2.2.1 p.2.2.1.2.2.2.1 p.2.2.1.2.2.2.2.1 p.2.2.1.2.2.2.2.2.1 p.2.2.1.2.2.2.2.2.2.1 p.2.2.1.2.2.2.2.2.2.2.1 p.2.2.2.2.1 (t8 p.2.2.1).2.1),(Msg.mk p.2.2.2.1.1 p.2.2.2.1.2.1 p.2.2.2.1.2.2.1 p.2.2.2.1.2.2.2.1 p.2.2.2.1.2.2.2.2.1 p.2.2.2.1.2.2.2.2.2.1 p.2.2.2.1.2.2.2.2.2.2.1 p.2.2.2.1.2.2.2.2.2.2.2.1 p.2.2.2.2.2.1 (t8 p.2.2.2.1).2.1))) (fun (x:Node×Msg×Msg)=>(((),((),())),(x.1,((x.2.1.kind,(x.2.1.from_,(x.2.1.to_,(x.2.1.term_,(x.2.1.index,(x.2.1.logTerm,(x.2.1.commit,(x.2.1.yes,((),(x.2.1.snap,())))))))))),((x.2.2.kind,(x.2.2.from_,(x.2.2.to_,(x.2.2.term_,(x.2.2.index,(x.2.2.logTerm,(x.2.2.commit,(x.2.2.yes,((),(x.2.2.snap,())))))))))),(x.2.1.entries,(x.2.2.entries,()))))))) (fun _=>rfl)
def sl_L61_8:SFn TL:=SFn.one ch_L61_8.dec (fun p=>L61_8 p.1 p.2.1 p.2.2.1 p.2.2.2) (.exit 0) co0_L61_8.enc
def v_L61_8:Env:=envOf tab sl sh [] []
theorem v_L61_8_ok:EnvOK PR (mkD cZ sZ) v_L61_8:=envOK_of base aN aN
theorem run_L61_8 (x:Int×Node×Msg×Msg):Out.run (mkO cZ sZ) (evRound v_L61_8 12 20 fd61.an q_L61_8 (loopIn (loopsOf fd61.body) 8) (ch_L61_8.enc x)) (back ch_L61_8 co0_L61_8 fun e=>exE e (.exit 0))=stp_L61_8 x:=by kernel_rfl
theorem ok_L61_8:LoopOK PR (oneS sl_L61_8) nt61 q_L61_8 (loopIn (loopsOf fd61.body) 8) :=
  loop_one v_L61_8_ok (loops:=12) (k:=20) (an:=fd61.an) (by kernel_rfl) (FnSt.subl rfl st61.keys (aC (.inl (by kernel_rfl)) aN)) ch_L61_8 co0_L61_8 (.exit 0) rfl stp_L61_8 _ run_L61_8 (fun x y h=>⟨_,h⟩) (fun _=>below_iff.1 rfl)
def ref15_owes (n1:Node)(i1:Int):Option Msg :=
 cond (decide (0≤i1) && decide (i1 < 3))
 (cond (decide ((cond (decide (i1=0)) n1.next.a0 (cond (decide (i1=1)) n1.next.a1 n1.next.a2))≤n1.base))
 (some (Msg.mk 5 n1.id_ i1 n1.term_ n1.base n1.baseTerm 0 false [] n1.snap))
 (ob (ref15TermAt n1 (w64 ((cond (decide (i1=0)) n1.next.a0 (cond (decide (i1=1)) n1.next.a1 n1.next.a2)) - 1))) fun r0 =>
 ob (L61_8 (w64 ((w64 ((cond (decide (i1=0)) n1.next.a0 (cond (decide (i1=1)) n1.next.a1 n1.next.a2)) - n1.base)) - 1)) n1 (Msg.mk 0 0 0 0 0 0 0 false [] s_empty) (Msg.mk 3 n1.id_ i1 n1.term_ (w64 ((cond (decide (i1=0)) n1.next.a0 (cond (decide (i1=1)) n1.next.a1 n1.next.a2)) - 1)) r0 n1.commit false [] s_empty)) fun y1 =>
 some y1.2.2))
 none
def un_ref15_owes (p:Node×Int):Option Msg:=ref15_owes p.1 p.2
def df_ref15_owes:DFn TL:=DFn.of (DA.cons (DT.agg dc_Node) (DA.one dI)) un_ref15_owes (DA.one (DT.agg dc_Msg))
theorem run_ref15_owes:DRun [(58,df_ref15TermAt)] [(161008,sl_L61_8)] (envOf tab sl sh [(61,fd61)] [(58,.pure)]) 61 (DA.cons (DT.agg dc_Node) (DA.one dI)) un_ref15_owes (DA.one (DT.agg dc_Msg)):=fun _=>by kernel_rfl
theorem ok_ref15_owes:DOK PR 61 .keep df_ref15_owes:=dok run_ref15_owes (envOK_of base (aC (st61.okl rfl (aC (lC ok_L61_8 rfl) aN)) aN) (aC (oD ok_ref15TermAt rfl) aN)) (.inl rfl) st61.enters
abbrev tY5:=(List Msg)×(List Int)×Int×Node
def step_L50_4 (l1:List Msg)(l2:List Int)(i1:Int)(n1:Node):Option ((tY5)⊕((List Msg)×Node)) :=
 cond (decide (i1 < 2))
 (cond (decide (0≤i1))
 (ob (l2[i1.toNat]?) fun e0 =>
 ob (ref15_owes n1 e0) fun r1 =>
 cond (fits ((l1++[r1]).length))
 (some (.inl ((l1++[r1]),l2,(w64 (i1+1)),n1)))
 none)
 none)
 (some (.inr (l1,n1)))
def stp_L50_4 (p:tY5):Option ((tY5)⊕((List Msg)×Node)):=step_L50_4 p.1 p.2.1 p.2.2.1 p.2.2.2
def L50_4 (l1:List Msg)(l2:List Int)(i1:Int)(n1:Node):Option ((List Msg)×Node):=iterO stp_L50_4 ((2 - i1).toNat+2) (l1,l2,i1,n1)
def ch_L50_4:kT (tY5):=kO (kS 2 (kC (kP 0 0) (kC (Cod.xs (Cod.sc (kA 1))) (kC (kF j_lInt) (kC kI kN)))) (kC (Cod.var 0 78 cc_Node) (kC (kR 1 86 j_lMsg) kN))) (fun p=>(p.2.2.1,p.1.2.2.1,p.1.2.2.2.1,p.2.1)) (fun (x:tY5)=>(((),((),(x.2.1,(x.2.2.1,())))),(x.2.2.2,(x.1,())))) (fun _=>rfl)
def co0_L50_4:kT ((List Msg)×Node):=kO (kS 4 (kC (Cod.xs (Cod.sc (kA 3))) kN) (kC (Cod.var 0 78 cc_Node) (kC (kR 3 86 j_lMsg) kN))) (fun p=>(p.2.2.1,p.2.1)) (fun (x:(List Msg)×Node)=>(((),()),(x.2,(x.1,())))) (fun _=>rfl)
def sl_L50_4:SFn TL:=SFn.one ch_L50_4.dec (fun p=>L50_4 p.1 p.2.1 p.2.2.1 p.2.2.2) (.exit 0) co0_L50_4.enc
def cs_lL50_4:cL:=[(61,df_ref15_owes)]
def v_L50_4:Env:=envOf tab sl sh [] [(61,.keep)]
theorem v_L50_4_ok:EnvOK PR (mkD cs_lL50_4 sZ) v_L50_4:=envOK_of base aN (aC (oD ok_ref15_owes rfl) aN)
theorem run_L50_4 (x:tY5):Out.run (mkO cs_lL50_4 sZ) (evRound v_L50_4 12 20 fd50.an q_L50_4 (loopIn (loopsOf fd50.body) 4) (ch_L50_4.enc x)) (back ch_L50_4 co0_L50_4 fun e=>exE e (.exit 0))=stp_L50_4 x:=by kernel_rfl
theorem ok_L50_4:LoopOK PR (oneS sl_L50_4) nt50 q_L50_4 (loopIn (loopsOf fd50.body) 4) :=
  loop_one v_L50_4_ok (loops:=12) (k:=20) (an:=fd50.an) (by kernel_rfl) (FnSt.subl rfl st50.keys (aC (.inl (by kernel_rfl)) aN)) ch_L50_4 co0_L50_4 (.exit 0) rfl stp_L50_4 _ run_L50_4 (fun x y h=>⟨_,h⟩) (fun _=>below_iff.1 rfl)
def ref15_send (n1:Node):Option ((List Msg)) :=
 ob (ref15_others n1.id_) fun r0 =>
 ob (L50_4 [] r0 0 n1) fun y1 =>
 some y1.1
def un_ref15_send (p:Node):Option ((List Msg)):=ref15_send p
def df_ref15_send:DFn TL:=DFn.of (DA.one (DT.agg dc_Node)) un_ref15_send (DA.one (DT.one di_lMsg))
theorem run_ref15_send:DRun [(52,df_ref15_others)] [(150004,sl_L50_4)] (envOf tab sl sh [(50,fd50)] [(52,.keep)]) 50 (DA.one (DT.agg dc_Node)) un_ref15_send (DA.one (DT.one di_lMsg)):=fun _=>by kernel_rfl
theorem ok_ref15_send:DOK PR 50 .keep df_ref15_send:=dok run_ref15_send (envOK_of base (aC (st50.okl rfl (aC (lC ok_L50_4 rfl) aN)) aN) (aC (oD ok_ref15_others rfl) aN)) (.inl rfl) st50.enters
def ref15Last (n1:Node):Option (Int×Int) :=
 cond ((n1.log.length:Int) == 0)
 (some (n1.base,n1.baseTerm))
 (cond (decide (0≤(w64 ((n1.log.length:Int) - 1))))
 (ob (n1.log[((w64 ((n1.log.length:Int) - 1))).toNat]?) fun e0 =>
 some ((w64 (n1.base+(n1.log.length:Int))),e0.term_))
 none)
def un_ref15Last (p:Node):Option (Int×Int):=ref15Last p
def df_ref15Last:DFn TL:=DFn.of (DA.one (DT.agg dc_Node)) un_ref15Last (DA.cons dI (DA.one dI))
theorem run_ref15Last:DRun [] [] (envOf tab sl sh [(51,fd51)] []) 51 (DA.one (DT.agg dc_Node)) un_ref15Last (DA.cons dI (DA.one dI)):=fun _=>by kernel_rfl
theorem ok_ref15Last:DOK PR 51 .pure df_ref15Last:=dok run_ref15Last (envOK_of base (aC (st51.okl rfl aN) aN) aN) (.inr rfl) st51.enters
abbrev tY6:=Int×Int×(List Msg)×(List Int)×Int×Node×Node
def step_L37_13 (i1:Int)(i2:Int)(l1:List Msg)(l2:List Int)(i3:Int)(n1:Node)(n2:Node):Option ((tY6)⊕((List Msg)×Node×Node)) :=
 cond (decide (i3 < 2))
 (cond (decide (0≤i3))
 (ob (l2[i3.toNat]?) fun e0 =>
 cond (fits ((l1++[(Msg.mk 1 n1.id_ e0 n1.term_ i1 i2 0 false [] s_empty)]).length))
 (some (.inl (i1,i2,(l1++[(Msg.mk 1 n1.id_ e0 n1.term_ i1 i2 0 false [] s_empty)]),l2,(w64 (i3+1)),n1,n2)))
 none)
 none)
 (some (.inr (l1,n1,n2)))
def stp_L37_13 (p:tY6):Option ((tY6)⊕((List Msg)×Node×Node)):=step_L37_13 p.1 p.2.1 p.2.2.1 p.2.2.2.1 p.2.2.2.2.1 p.2.2.2.2.2.1 p.2.2.2.2.2.2
def L37_13 (i1:Int)(i2:Int)(l1:List Msg)(l2:List Int)(i3:Int)(n1:Node)(n2:Node):Option ((List Msg)×Node×Node):=iterO stp_L37_13 ((2 - i3).toNat+2) (i1,i2,l1,l2,i3,n1,n2)
def ch_L37_13:kT (tY6):=kO (kS 4 (kC (kP 0 0) (kC (kP 1 0) (kC kI (kC kI (kC (Cod.xs (Cod.sc (kA 2))) (kC (kF j_lInt) (kC kI kN))))))) (kC (Cod.var 0 78 cc_Node) (kC (Cod.var 1 78 (kC kJ (kC kJ (kC kJ (kC kJ (kC kJ (kC kE (kC (kA 3) (kC kJ (kC kJ (kC kJ (kC kD (kC kD (kC kD (kC kJ (kC kJ (kC kJ (kC kJ (kC kJ (kC kJ kN)))))))))))))))))))) (kC (kR 2 86 j_lMsg) (kC (kR 3 98 j_lEntry) kN))))) (fun p=>(p.1.2.2.1,p.1.2.2.2.1,p.2.2.2.1,p.1.2.2.2.2.2.1,p.1.2.2.2.2.2.2.1,p.2.1,(Node.mk p.2.2.1.1 p.2.2.1.2.1 p.2.2.1.2.2.1 p.2.2.1.2.2.2.1 p.2.2.1.2.2.2.2.1 p.2.2.1.2.2.2.2.2.1 p.2.2.2.2.1 p.2.2.1.2.2.2.2.2.2.2.1 (t8 p.2.2.1).1 (t8 p.2.2.1).2.1 (A3Bool.mk (t8 p.2.2.1).2.2.1 (t8 p.2.2.1).2.2.2.1 (t8 p.2.2.1).2.2.2.2.1) (A3Int.mk (t8 p.2.2.1).2.2.2.2.2.1 (t8 p.2.2.1).2.2.2.2.2.2.1 (t8 p.2.2.1).2.2.2.2.2.2.2.1) (A3Int.mk (t8 (t8 p.2.2.1)).1 (t8 (t8 p.2.2.1)).2.1 (t8 (t8 p.2.2.1)).2.2.1)))) (fun (x:tY6)=>(((),((),(x.1,(x.2.1,((),(x.2.2.2.1,(x.2.2.2.2.1,()))))))),(x.2.2.2.2.2.1,((x.2.2.2.2.2.2.id_,(x.2.2.2.2.2.2.term_,(x.2.2.2.2.2.2.vote,(x.2.2.2.2.2.2.base,(x.2.2.2.2.2.2.baseTerm,(x.2.2.2.2.2.2.snap,((),(x.2.2.2.2.2.2.role,(x.2.2.2.2.2.2.commit,(x.2.2.2.2.2.2.wait,(x.2.2.2.2.2.2.votes.a0,(x.2.2.2.2.2.2.votes.a1,(x.2.2.2.2.2.2.votes.a2,(x.2.2.2.2.2.2.next.a0,(x.2.2.2.2.2.2.next.a1,(x.2.2.2.2.2.2.next.a2,(x.2.2.2.2.2.2.match_.a0,(x.2.2.2.2.2.2.match_.a1,(x.2.2.2.2.2.2.match_.a2,()))))))))))))))))))),(x.2.2.1,(x.2.2.2.2.2.2.log,())))))) (fun _=>rfl)
def co0_L37_13:kT ((List Msg)×Node×Node):=kO (kS 8 (kC (kP 0 0) (kC (kP 1 0) (kC (Cod.xs (Cod.sc (kA 6))) kN))) (kC (Cod.var 0 78 cc_Node) (kC (Cod.var 1 78 (kC kJ (kC kJ (kC kJ (kC kJ (kC kJ (kC kE (kC (kA 7) (kC kJ (kC kJ (kC kJ (kC kD (kC kD (kC kD (kC kJ (kC kJ (kC kJ (kC kJ (kC kJ (kC kJ kN)))))))))))))))))))) (kC (kR 6 86 j_lMsg) (kC (kR 7 98 j_lEntry) kN))))) (fun p=>(p.2.2.2.1,p.2.1,(Node.mk p.2.2.1.1 p.2.2.1.2.1 p.2.2.1.2.2.1 p.2.2.1.2.2.2.1 p.2.2.1.2.2.2.2.1 p.2.2.1.2.2.2.2.2.1 p.2.2.2.2.1 p.2.2.1.2.2.2.2.2.2.2.1 (t8 p.2.2.1).1 (t8 p.2.2.1).2.1 (A3Bool.mk (t8 p.2.2.1).2.2.1 (t8 p.2.2.1).2.2.2.1 (t8 p.2.2.1).2.2.2.2.1) (A3Int.mk (t8 p.2.2.1).2.2.2.2.2.1 (t8 p.2.2.1).2.2.2.2.2.2.1 (t8 p.2.2.1).2.2.2.2.2.2.2.1) (A3Int.mk (t8 (t8 p.2.2.1)).1 (t8 (t8 p.2.2.1)).2.1 (t8 (t8 p.2.2.1)).2.2.1)))) (fun (x:(List Msg)×Node×Node)=>(((),((),((),()))),(x.2.1,((x.2.2.id_,(x.2.2.term_,(x.2.2.vote,(x.2.2.base,(x.2.2.baseTerm,(x.2.2.snap,((),(x.2.2.role,(x.2.2.commit,(x.2.2.wait,(x.2.2.votes.a0,(x.2.2.votes.a1,(x.2.2.votes.a2,(x.2.2.next.a0,(x.2.2.next.a1,(x.2.2.next.a2,(x.2.2.match_.a0,(x.2.2.match_.a1,(x.2.2.match_.a2,()))))))))))))))))))),(x.1,(x.2.2.log,())))))) (fun _=>rfl)
def sl_L37_13:SFn TL:=SFn.one ch_L37_13.dec (fun p=>L37_13 p.1 p.2.1 p.2.2.1 p.2.2.2.1 p.2.2.2.2.1 p.2.2.2.2.2.1 p.2.2.2.2.2.2) (.exit 0) co0_L37_13.enc
def v_L37_13:Env:=envOf tab sl sh [] []
theorem v_L37_13_ok:EnvOK PR (mkD cZ sZ) v_L37_13:=envOK_of base aN aN
theorem run_L37_13 (x:tY6):Out.run (mkO cZ sZ) (evRound v_L37_13 12 20 fd37.an q_L37_13 (loopIn (loopsOf fd37.body) 13) (ch_L37_13.enc x)) (back ch_L37_13 co0_L37_13 fun e=>exE e (.exit 0))=stp_L37_13 x:=by kernel_rfl
theorem ok_L37_13:LoopOK PR (oneS sl_L37_13) nt37 q_L37_13 (loopIn (loopsOf fd37.body) 13) :=
  loop_one v_L37_13_ok (loops:=12) (k:=20) (an:=fd37.an) (by kernel_rfl) (FnSt.subl rfl st37.keys (aC (.inl (by kernel_rfl)) aN)) ch_L37_13 co0_L37_13 (.exit 0) rfl stp_L37_13 _ run_L37_13 (fun x y h=>⟨_,h⟩) (fun _=>below_iff.1 rfl)
def ref15Tick (n1:Node):Option (Node×(List Msg)) :=
 cond (n1.role == 2)
 (ob (ref15_send n1) fun r0 =>
 some (n1,r0))
 (cond (cond (decide ((w64 (n1.wait+1)) < (w64 (5+(w64 (3 * n1.id_)))))) true (decide (n1.term_≥1073741824)))
 (some ((Node.mk n1.id_ n1.term_ n1.vote n1.base n1.baseTerm n1.snap n1.log n1.role n1.commit (w64 (n1.wait+1)) n1.votes n1.next n1.match_),[]))
 (cond (decide (0≤n1.id_) && decide (n1.id_ < 3))
 (ob (ref15Last (Node.mk n1.id_ (w64 (n1.term_+1)) n1.id_ n1.base n1.baseTerm n1.snap n1.log 1 n1.commit 0 (A3Bool.mk (cond (decide (n1.id_=0)) true false) (cond (decide (n1.id_=1)) true false) (cond (decide (n1.id_=2)) true false)) n1.next n1.match_)) fun r1 =>
 ob (ref15_others n1.id_) fun r2 =>
 ob (L37_13 r1.1 r1.2 [] r2 0 (Node.mk n1.id_ (w64 (n1.term_+1)) n1.id_ n1.base n1.baseTerm n1.snap n1.log 1 n1.commit 0 (A3Bool.mk (cond (decide (n1.id_=0)) true false) (cond (decide (n1.id_=1)) true false) (cond (decide (n1.id_=2)) true false)) n1.next n1.match_) (Node.mk 0 0 0 0 0 s_empty [] 0 0 0 (A3Bool.mk false false false) (A3Int.mk 0 0 0) (A3Int.mk 0 0 0))) fun y3 =>
 some (y3.2.1,y3.1))
 none))
def un_ref15Tick (p:Node):Option (Node×(List Msg)):=ref15Tick p
def df_ref15Tick:DFn TL:=DFn.of (DA.one (DT.agg dc_Node)) un_ref15Tick (DA.cons (DT.agg dc_Node) (DA.one (DT.one di_lMsg)))
theorem run_ref15Tick:DRun [(50,df_ref15_send),(51,df_ref15Last),(52,df_ref15_others)] [(137013,sl_L37_13)] (envOf tab sl sh [(37,fd37)] [(50,.keep),(51,.pure),(52,.keep)]) 37 (DA.one (DT.agg dc_Node)) un_ref15Tick (DA.cons (DT.agg dc_Node) (DA.one (DT.one di_lMsg))):=fun _=>by kernel_rfl
theorem ok_ref15Tick:DOK PR 37 .keep df_ref15Tick:=dok run_ref15Tick (envOK_of base (aC (st37.okl rfl (aC (lC ok_L37_13 rfl) aN)) aN) (aC (oD ok_ref15_send rfl) (aC (oD ok_ref15Last rfl) (aC (oD ok_ref15_others rfl) aN)))) (.inl rfl) st37.enters
def step_L40_3 (i1:Int)(m1:Msg)(m2:Msg)(m3:Msg):Option ((Int×Msg×Msg×Msg)⊕(Msg×Msg×Msg)) :=
 cond (decide (i1 < (m1.entries.length:Int)))
 (cond (decide (0≤i1))
 (ob (m1.entries[i1.toNat]?) fun e0 =>
 cond (decide (0≤i1))
 (ob (m1.entries[i1.toNat]?) fun e1 =>
 cond (fits ((m3.entries++[(Entry.mk e0.term_ e1.cmd)]).length))
 (some (.inl ((w64 (i1+1)),m1,m2,(Msg.mk m3.kind m3.from_ m3.to_ m3.term_ m3.index m3.logTerm m3.commit m3.yes (m3.entries++[(Entry.mk e0.term_ e1.cmd)]) m3.snap))))
 none)
 none)
 none)
 (some (.inr (m1,m2,m3)))
def stp_L40_3 (p:Int×Msg×Msg×Msg):Option ((Int×Msg×Msg×Msg)⊕(Msg×Msg×Msg)):=step_L40_3 p.1 p.2.1 p.2.2.1 p.2.2.2
def L40_3 (i1:Int)(m1:Msg)(m2:Msg)(m3:Msg):Option (Msg×Msg×Msg):=iterO stp_L40_3 (1099511627776) (i1,m1,m2,m3)
def ch_L40_3:kT (Int×Msg×Msg×Msg):=kO (kS 5 (kC (kP 0 0) (kC (kP 1 0) (kC (kP 2 0) (kC kI kN)))) (kC (Cod.var 0 39 cc_Msg) (kC (Cod.var 1 86 (kC kJ (kC kJ (kC kJ (kC kJ (kC kJ (kC kJ (kC kJ (kC kD (kC (kA 3) (kC kE kN))))))))))) (kC (Cod.var 2 86 (kC kJ (kC kJ (kC kJ (kC kJ (kC kJ (kC kJ (kC kJ (kC kD (kC (kA 4) (kC kE kN))))))))))) (kC (kR 3 98 j_lEntry) (kC (kR 4 98 j_lEntry) kN)))))) (fun p=>(p.1.2.2.2.1,p.2.1,(Msg.mk p.2.2.1.1 p.2.2.1.2.1 p.2.2.1.2.2.1 p.2.2.1.2.2.2.1 p.2.2.1.2.2.2.2.1 p.2.2.1.2.2.2.2.2.1 p.2.2.1.2.2.2.2.2.2.1 p.2.2.1.2.2.2.2.2.2.2.1 p.2.2.2.2.1 (t8 p.2.2.1).2.1),(Msg.mk p.2.2.2.1.1 p.2.2.2.1.2.1 p.2.2.2.1.2.2.1 p.2.2.2.1.2.2.2.1 p.2.2.2.1.2.2.2.2.1 p.2.2.2.1.2.2.2.2.2.1 p.2.2.2.1.2.2.2.2.2.2.1 p.2.2.2.1.2.2.2.2.2.2.2.1 p.2.2.2.2.2.1 (t8 p.2.2.2.1).2.1))) (fun (x:Int×Msg×Msg×Msg)=>(((),((),((),(x.1,())))),(x.2.1,((x.2.2.1.kind,(x.2.2.1.from_,(x.2.2.1.to_,(x.2.2.1.term_,(x.2.2.1.index,(x.2.2.1.logTerm,(x.2.2.1.commit,(x.2.2.1.yes,((),(x.2.2.1.snap,())))))))))),((x.2.2.2.kind,(x.2.2.2.from_,(x.2.2.2.to_,(x.2.2.2.term_,(x.2.2.2.index,(x.2.2.2.logTerm,(x.2.2.2.commit,(x.2.2.2.yes,((),(x.2.2.2.snap,())))))))))),(x.2.2.1.entries,(x.2.2.2.entries,()))))))) (fun _=>rfl)
def co0_L40_3:kT (Msg×Msg×Msg):=kO (kS 10 (kC (kP 1 0) (kC (kP 2 0) kN)) (kC (Cod.var 0 39 cc_Msg) (kC (Cod.var 1 86 (kC kJ (kC kJ (kC kJ (kC kJ (kC kJ (kC kJ (kC kJ (kC kD (kC (kA 8) (kC kE kN))))))))))) (kC (Cod.var 2 86 (kC kJ (kC kJ (kC kJ (kC kJ (kC kJ (kC kJ (kC kJ (kC kD (kC (kA 9) (kC kE kN))))))))))) (kC (kR 8 98 j_lEntry) (kC (kR 9 98 j_lEntry) kN)))))) (fun p=>(p.2.1,(Msg.mk p.2.2.1.1 p.2.2.1.2.1 p.2.2.1.2.2.1 p.2.2.1.2.2.2.1 p.2.2.1.2.2.2.2.1 p.2.2.1.2.2.2.2.2.1 p.2.2.1.2.2.2.2.2.2.1 p.2.2.1.2.2.2.2.2.2.2.1 p.2.2.2.2.1 (t8 p.2.2.1).2.1),(Msg.mk p.2.2.2.1.1 p.2.2.2.1.2.1 p.2.2.2.1.2.2.1 p.2.2.2.1.2.2.2.1 p.2.2.2.1.2.2.2.2.1 p.2.2.2.1.2.2.2.2.2.1 p.2.2.2.1.2.2.2.2.2.2.1 p.2.2.2.1.2.2.2.2.2.2.2.1 p.2.2.2.2.2.1 (t8 p.2.2.2.1).2.1))) (fun (x:Msg×Msg×Msg)=>(((),((),())),(x.1,((x.2.1.kind,(x.2.1.from_,(x.2.1.to_,(x.2.1.term_,(x.2.1.index,(x.2.1.logTerm,(x.2.1.commit,(x.2.1.yes,((),(x.2.1.snap,())))))))))),((x.2.2.kind,(x.2.2.from_,(x.2.2.to_,(x.2.2.term_,(x.2.2.index,(x.2.2.logTerm,(x.2.2.commit,(x.2.2.yes,((),(x.2.2.snap,())))))))))),(x.2.1.entries,(x.2.2.entries,()))))))) (fun _=>rfl)
def sl_L40_3:SFn TL:=SFn.one ch_L40_3.dec (fun p=>L40_3 p.1 p.2.1 p.2.2.1 p.2.2.2) (.exit 0) co0_L40_3.enc
def v_L40_3:Env:=envOf tab sl sh [] []
theorem v_L40_3_ok:EnvOK PR (mkD cZ sZ) v_L40_3:=envOK_of base aN aN
theorem run_L40_3 (x:Int×Msg×Msg×Msg):Out.run (mkO cZ sZ) (evRound v_L40_3 12 20 fd40.an q_L40_3 (loopIn (loopsOf fd40.body) 3) (ch_L40_3.enc x)) (back ch_L40_3 co0_L40_3 fun e=>exE e (.exit 0))=stp_L40_3 x:=by kernel_rfl
theorem ok_L40_3:LoopOK PR (oneS sl_L40_3) nt40 q_L40_3 (loopIn (loopsOf fd40.body) 3) :=
  loop_one v_L40_3_ok (loops:=12) (k:=20) (an:=fd40.an) (by kernel_rfl) (FnSt.subl rfl st40.keys (aC (.inl (by kernel_rfl)) aN)) ch_L40_3 co0_L40_3 (.exit 0) rfl stp_L40_3 _ run_L40_3 (fun x y h=>⟨_,h⟩) (fun _=>below_iff.1 rfl)
def l15_toRefMsg (m1:Msg):Option Msg :=
 ob (L40_3 0 m1 (Msg.mk 0 0 0 0 0 0 0 false [] s_empty) (Msg.mk m1.kind m1.from_ m1.to_ m1.term_ m1.index m1.logTerm m1.commit m1.yes [] m1.snap)) fun y0 =>
 some y0.2.2
def un_l15_toRefMsg (p:Msg):Option Msg:=l15_toRefMsg p
def df_l15_toRefMsg:DFn TL:=DFn.of (DA.one (DT.agg dc_Msg)) un_l15_toRefMsg (DA.one (DT.agg dc_Msg))
theorem run_l15_toRefMsg:DRun [] [(140003,sl_L40_3)] (envOf tab sl sh [(40,fd40)] []) 40 (DA.one (DT.agg dc_Msg)) un_l15_toRefMsg (DA.one (DT.agg dc_Msg)):=fun _=>by kernel_rfl
theorem ok_l15_toRefMsg:DOK PR 40 .keep df_l15_toRefMsg:=dok run_l15_toRefMsg (envOK_of base (aC (st40.okl rfl (aC (lC ok_L40_3 rfl) aN)) aN) aN) (.inl rfl) st40.enters
def ref15_vote (n1:Node)(m1:Msg):Option (Node×(List Msg)) :=
 ob (ref15Last n1) fun r0 =>
 cond (cond (m1.term_ == n1.term_) (cond (n1.vote == (-1)) (cond (decide (m1.logTerm > r0.2)) true (cond (m1.logTerm == r0.2) (decide (m1.index≥r0.1)) false)) (cond (n1.vote == m1.from_) (cond (decide (m1.logTerm > r0.2)) true (cond (m1.logTerm == r0.2) (decide (m1.index≥r0.1)) false)) false)) false)
 (some ((Node.mk n1.id_ n1.term_ m1.from_ n1.base n1.baseTerm n1.snap n1.log n1.role n1.commit 0 n1.votes n1.next n1.match_),[(Msg.mk 2 n1.id_ m1.from_ n1.term_ 0 0 0 (cond (m1.term_ == n1.term_) (cond (n1.vote == (-1)) (cond (decide (m1.logTerm > r0.2)) true (cond (m1.logTerm == r0.2) (decide (m1.index≥r0.1)) false)) (cond (n1.vote == m1.from_) (cond (decide (m1.logTerm > r0.2)) true (cond (m1.logTerm == r0.2) (decide (m1.index≥r0.1)) false)) false)) false) [] s_empty)]))
 (some (n1,[(Msg.mk 2 n1.id_ m1.from_ n1.term_ 0 0 0 (cond (m1.term_ == n1.term_) (cond (n1.vote == (-1)) (cond (decide (m1.logTerm > r0.2)) true (cond (m1.logTerm == r0.2) (decide (m1.index≥r0.1)) false)) (cond (n1.vote == m1.from_) (cond (decide (m1.logTerm > r0.2)) true (cond (m1.logTerm == r0.2) (decide (m1.index≥r0.1)) false)) false)) false) [] s_empty)]))
def un_ref15_vote (p:Node×Msg):Option (Node×(List Msg)):=ref15_vote p.1 p.2
def df_ref15_vote:DFn TL:=DFn.of (DA.cons (DT.agg dc_Node) (DA.one (DT.agg dc_Msg))) un_ref15_vote (DA.cons (DT.agg dc_Node) (DA.one (DT.one di_lMsg)))
theorem run_ref15_vote:DRun [(51,df_ref15Last)] [] (envOf tab sl sh [(53,fd53)] [(51,.pure)]) 53 (DA.cons (DT.agg dc_Node) (DA.one (DT.agg dc_Msg))) un_ref15_vote (DA.cons (DT.agg dc_Node) (DA.one (DT.one di_lMsg))):=fun _=>by kernel_rfl
theorem ok_ref15_vote:DOK PR 53 .keep df_ref15_vote:=dok run_ref15_vote (envOK_of base (aC (st53.okl rfl aN) aN) (aC (oD ok_ref15Last rfl) aN)) (.inl rfl) st53.enters
def step_L54_6 (i1:Int)(i2:Int)(n1:Node)(n2:Node):Option ((Int×Int×Node×Node)⊕(Int×Node×Node)) :=
 cond (decide (i2 < 3))
 (cond (decide (0≤i2) && decide (i2 < 3))
 (some (.inl ((cond (cond (decide (i2=0)) n1.votes.a0 (cond (decide (i2=1)) n1.votes.a1 n1.votes.a2)) (w64 (i1+1)) i1),(w64 (i2+1)),n1,n2)))
 none)
 (some (.inr (i1,n1,n2)))
def stp_L54_6 (p:Int×Int×Node×Node):Option ((Int×Int×Node×Node)⊕(Int×Node×Node)):=step_L54_6 p.1 p.2.1 p.2.2.1 p.2.2.2
def L54_6 (i1:Int)(i2:Int)(n1:Node)(n2:Node):Option (Int×Node×Node):=iterO stp_L54_6 ((3 - i2).toNat+2) (i1,i2,n1,n2)
def ch_L54_6:kT (Int×Int×Node×Node):=kO (kS 3 (kC (kP 0 0) (kC (kP 1 0) (kC kI (kC kI kN)))) (kC (Cod.var 0 78 cc_Node) (kC (Cod.var 1 78 (kC kJ (kC kJ (kC kJ (kC kJ (kC kJ (kC kE (kC (kA 2) (kC kJ (kC kJ (kC kJ (kC kD (kC kD (kC kD (kC kJ (kC kJ (kC kJ (kC kJ (kC kJ (kC kJ kN)))))))))))))))))))) (kC (kR 2 98 j_lEntry) kN)))) (fun p=>(p.1.2.2.1,p.1.2.2.2.1,p.2.1,(Node.mk p.2.2.1.1 p.2.2.1.2.1 p.2.2.1.2.2.1 p.2.2.1.2.2.2.1 p.2.2.1.2.2.2.2.1 p.2.2.1.2.2.2.2.2.1 p.2.2.2.1 p.2.2.1.2.2.2.2.2.2.2.1 (t8 p.2.2.1).1 (t8 p.2.2.1).2.1 (A3Bool.mk (t8 p.2.2.1).2.2.1 (t8 p.2.2.1).2.2.2.1 (t8 p.2.2.1).2.2.2.2.1) (A3Int.mk (t8 p.2.2.1).2.2.2.2.2.1 (t8 p.2.2.1).2.2.2.2.2.2.1 (t8 p.2.2.1).2.2.2.2.2.2.2.1) (A3Int.mk (t8 (t8 p.2.2.1)).1 (t8 (t8 p.2.2.1)).2.1 (t8 (t8 p.2.2.1)).2.2.1)))) (fun (x:Int×Int×Node×Node)=>(((),((),(x.1,(x.2.1,())))),(x.2.2.1,((x.2.2.2.id_,(x.2.2.2.term_,(x.2.2.2.vote,(x.2.2.2.base,(x.2.2.2.baseTerm,(x.2.2.2.snap,((),(x.2.2.2.role,(x.2.2.2.commit,(x.2.2.2.wait,(x.2.2.2.votes.a0,(x.2.2.2.votes.a1,(x.2.2.2.votes.a2,(x.2.2.2.next.a0,(x.2.2.2.next.a1,(x.2.2.2.next.a2,(x.2.2.2.match_.a0,(x.2.2.2.match_.a1,(x.2.2.2.match_.a2,()))))))))))))))))))),(x.2.2.2.log,()))))) (fun _=>rfl)
def co0_L54_6:kT (Int×Node×Node):=kO (kS 6 (kC (kP 0 0) (kC (kP 1 0) (kC kI kN))) (kC (Cod.var 0 78 cc_Node) (kC (Cod.var 1 78 (kC kJ (kC kJ (kC kJ (kC kJ (kC kJ (kC kE (kC (kA 5) (kC kJ (kC kJ (kC kJ (kC kD (kC kD (kC kD (kC kJ (kC kJ (kC kJ (kC kJ (kC kJ (kC kJ kN)))))))))))))))))))) (kC (kR 5 98 j_lEntry) kN)))) (fun p=>(p.1.2.2.1,p.2.1,(Node.mk p.2.2.1.1 p.2.2.1.2.1 p.2.2.1.2.2.1 p.2.2.1.2.2.2.1 p.2.2.1.2.2.2.2.1 p.2.2.1.2.2.2.2.2.1 p.2.2.2.1 p.2.2.1.2.2.2.2.2.2.2.1 (t8 p.2.2.1).1 (t8 p.2.2.1).2.1 (A3Bool.mk (t8 p.2.2.1).2.2.1 (t8 p.2.2.1).2.2.2.1 (t8 p.2.2.1).2.2.2.2.1) (A3Int.mk (t8 p.2.2.1).2.2.2.2.2.1 (t8 p.2.2.1).2.2.2.2.2.2.1 (t8 p.2.2.1).2.2.2.2.2.2.2.1) (A3Int.mk (t8 (t8 p.2.2.1)).1 (t8 (t8 p.2.2.1)).2.1 (t8 (t8 p.2.2.1)).2.2.1)))) (fun (x:Int×Node×Node)=>(((),((),(x.1,()))),(x.2.1,((x.2.2.id_,(x.2.2.term_,(x.2.2.vote,(x.2.2.base,(x.2.2.baseTerm,(x.2.2.snap,((),(x.2.2.role,(x.2.2.commit,(x.2.2.wait,(x.2.2.votes.a0,(x.2.2.votes.a1,(x.2.2.votes.a2,(x.2.2.next.a0,(x.2.2.next.a1,(x.2.2.next.a2,(x.2.2.match_.a0,(x.2.2.match_.a1,(x.2.2.match_.a2,()))))))))))))))))))),(x.2.2.log,()))))) (fun _=>rfl)
def sl_L54_6:SFn TL:=SFn.one ch_L54_6.dec (fun p=>L54_6 p.1 p.2.1 p.2.2.1 p.2.2.2) (.exit 0) co0_L54_6.enc
def v_L54_6:Env:=envOf tab sl sh [] []
theorem v_L54_6_ok:EnvOK PR (mkD cZ sZ) v_L54_6:=envOK_of base aN aN
theorem run_L54_6 (x:Int×Int×Node×Node):Out.run (mkO cZ sZ) (evRound v_L54_6 12 20 fd54.an q_L54_6 (loopIn (loopsOf fd54.body) 6) (ch_L54_6.enc x)) (back ch_L54_6 co0_L54_6 fun e=>exE e (.exit 0))=stp_L54_6 x:=by kernel_rfl
theorem ok_L54_6:LoopOK PR (oneS sl_L54_6) nt54 q_L54_6 (loopIn (loopsOf fd54.body) 6) :=
  loop_one v_L54_6_ok (loops:=12) (k:=20) (an:=fd54.an) (by kernel_rfl) (FnSt.subl rfl st54.keys (aC (.inl (by kernel_rfl)) aN)) ch_L54_6 co0_L54_6 (.exit 0) rfl stp_L54_6 _ run_L54_6 (fun x y h=>⟨_,h⟩) (fun _=>below_iff.1 rfl)
def ref15_voted (n1:Node)(m1:Msg):Option (Node×(List Msg)) :=
 cond (cond (m1.term_ != n1.term_) true (cond (n1.role != 1) true (!m1.yes)))
 (some (n1,[]))
 (cond (decide (0≤m1.from_) && decide (m1.from_ < 3))
 (ob (L54_6 0 0 (Node.mk n1.id_ n1.term_ n1.vote n1.base n1.baseTerm n1.snap n1.log n1.role n1.commit n1.wait (A3Bool.mk (cond (decide (m1.from_=0)) true n1.votes.a0) (cond (decide (m1.from_=1)) true n1.votes.a1) (cond (decide (m1.from_=2)) true n1.votes.a2)) n1.next n1.match_) (Node.mk 0 0 0 0 0 s_empty [] 0 0 0 (A3Bool.mk false false false) (A3Int.mk 0 0 0) (A3Int.mk 0 0 0))) fun y0 =>
 cond (decide (y0.1 < 2))
 (some (y0.2.1,[]))
 (cond (fits (([]++y0.2.1.log).length))
 (cond (fits ((([]++y0.2.1.log)++[(Entry.mk y0.2.1.term_ s_empty)]).length))
 (ob (ref15Last (Node.mk y0.2.1.id_ y0.2.1.term_ y0.2.1.vote y0.2.1.base y0.2.1.baseTerm y0.2.1.snap (([]++y0.2.1.log)++[(Entry.mk y0.2.1.term_ s_empty)]) 2 y0.2.1.commit y0.2.1.wait y0.2.1.votes y0.2.1.next y0.2.1.match_)) fun r1 =>
 cond (decide (0≤y0.2.1.id_) && decide (y0.2.1.id_ < 3))
 (ob (ref15_send (Node.mk y0.2.1.id_ y0.2.1.term_ y0.2.1.vote y0.2.1.base y0.2.1.baseTerm y0.2.1.snap (([]++y0.2.1.log)++[(Entry.mk y0.2.1.term_ s_empty)]) 2 y0.2.1.commit y0.2.1.wait y0.2.1.votes (A3Int.mk r1.1 r1.1 r1.1) (A3Int.mk (cond (decide (y0.2.1.id_=0)) r1.1 0) (cond (decide (y0.2.1.id_=1)) r1.1 0) (cond (decide (y0.2.1.id_=2)) r1.1 0)))) fun r2 =>
 some ((Node.mk y0.2.1.id_ y0.2.1.term_ y0.2.1.vote y0.2.1.base y0.2.1.baseTerm y0.2.1.snap (([]++y0.2.1.log)++[(Entry.mk y0.2.1.term_ s_empty)]) 2 y0.2.1.commit y0.2.1.wait y0.2.1.votes (A3Int.mk r1.1 r1.1 r1.1) (A3Int.mk (cond (decide (y0.2.1.id_=0)) r1.1 0) (cond (decide (y0.2.1.id_=1)) r1.1 0) (cond (decide (y0.2.1.id_=2)) r1.1 0))),r2))
 none)
 none)
 none))
 none)
def un_ref15_voted (p:Node×Msg):Option (Node×(List Msg)):=ref15_voted p.1 p.2
def df_ref15_voted:DFn TL:=DFn.of (DA.cons (DT.agg dc_Node) (DA.one (DT.agg dc_Msg))) un_ref15_voted (DA.cons (DT.agg dc_Node) (DA.one (DT.one di_lMsg)))
theorem run_ref15_voted:DRun [(51,df_ref15Last),(50,df_ref15_send)] [(154006,sl_L54_6)] (envOf tab sl sh [(54,fd54)] [(51,.pure),(50,.keep)]) 54 (DA.cons (DT.agg dc_Node) (DA.one (DT.agg dc_Msg))) un_ref15_voted (DA.cons (DT.agg dc_Node) (DA.one (DT.one di_lMsg))):=fun _=>by kernel_rfl
theorem ok_ref15_voted:DOK PR 54 .keep df_ref15_voted:=dok run_ref15_voted (envOK_of base (aC (st54.okl rfl (aC (lC ok_L54_6 rfl) aN)) aN) (aC (oD ok_ref15Last rfl) (aC (oD ok_ref15_send rfl) aN))) (.inl rfl) st54.enters
abbrev tY7:=(List Entry)×Int×Node×Msg×Node×Msg
def step_L55_14 (l1:List Entry)(i1:Int)(n1:Node)(m1:Msg)(n2:Node)(m2:Msg):Option ((tY7)⊕((List Entry)×Node×Msg×Node×Msg)) :=
 cond (decide (i1 < (m1.entries.length:Int)))
 (cond (decide ((w64 ((w64 (m1.index - n1.base))+i1)) < (l1.length:Int)))
 (cond (decide (0≤(w64 ((w64 (m1.index - n1.base))+i1))))
 (cond (decide ((w64 ((w64 (m1.index - n1.base))+i1)) < (l1.length:Int)))
 (ob (l1[((w64 ((w64 (m1.index - n1.base))+i1))).toNat]?) fun e0 =>
 cond (decide (0≤i1))
 (ob (m1.entries[i1.toNat]?) fun e1 =>
 cond (e0.term_ != e1.term_)
 (cond (decide (0≤(w64 ((w64 (m1.index - n1.base))+i1))))
 (cond (decide ((w64 ((w64 (m1.index - n1.base))+i1))≤(l1.length:Int)))
 (cond (decide ((w64 ((w64 (m1.index - n1.base))+i1))≥((l1.take (((w64 ((w64 (m1.index - n1.base))+i1))).toNat)).length:Int)))
 (cond (decide (0≤i1))
 (ob (m1.entries[i1.toNat]?) fun e2 =>
 cond (fits (((l1.take (((w64 ((w64 (m1.index - n1.base))+i1))).toNat))++[e2]).length))
 (some (.inl (((l1.take (((w64 ((w64 (m1.index - n1.base))+i1))).toNat))++[e2]),(w64 (i1+1)),n1,m1,n2,m2)))
 none)
 none)
 (some (.inl ((l1.take (((w64 ((w64 (m1.index - n1.base))+i1))).toNat)),(w64 (i1+1)),n1,m1,n2,m2))))
 none)
 none)
 (cond (decide ((w64 ((w64 (m1.index - n1.base))+i1))≥(l1.length:Int)))
 (cond (decide (0≤i1))
 (ob (m1.entries[i1.toNat]?) fun e3 =>
 cond (fits ((l1++[e3]).length))
 (some (.inl ((l1++[e3]),(w64 (i1+1)),n1,m1,n2,m2)))
 none)
 none)
 (some (.inl (l1,(w64 (i1+1)),n1,m1,n2,m2)))))
 none)
 none)
 none)
 (cond (decide ((w64 ((w64 (m1.index - n1.base))+i1))≥(l1.length:Int)))
 (cond (decide (0≤i1))
 (ob (m1.entries[i1.toNat]?) fun e4 =>
 cond (fits ((l1++[e4]).length))
 (some (.inl ((l1++[e4]),(w64 (i1+1)),n1,m1,n2,m2)))
 none)
 none)
 (some (.inl (l1,(w64 (i1+1)),n1,m1,n2,m2)))))
 (some (.inr (l1,n1,m1,n2,m2)))
def stp_L55_14 (p:tY7):Option ((tY7)⊕((List Entry)×Node×Msg×Node×Msg)):=step_L55_14 p.1 p.2.1 p.2.2.1 p.2.2.2.1 p.2.2.2.2.1 p.2.2.2.2.2
def L55_14 (l1:List Entry)(i1:Int)(n1:Node)(m1:Msg)(n2:Node)(m2:Msg):Option ((List Entry)×Node×Msg×Node×Msg):=iterO stp_L55_14 (1099511627776) (l1,i1,n1,m1,n2,m2)
def ch_L55_14:kT (tY7):=kO (kS 7 (kC (kP 0 0) (kC (kP 1 0) (kC (kP 2 0) (kC (kP 3 0) (kC (Cod.xs (Cod.sc (kA 4))) (kC kI kN)))))) (kC (Cod.var 0 78 cc_Node) (kC (Cod.var 1 86 cc_Msg) (kC (Cod.var 2 78 (kC kJ (kC kJ (kC kJ (kC kJ (kC kJ (kC kE (kC (kA 5) (kC kJ (kC kJ (kC kJ (kC kD (kC kD (kC kD (kC kJ (kC kJ (kC kJ (kC kJ (kC kJ (kC kJ kN)))))))))))))))))))) (kC (Cod.var 3 86 (kC kJ (kC kJ (kC kJ (kC kJ (kC kJ (kC kJ (kC kJ (kC kD (kC (kA 6) (kC kE kN))))))))))) (kC (kR 4 98 j_lEntry) (kC (kR 5 98 j_lEntry) (kC (kR 6 98 j_lEntry) kN)))))))) (fun p=>(p.2.2.2.2.2.1,p.1.2.2.2.2.2.1,p.2.1,p.2.2.1,(Node.mk p.2.2.2.1.1 p.2.2.2.1.2.1 p.2.2.2.1.2.2.1 p.2.2.2.1.2.2.2.1 p.2.2.2.1.2.2.2.2.1 p.2.2.2.1.2.2.2.2.2.1 p.2.2.2.2.2.2.1 p.2.2.2.1.2.2.2.2.2.2.2.1 (t8 p.2.2.2.1).1 (t8 p.2.2.2.1).2.1 (A3Bool.mk (t8 p.2.2.2.1).2.2.1 (t8 p.2.2.2.1).2.2.2.1 (t8 p.2.2.2.1).2.2.2.2.1) (A3Int.mk (t8 p.2.2.2.1).2.2.2.2.2.1 (t8 p.2.2.2.1).2.2.2.2.2.2.1 (t8 p.2.2.2.1).2.2.2.2.2.2.2.1) (A3Int.mk (t8 (t8 p.2.2.2.1)).1 (t8 (t8 p.2.2.2.1)).2.1 (t8 (t8 p.2.2.2.1)).2.2.1)),(Msg.mk p.2.2.2.2.1.1 p.2.2.2.2.1.2.1 p.2.2.2.2.1.2.2.1 p.2.2.2.2.1.2.2.2.1 p.2.2.2.2.1.2.2.2.2.1 p.2.2.2.2.1.2.2.2.2.2.1 p.2.2.2.2.1.2.2.2.2.2.2.1 p.2.2.2.2.1.2.2.2.2.2.2.2.1 p.2.2.2.2.2.2.2.1 (t8 p.2.2.2.2.1).2.1))) (fun (x:tY7)=>(((),((),((),((),((),(x.2.1,())))))),(x.2.2.1,(x.2.2.2.1,((x.2.2.2.2.1.id_,(x.2.2.2.2.1.term_,(x.2.2.2.2.1.vote,(x.2.2.2.2.1.base,(x.2.2.2.2.1.baseTerm,(x.2.2.2.2.1.snap,((),(x.2.2.2.2.1.role,(x.2.2.2.2.1.commit,(x.2.2.2.2.1.wait,(x.2.2.2.2.1.votes.a0,(x.2.2.2.2.1.votes.a1,(x.2.2.2.2.1.votes.a2,(x.2.2.2.2.1.next.a0,(x.2.2.2.2.1.next.a1,(x.2.2.2.2.1.next.a2,(x.2.2.2.2.1.match_.a0,(x.2.2.2.2.1.match_.a1,(x.2.2.2.2.1.match_.a2,()))))))))))))))))))),((x.2.2.2.2.2.kind,(x.2.2.2.2.2.from_,(x.2.2.2.2.2.to_,(x.2.2.2.2.2.term_,(x.2.2.2.2.2.index,(x.2.2.2.2.2.logTerm,(x.2.2.2.2.2.commit,(x.2.2.2.2.2.yes,((),(x.2.2.2.2.2.snap,())))))))))),(x.1,(x.2.2.2.2.1.log,(x.2.2.2.2.2.entries,()))))))))) (fun _=>rfl)
def co0_L55_14:kT ((List Entry)×Node×Msg×Node×Msg):=kO (kS 14 (kC (kP 0 0) (kC (kP 1 0) (kC (kP 2 0) (kC (kP 3 0) (kC (Cod.xs (Cod.sc (kA 11))) kN))))) (kC (Cod.var 0 78 cc_Node) (kC (Cod.var 1 86 cc_Msg) (kC (Cod.var 2 78 (kC kJ (kC kJ (kC kJ (kC kJ (kC kJ (kC kE (kC (kA 12) (kC kJ (kC kJ (kC kJ (kC kD (kC kD (kC kD (kC kJ (kC kJ (kC kJ (kC kJ (kC kJ (kC kJ kN)))))))))))))))))))) (kC (Cod.var 3 86 (kC kJ (kC kJ (kC kJ (kC kJ (kC kJ (kC kJ (kC kJ (kC kD (kC (kA 13) (kC kE kN))))))))))) (kC (kR 11 98 j_lEntry) (kC (kR 12 98 j_lEntry) (kC (kR 13 98 j_lEntry) kN)))))))) (fun p=>(p.2.2.2.2.2.1,p.2.1,p.2.2.1,(Node.mk p.2.2.2.1.1 p.2.2.2.1.2.1 p.2.2.2.1.2.2.1 p.2.2.2.1.2.2.2.1 p.2.2.2.1.2.2.2.2.1 p.2.2.2.1.2.2.2.2.2.1 p.2.2.2.2.2.2.1 p.2.2.2.1.2.2.2.2.2.2.2.1 (t8 p.2.2.2.1).1 (t8 p.2.2.2.1).2.1 (A3Bool.mk (t8 p.2.2.2.1).2.2.1 (t8 p.2.2.2.1).2.2.2.1 (t8 p.2.2.2.1).2.2.2.2.1) (A3Int.mk (t8 p.2.2.2.1).2.2.2.2.2.1 (t8 p.2.2.2.1).2.2.2.2.2.2.1 (t8 p.2.2.2.1).2.2.2.2.2.2.2.1) (A3Int.mk (t8 (t8 p.2.2.2.1)).1 (t8 (t8 p.2.2.2.1)).2.1 (t8 (t8 p.2.2.2.1)).2.2.1)),(Msg.mk p.2.2.2.2.1.1 p.2.2.2.2.1.2.1 p.2.2.2.2.1.2.2.1 p.2.2.2.2.1.2.2.2.1 p.2.2.2.2.1.2.2.2.2.1 p.2.2.2.2.1.2.2.2.2.2.1 p.2.2.2.2.1.2.2.2.2.2.2.1 p.2.2.2.2.1.2.2.2.2.2.2.2.1 p.2.2.2.2.2.2.2.1 (t8 p.2.2.2.2.1).2.1))) (fun (x:(List Entry)×Node×Msg×Node×Msg)=>(((),((),((),((),((),()))))),(x.2.1,(x.2.2.1,((x.2.2.2.1.id_,(x.2.2.2.1.term_,(x.2.2.2.1.vote,(x.2.2.2.1.base,(x.2.2.2.1.baseTerm,(x.2.2.2.1.snap,((),(x.2.2.2.1.role,(x.2.2.2.1.commit,(x.2.2.2.1.wait,(x.2.2.2.1.votes.a0,(x.2.2.2.1.votes.a1,(x.2.2.2.1.votes.a2,(x.2.2.2.1.next.a0,(x.2.2.2.1.next.a1,(x.2.2.2.1.next.a2,(x.2.2.2.1.match_.a0,(x.2.2.2.1.match_.a1,(x.2.2.2.1.match_.a2,()))))))))))))))))))),((x.2.2.2.2.kind,(x.2.2.2.2.from_,(x.2.2.2.2.to_,(x.2.2.2.2.term_,(x.2.2.2.2.index,(x.2.2.2.2.logTerm,(x.2.2.2.2.commit,(x.2.2.2.2.yes,((),(x.2.2.2.2.snap,())))))))))),(x.1,(x.2.2.2.1.log,(x.2.2.2.2.entries,()))))))))) (fun _=>rfl)
def sl_L55_14:SFn TL:=SFn.one ch_L55_14.dec (fun p=>L55_14 p.1 p.2.1 p.2.2.1 p.2.2.2.1 p.2.2.2.2.1 p.2.2.2.2.2) (.exit 0) co0_L55_14.enc
def v_L55_14:Env:=envOf tab sl sh [] []
theorem v_L55_14_ok:EnvOK PR (mkD cZ sZ) v_L55_14:=envOK_of base aN aN
theorem run_L55_14 (x:tY7):Out.run (mkO cZ sZ) (evRound v_L55_14 12 20 fd55.an q_L55_14 (loopIn (loopsOf fd55.body) 14) (ch_L55_14.enc x)) (back ch_L55_14 co0_L55_14 fun e=>exE e (.exit 0))=stp_L55_14 x:=by kernel_rfl
theorem ok_L55_14:LoopOK PR (oneS sl_L55_14) nt55 q_L55_14 (loopIn (loopsOf fd55.body) 14) :=
  loop_one v_L55_14_ok (loops:=12) (k:=20) (an:=fd55.an) (by kernel_rfl) (FnSt.subl rfl st55.keys (aC (.inl (by kernel_rfl)) aN)) ch_L55_14 co0_L55_14 (.exit 0) rfl stp_L55_14 _ run_L55_14 (fun x y h=>⟨_,h⟩) (fun _=>below_iff.1 rfl)
def ref15_add (n1:Node)(m1:Msg):Option (Node×(List Msg)) :=
 cond (decide (m1.term_ < n1.term_))
 (some (n1,[(Msg.mk 4 n1.id_ m1.from_ n1.term_ 0 0 0 false [] s_empty)]))
 (cond (decide (m1.index < n1.base))
 (some ((Node.mk n1.id_ n1.term_ n1.vote n1.base n1.baseTerm n1.snap n1.log 0 n1.commit 0 n1.votes n1.next n1.match_),[(Msg.mk 4 n1.id_ m1.from_ n1.term_ n1.base 0 0 true [] s_empty)]))
 (ob (ref15Last (Node.mk n1.id_ n1.term_ n1.vote n1.base n1.baseTerm n1.snap n1.log 0 n1.commit 0 n1.votes n1.next n1.match_)) fun r0 =>
 cond (decide (m1.index > r0.1))
 (some ((Node.mk n1.id_ n1.term_ n1.vote n1.base n1.baseTerm n1.snap n1.log 0 n1.commit 0 n1.votes n1.next n1.match_),[(Msg.mk 4 n1.id_ m1.from_ n1.term_ (min2 r0.1 (w64 (m1.index - 1))) 0 0 false [] s_empty)]))
 (ob (ref15TermAt (Node.mk n1.id_ n1.term_ n1.vote n1.base n1.baseTerm n1.snap n1.log 0 n1.commit 0 n1.votes n1.next n1.match_) m1.index) fun r1 =>
 cond (r1 != m1.logTerm)
 (some ((Node.mk n1.id_ n1.term_ n1.vote n1.base n1.baseTerm n1.snap n1.log 0 n1.commit 0 n1.votes n1.next n1.match_),[(Msg.mk 4 n1.id_ m1.from_ n1.term_ (min2 r0.1 (w64 (m1.index - 1))) 0 0 false [] s_empty)]))
 (cond (fits (([]++n1.log).length))
 (ob (L55_14 ([]++n1.log) 0 (Node.mk n1.id_ n1.term_ n1.vote n1.base n1.baseTerm n1.snap n1.log 0 n1.commit 0 n1.votes n1.next n1.match_) m1 (Node.mk 0 0 0 0 0 s_empty [] 0 0 0 (A3Bool.mk false false false) (A3Int.mk 0 0 0) (A3Int.mk 0 0 0)) (Msg.mk 4 n1.id_ m1.from_ n1.term_ 0 0 0 false [] s_empty)) fun y2 =>
 some ((Node.mk y2.2.1.id_ y2.2.1.term_ y2.2.1.vote y2.2.1.base y2.2.1.baseTerm y2.2.1.snap y2.1 y2.2.1.role (max2 y2.2.1.commit (min2 y2.2.2.1.commit (w64 (y2.2.2.1.index+(y2.2.2.1.entries.length:Int))))) y2.2.1.wait y2.2.1.votes y2.2.1.next y2.2.1.match_),[(Msg.mk y2.2.2.2.2.kind y2.2.2.2.2.from_ y2.2.2.2.2.to_ y2.2.2.2.2.term_ (w64 (y2.2.2.1.index+(y2.2.2.1.entries.length:Int))) y2.2.2.2.2.logTerm y2.2.2.2.2.commit true y2.2.2.2.2.entries y2.2.2.2.2.snap)]))
 none))))
def un_ref15_add (p:Node×Msg):Option (Node×(List Msg)):=ref15_add p.1 p.2
def df_ref15_add:DFn TL:=DFn.of (DA.cons (DT.agg dc_Node) (DA.one (DT.agg dc_Msg))) un_ref15_add (DA.cons (DT.agg dc_Node) (DA.one (DT.one di_lMsg)))
theorem run_ref15_add:DRun [(51,df_ref15Last),(58,df_ref15TermAt)] [(155014,sl_L55_14)] (envOf tab sl sh [(55,fd55)] [(51,.pure),(58,.pure)]) 55 (DA.cons (DT.agg dc_Node) (DA.one (DT.agg dc_Msg))) un_ref15_add (DA.cons (DT.agg dc_Node) (DA.one (DT.one di_lMsg))):=fun _=>by kernel_rfl
theorem ok_ref15_add:DOK PR 55 .keep df_ref15_add:=dok run_ref15_add (envOK_of base (aC (st55.okl rfl (aC (lC ok_L55_14 rfl) aN)) aN) (aC (oD ok_ref15Last rfl) (aC (oD ok_ref15TermAt rfl) aN))) (.inl rfl) st55.enters
abbrev tY8:=Int×Int×Int×Node×Node
def step_L56_16 (i1:Int)(i2:Int)(i3:Int)(n1:Node)(n2:Node):Option ((tY8)⊕(Int×Int×Node×Node)) :=
 cond (decide (i3 < 3))
 (cond (decide (0≤i3) && decide (i3 < 3))
 (some (.inl (i1,(cond (decide ((cond (decide (i3=0)) n1.match_.a0 (cond (decide (i3=1)) n1.match_.a1 n1.match_.a2))≥i1)) (w64 (i2+1)) i2),(w64 (i3+1)),n1,n2)))
 none)
 (some (.inr (i1,i2,n1,n2)))
def stp_L56_16 (p:tY8):Option ((tY8)⊕(Int×Int×Node×Node)):=step_L56_16 p.1 p.2.1 p.2.2.1 p.2.2.2.1 p.2.2.2.2
def L56_16 (i1:Int)(i2:Int)(i3:Int)(n1:Node)(n2:Node):Option (Int×Int×Node×Node):=iterO stp_L56_16 ((3 - i3).toNat+2) (i1,i2,i3,n1,n2)
def ch_L56_16:kT (tY8):=kO (kS 3 (kC (kP 0 0) (kC (kP 1 0) (kC kI (kC kI (kC kI kN))))) (kC (Cod.var 0 78 cc_Node) (kC (Cod.var 1 78 (kC kJ (kC kJ (kC kJ (kC kJ (kC kJ (kC kE (kC (kA 2) (kC kJ (kC kJ (kC kJ (kC kD (kC kD (kC kD (kC kJ (kC kJ (kC kJ (kC kJ (kC kJ (kC kJ kN)))))))))))))))))))) (kC (kR 2 98 j_lEntry) kN)))) (fun p=>(p.1.2.2.1,p.1.2.2.2.1,p.1.2.2.2.2.1,p.2.1,(Node.mk p.2.2.1.1 p.2.2.1.2.1 p.2.2.1.2.2.1 p.2.2.1.2.2.2.1 p.2.2.1.2.2.2.2.1 p.2.2.1.2.2.2.2.2.1 p.2.2.2.1 p.2.2.1.2.2.2.2.2.2.2.1 (t8 p.2.2.1).1 (t8 p.2.2.1).2.1 (A3Bool.mk (t8 p.2.2.1).2.2.1 (t8 p.2.2.1).2.2.2.1 (t8 p.2.2.1).2.2.2.2.1) (A3Int.mk (t8 p.2.2.1).2.2.2.2.2.1 (t8 p.2.2.1).2.2.2.2.2.2.1 (t8 p.2.2.1).2.2.2.2.2.2.2.1) (A3Int.mk (t8 (t8 p.2.2.1)).1 (t8 (t8 p.2.2.1)).2.1 (t8 (t8 p.2.2.1)).2.2.1)))) (fun (x:tY8)=>(((),((),(x.1,(x.2.1,(x.2.2.1,()))))),(x.2.2.2.1,((x.2.2.2.2.id_,(x.2.2.2.2.term_,(x.2.2.2.2.vote,(x.2.2.2.2.base,(x.2.2.2.2.baseTerm,(x.2.2.2.2.snap,((),(x.2.2.2.2.role,(x.2.2.2.2.commit,(x.2.2.2.2.wait,(x.2.2.2.2.votes.a0,(x.2.2.2.2.votes.a1,(x.2.2.2.2.votes.a2,(x.2.2.2.2.next.a0,(x.2.2.2.2.next.a1,(x.2.2.2.2.next.a2,(x.2.2.2.2.match_.a0,(x.2.2.2.2.match_.a1,(x.2.2.2.2.match_.a2,()))))))))))))))))))),(x.2.2.2.2.log,()))))) (fun _=>rfl)
def co0_L56_16:kT (Int×Int×Node×Node):=kO (kS 6 (kC (kP 0 0) (kC (kP 1 0) (kC kI (kC kI kN)))) (kC (Cod.var 0 78 cc_Node) (kC (Cod.var 1 78 (kC kJ (kC kJ (kC kJ (kC kJ (kC kJ (kC kE (kC (kA 5) (kC kJ (kC kJ (kC kJ (kC kD (kC kD (kC kD (kC kJ (kC kJ (kC kJ (kC kJ (kC kJ (kC kJ kN)))))))))))))))))))) (kC (kR 5 98 j_lEntry) kN)))) (fun p=>(p.1.2.2.1,p.1.2.2.2.1,p.2.1,(Node.mk p.2.2.1.1 p.2.2.1.2.1 p.2.2.1.2.2.1 p.2.2.1.2.2.2.1 p.2.2.1.2.2.2.2.1 p.2.2.1.2.2.2.2.2.1 p.2.2.2.1 p.2.2.1.2.2.2.2.2.2.2.1 (t8 p.2.2.1).1 (t8 p.2.2.1).2.1 (A3Bool.mk (t8 p.2.2.1).2.2.1 (t8 p.2.2.1).2.2.2.1 (t8 p.2.2.1).2.2.2.2.1) (A3Int.mk (t8 p.2.2.1).2.2.2.2.2.1 (t8 p.2.2.1).2.2.2.2.2.2.1 (t8 p.2.2.1).2.2.2.2.2.2.2.1) (A3Int.mk (t8 (t8 p.2.2.1)).1 (t8 (t8 p.2.2.1)).2.1 (t8 (t8 p.2.2.1)).2.2.1)))) (fun (x:Int×Int×Node×Node)=>(((),((),(x.1,(x.2.1,())))),(x.2.2.1,((x.2.2.2.id_,(x.2.2.2.term_,(x.2.2.2.vote,(x.2.2.2.base,(x.2.2.2.baseTerm,(x.2.2.2.snap,((),(x.2.2.2.role,(x.2.2.2.commit,(x.2.2.2.wait,(x.2.2.2.votes.a0,(x.2.2.2.votes.a1,(x.2.2.2.votes.a2,(x.2.2.2.next.a0,(x.2.2.2.next.a1,(x.2.2.2.next.a2,(x.2.2.2.match_.a0,(x.2.2.2.match_.a1,(x.2.2.2.match_.a2,()))))))))))))))))))),(x.2.2.2.log,()))))) (fun _=>rfl)
def sl_L56_16:SFn TL:=SFn.one ch_L56_16.dec (fun p=>L56_16 p.1 p.2.1 p.2.2.1 p.2.2.2.1 p.2.2.2.2) (.exit 2) co0_L56_16.enc
def v_L56_16:Env:=envOf tab sl sh [] []
theorem v_L56_16_ok:EnvOK PR (mkD cZ sZ) v_L56_16:=envOK_of base aN aN
theorem run_L56_16 (x:tY8):Out.run (mkO cZ sZ) (evRound v_L56_16 12 20 fd56.an q_L56_16 (loopIn (loopsOf fd56.body) 16) (ch_L56_16.enc x)) (back ch_L56_16 co0_L56_16 fun e=>exE e (.exit 2))=stp_L56_16 x:=by kernel_rfl
theorem ok_L56_16:LoopOK PR (oneS sl_L56_16) nt56 q_L56_16 (loopIn (loopsOf fd56.body) 16) :=
  loop_one v_L56_16_ok (loops:=12) (k:=20) (an:=fd56.an) (by kernel_rfl) (FnSt.subl rfl st56.keys (aC (.inl (by kernel_rfl)) (aC (.inl (by kernel_rfl)) aN))) ch_L56_16 co0_L56_16 (.exit 2) rfl stp_L56_16 _ run_L56_16 (fun x y h=>⟨_,h⟩) (fun _=>below_iff.1 rfl)
def step_L56_12 (i1:Int)(n1:Node)(n2:Node):Option ((Int×Node×Node)⊕(Node×Node)) :=
 cond (decide (i1 > n1.commit))
 (ob (L56_16 i1 0 0 n1 n2) fun y0 =>
 cond (decide (y0.2.1≥2))
 (ob (ref15TermAt y0.2.2.1 y0.1) fun r1 =>
 cond (r1 == y0.2.2.1.term_)
 (some (.inl ((w64 (y0.1 - 1)),(Node.mk y0.2.2.1.id_ y0.2.2.1.term_ y0.2.2.1.vote y0.2.2.1.base y0.2.2.1.baseTerm y0.2.2.1.snap y0.2.2.1.log y0.2.2.1.role y0.1 y0.2.2.1.wait y0.2.2.1.votes y0.2.2.1.next y0.2.2.1.match_),y0.2.2.2)))
 (some (.inl ((w64 (y0.1 - 1)),y0.2.2.1,y0.2.2.2))))
 (some (.inl ((w64 (y0.1 - 1)),y0.2.2.1,y0.2.2.2))))
 (some (.inr (n1,n2)))
def stp_L56_12 (p:Int×Node×Node):Option ((Int×Node×Node)⊕(Node×Node)):=step_L56_12 p.1 p.2.1 p.2.2
def L56_12 (i1:Int)(n1:Node)(n2:Node):Option (Node×Node):=iterO stp_L56_12 (1099511627776) (i1,n1,n2)
def ch_L56_12:kT (Int×Node×Node):=kO (kS 3 (kC (kP 0 0) (kC (kP 1 0) (kC kI kN))) (kC (Cod.var 0 78 cc_Node) (kC (Cod.var 1 78 (kC kJ (kC kJ (kC kJ (kC kJ (kC kJ (kC kE (kC (kA 2) (kC kJ (kC kJ (kC kJ (kC kD (kC kD (kC kD (kC kJ (kC kJ (kC kJ (kC kJ (kC kJ (kC kJ kN)))))))))))))))))))) (kC (kR 2 98 j_lEntry) kN)))) (fun p=>(p.1.2.2.1,p.2.1,(Node.mk p.2.2.1.1 p.2.2.1.2.1 p.2.2.1.2.2.1 p.2.2.1.2.2.2.1 p.2.2.1.2.2.2.2.1 p.2.2.1.2.2.2.2.2.1 p.2.2.2.1 p.2.2.1.2.2.2.2.2.2.2.1 (t8 p.2.2.1).1 (t8 p.2.2.1).2.1 (A3Bool.mk (t8 p.2.2.1).2.2.1 (t8 p.2.2.1).2.2.2.1 (t8 p.2.2.1).2.2.2.2.1) (A3Int.mk (t8 p.2.2.1).2.2.2.2.2.1 (t8 p.2.2.1).2.2.2.2.2.2.1 (t8 p.2.2.1).2.2.2.2.2.2.2.1) (A3Int.mk (t8 (t8 p.2.2.1)).1 (t8 (t8 p.2.2.1)).2.1 (t8 (t8 p.2.2.1)).2.2.1)))) (fun (x:Int×Node×Node)=>(((),((),(x.1,()))),(x.2.1,((x.2.2.id_,(x.2.2.term_,(x.2.2.vote,(x.2.2.base,(x.2.2.baseTerm,(x.2.2.snap,((),(x.2.2.role,(x.2.2.commit,(x.2.2.wait,(x.2.2.votes.a0,(x.2.2.votes.a1,(x.2.2.votes.a2,(x.2.2.next.a0,(x.2.2.next.a1,(x.2.2.next.a2,(x.2.2.match_.a0,(x.2.2.match_.a1,(x.2.2.match_.a2,()))))))))))))))))))),(x.2.2.log,()))))) (fun _=>rfl)
def co0_L56_12:kT (Node×Node):=kO (kS 6 (kC (kP 0 0) (kC (kP 1 0) kN)) (kC (Cod.var 0 78 cc_Node) (kC (Cod.var 1 78 (kC kJ (kC kJ (kC kJ (kC kJ (kC kJ (kC kE (kC (kA 5) (kC kJ (kC kJ (kC kJ (kC kD (kC kD (kC kD (kC kJ (kC kJ (kC kJ (kC kJ (kC kJ (kC kJ kN)))))))))))))))))))) (kC (kR 5 98 j_lEntry) kN)))) (fun p=>(p.2.1,(Node.mk p.2.2.1.1 p.2.2.1.2.1 p.2.2.1.2.2.1 p.2.2.1.2.2.2.1 p.2.2.1.2.2.2.2.1 p.2.2.1.2.2.2.2.2.1 p.2.2.2.1 p.2.2.1.2.2.2.2.2.2.2.1 (t8 p.2.2.1).1 (t8 p.2.2.1).2.1 (A3Bool.mk (t8 p.2.2.1).2.2.1 (t8 p.2.2.1).2.2.2.1 (t8 p.2.2.1).2.2.2.2.1) (A3Int.mk (t8 p.2.2.1).2.2.2.2.2.1 (t8 p.2.2.1).2.2.2.2.2.2.1 (t8 p.2.2.1).2.2.2.2.2.2.2.1) (A3Int.mk (t8 (t8 p.2.2.1)).1 (t8 (t8 p.2.2.1)).2.1 (t8 (t8 p.2.2.1)).2.2.1)))) (fun (x:Node×Node)=>(((),((),())),(x.1,((x.2.id_,(x.2.term_,(x.2.vote,(x.2.base,(x.2.baseTerm,(x.2.snap,((),(x.2.role,(x.2.commit,(x.2.wait,(x.2.votes.a0,(x.2.votes.a1,(x.2.votes.a2,(x.2.next.a0,(x.2.next.a1,(x.2.next.a2,(x.2.match_.a0,(x.2.match_.a1,(x.2.match_.a2,()))))))))))))))))))),(x.2.log,()))))) (fun _=>rfl)
def sl_L56_12:SFn TL:=SFn.one ch_L56_12.dec (fun p=>L56_12 p.1 p.2.1 p.2.2) (.exit 0) co0_L56_12.enc
def cs_lL56_12:cL:=[(58,df_ref15TermAt)]
def ss_lL56_12:sL:=[(156016,sl_L56_16)]
def v_L56_12:Env:=envOf tab sl sh [] [(58,.pure)]
theorem v_L56_12_ok:EnvOK PR (mkD cs_lL56_12 ss_lL56_12) v_L56_12:=envOK_of base aN (aC (oD ok_ref15TermAt rfl) aN)
theorem run_L56_12 (x:Int×Node×Node):Out.run (mkO cs_lL56_12 ss_lL56_12) (evRound v_L56_12 12 20 fd56.an q_L56_12 (loopIn (loopsOf fd56.body) 12) (ch_L56_12.enc x)) (back ch_L56_12 co0_L56_12 fun e=>exE e (.exit 0))=stp_L56_12 x:=by kernel_rfl
theorem ok_L56_12:LoopOK PR (oneS sl_L56_12) nt56 q_L56_12 (loopIn (loopsOf fd56.body) 12) :=
  loop_one v_L56_12_ok (loops:=12) (k:=20) (an:=fd56.an) (by kernel_rfl) (FnSt.subl rfl st56.keys (aC (.inl (by kernel_rfl)) (aC (.inr (lC ok_L56_16 rfl)) aN))) ch_L56_12 co0_L56_12 (.exit 0) rfl stp_L56_12 _ run_L56_12 (fun x y h=>⟨_,h⟩) (fun _=>below_iff.1 rfl)
end
end Go.Proofs.Ytoicjnggljeicaa
