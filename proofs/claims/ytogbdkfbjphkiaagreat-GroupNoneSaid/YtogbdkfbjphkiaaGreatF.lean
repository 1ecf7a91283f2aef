/- By program (gen.py): the functions in their typed form. -/
import Derived.Test.YtogbdkfbjphkiaaGreatFn
namespace Go.Proofs.YtogbdkfbjphkiaaGreat
open Go Go.Ev
set_option maxRecDepth 1000000
noncomputable section
abbrev PR:=Tryz.prog
abbrev cL:=List (Nat×DFn TL)
abbrev sL:=List (Nat×SFn TL)
def cZ:cL:=[]
def sZ:sL:=[]
abbrev kI:Cod (X TL) Int:=Cod.xs (Cod.sc (Cod.im (Cod.int .i64)))
abbrev kB:Cod (X TL) Bool:=Cod.xs (Cod.sc (Cod.im Cod.bool))
abbrev kD:Cod (C TL) Bool:=Cod.im Cod.bool
abbrev kE:Cod (C TL) ByteArray:=Cod.im Cod.str
abbrev kR {T:Type}(i:Nat)(e:TypeId)(j:Cod.Inj TL T):=Cod.arr i e j
abbrev kA (i:Nat):Cod (C TL) Unit:=Cod.ar i
abbrev kO {α β γ:Type}(c:Cod α β)(f:β→γ)(g:γ→β)(h:∀ b,g (f b)=b):=Cod.iso c f g h
abbrev kS {β γ:Type}(n:Nat)(a:Cod (List (X TL)) β)(b:Cod (List (Nat×En TL)) γ):=Cod.cst n a b
abbrev kT:=Cod (Cst TL)
abbrev kF {T:Type}(j:Cod.Inj TL T):Cod (X TL) T:=Cod.xs (Cod.sc (Cod.im (Cod.fz j)))
abbrev kG {T:Type}(j:Cod.Inj TL T):Cod (C TL) T:=Cod.im (Cod.fz j)
abbrev kP (a b:Nat):Cod (X TL) Unit:=Cod.xs (Cod.sc (Cod.ptr a b))
abbrev kJ:Cod (C TL) Int:=Cod.im (Cod.int .i64)
abbrev kC {α β γ:Type}(c:Cod α β)(d:Cod (List α) γ):=Cod.cons c d
abbrev kN {α:Type}:Cod (List α) Unit:=Cod.nil
abbrev dI:DT TL Int:=DT.one (DI.int .i64)
abbrev dB:DT TL Bool:=DT.one DI.bool
def DRun (cs:cL)(ss:sL)(E:Env)(f:FuncId){X Y:Type}(a:DA TL X)(u:X→Option Y)(r:DA TL Y):Prop:=∀ x,Out.run (mkO cs ss) (evOrc E 12 20 f (a.enc x)) r.dec=u x
theorem dok {P:Program}{cs:cL}{ss:sL}{E:Env}{f:FuncId}{kd:OrcKind}{X Y:Type}{a:DA TL X}{u:X→Option Y}{r:DA TL Y}(h:DRun cs ss E f a u r)(hE:EnvOK P (mkD cs ss) E)(hk:kd=.keep∨kd=.pure)(hen:Enters P f):DOK P f kd (DFn.of a u r):=data_of hE hk hen a u r h
theorem lC {P:Program}{nt:Nat}{q:LoopA}{b:Code}{d:SFn TL}{cs:cL}{ss:sL}(h:LoopOK P (oneS d) nt q b)(hd:lookU ss q.sid=some d):LoopOK P (mkD cs ss) nt q b:=LoopOK.cast h hd
theorem oD {P:Program}{cs:cL}{ss:sL}{f:Nat}{k:OrcKind}{d:DFn TL}(h:DOK P f k d)(hd:lookU cs f=some d):OGood P cs ss (f,k):=okD hd h
theorem lB {cs:cL}{ss:sL}{E:Env}{nt:Nat}{an:Ann}{q:LoopA}{b:Code}{X A B:Type}{h:Cod (Cst TL) X}{oA:Cod (Cst TL) A}{oB:Cod (Cst TL) B}{exA exB:Ex}{F:X→Option (A⊕B)}(hE:EnvOK PR (mkD cs ss) E)(stp:X→Option (X⊕(A⊕B)))(hcB:codeB nt b=true)(hLo:∀ b'∈loopsOf b,∀ q',an.lp (Go.Ev.keyOf b')=some q'→LoopOK PR (mkD cs ss) nt q' b')(hA:exE exA exA=true)(hB:exE exB exB=true)(hF:∀ x y,F x=some y→∃ n,iterO stp n x=some y)(hkp:∀ x,Go.Ev.below (h.enc x).n q.kp=true)(hrun:∀ x,Out.run (mkO cs ss) (evRound E 12 20 an q b (h.enc x)) (back2 h oA oB exA exB)=stp x):LoopOK PR (oneS (SFn.two h.dec F exA exB oA.enc oB.enc)) nt q b:=loop_two hE hcB hLo h oA oB exA exB hA hB stp F hrun hF fun x=>below_iff.1 (hkp x)
theorem lA {cs:cL}{ss:sL}{E:Env}{nt:Nat}{an:Ann}{q:LoopA}{b:Code}{X Y:Type}{h:Cod (Cst TL) X}{o:Cod (Cst TL) Y}{ex:Ex}{F:X→Option Y}(hE:EnvOK PR (mkD cs ss) E)(stp:X→Option (X⊕Y))(hcB:codeB nt b=true)(hLo:∀ b'∈loopsOf b,∀ q',an.lp (Go.Ev.keyOf b')=some q'→LoopOK PR (mkD cs ss) nt q' b')(hA:exE ex ex=true)(hF:∀ x y,F x=some y→∃ n,iterO stp n x=some y)(hkp:∀ x,Go.Ev.below (h.enc x).n q.kp=true)(hrun:∀ x,Out.run (mkO cs ss) (evRound E 12 20 an q b (h.enc x)) (back h o fun e=>exE e ex)=stp x):LoopOK PR (oneS (SFn.one h.dec F ex o.enc)) nt q b:=loop_one hE hcB hLo h o ex hA stp F hrun hF fun x=>below_iff.1 (hkp x)
theorem sM {cs:cL}{ss:sL}{E:Env}{f:FuncId}{X Y:Type}{h:Cod (Cst TL) X}{o:Cod (Cst TL) Y}{F:X→Option Y}(hE:EnvOK PR (mkD cs ss) E)(hen:Enters PR f)(hrun:∀ x,Out.run (mkO cs ss) (evSum E 12 20 f (h.enc x)) (back1 o)=F x):SOK PR f (SFn.one h.dec F .normal o.enc):=sum_one hE hen h o F hrun
theorem sB {nt:Nat}{oD:OrcD TL}{c:Code}{k k0:Nat}{q0:LoopA}{an:Ann}(hl:an.lp=fun k=>Ev.look [(k0,q0)] k)(hk:nodup ((loopsOf c).map Go.Ev.keyOf)=true)(h0:mem k0 ((loopsOf (loopIn (loopsOf c) k)).map Go.Ev.keyOf)=false):∀ b∈loopsOf (loopIn (loopsOf c) k),∀ q,an.lp (Go.Ev.keyOf b)=some q→LoopOK PR oD nt q b:=FnSt.subl hl hk fun p hp=>by rw [List.mem_singleton.1 hp];exact .inl h0
theorem aN {α:Type}{p:α→Prop}:∀ x∈([]:List α),p x:=all_nil
theorem aC {α:Type}{p:α→Prop}{a:α}{l:List α}(h:p a)(t:∀ x∈l,p x):∀ x∈a::l,p x:=all_cons h t
def few9 (o1:Op):Option Bool :=
 some (cond (decide ((o1.key.size:Int)≤60)) (cond (decide ((o1.text.size:Int)≤60)) (decide ((o1.dots.length:Int)≤12)) false) false)
def un_few9 (p:Op):Option Bool:=few9 p
def df_few9:DFn TL:=DFn.of (DA.one (DT.agg dc_Op)) un_few9 (DA.one dB)
theorem ok_few9:DOK PR 72 .pure df_few9:=dok (cs:=[]) (ss:=[]) (E:=envOf tab sl sh [(72,fd72)] []) (fun _=>by kernel_rfl) (envOK_of base (aC (st72.okl rfl aN) aN) aN) (.inr rfl) st72.enters
abbrev tY0:=(List Act)×Bool×Int×Int
def step_L44_7 (l1:List Act)(b1:Bool)(i1:Int)(i2:Int):Option ((tY0)⊕((((List Act)×Bool×Int)⊕((List Act)×Bool×Int)))) :=
 cond (decide (0≤i1))
 (ob (l1[i1.toNat]?) fun e0 =>
 cond (decide (i2 < (e0.ops.length:Int)))
 (cond (decide (0≤i1))
 (ob (l1[i1.toNat]?) fun e1 =>
 cond (decide (0≤i2))
 (ob (e1.ops[i2.toNat]?) fun e2 =>
 ob (few9 e2) fun r3 =>
 cond (!r3)
 (some (.inr (.inr (l1,false,i1))))
 (some (.inl (l1,b1,i1,(w64 (i2+1))))))
 none)
 none)
 (some (.inr (.inl (l1,b1,i1)))))
 none
def stp_L44_7 (p:tY0):Option ((tY0)⊕((((List Act)×Bool×Int)⊕((List Act)×Bool×Int)))):=step_L44_7 p.1 p.2.1 p.2.2.1 p.2.2.2
def L44_7 (l1:List Act)(b1:Bool)(i1:Int)(i2:Int):Option ((((List Act)×Bool×Int)⊕((List Act)×Bool×Int))):=iterO stp_L44_7 (1099511627776) (l1,b1,i1,i2)
def ch_L44_7:kT (tY0):=kO (kS 0 (kC (kF j_lAct) (kC kB (kC kI (kC kI kN)))) kN) (fun ((z0,z1,z2,z3,_),_)=>(z0,z1,z2,z3)) (fun (x:tY0)=>((x.1,(x.2.1,(x.2.2.1,(x.2.2.2,())))),())) (fun _=>rfl)
def co0_L44_7:kT ((List Act)×Bool×Int):=kO (kS 0 (kC (kF j_lAct) (kC kB (kC kI kN))) kN) (fun p=>(p.1.1,p.1.2.1,p.1.2.2.1)) (fun (x:(List Act)×Bool×Int)=>((x.1,(x.2.1,(x.2.2,()))),())) (fun _=>rfl)
def sl_L44_7:SFn TL:=SFn.two ch_L44_7.dec (fun p=>L44_7 p.1 p.2.1 p.2.2.1 p.2.2.2) (.exit 2) .ret co0_L44_7.enc co0_L44_7.enc
theorem ok_L44_7:LoopOK PR (oneS sl_L44_7) nt44 q_L44_7 (loopIn (loopsOf fd44.body) 7):=lB (cs:=[(72,df_few9)]) (ss:=[]) (E:=envOf tab sl sh [] [(72,.pure)]) (an:=fd44.an) (envOK_of base aN (aC (oD ok_few9 rfl) aN)) stp_L44_7 (by kernel_rfl) (FnSt.subl rfl st44.keys (aC (.inl (by kernel_rfl)) (aC (.inl (by kernel_rfl)) (aC (.inl (by kernel_rfl)) aN)))) rfl rfl (fun x y h=>⟨_,h⟩) (fun _=>rfl) fun _=>by kernel_rfl
def step_L44_12 (l1:List Act)(b1:Bool)(i1:Int)(i2:Int):Option ((tY0)⊕((((List Act)×Bool×Int)⊕((List Act)×Bool×Int)))) :=
 cond (decide (0≤i1))
 (ob (l1[i1.toNat]?) fun e0 =>
 cond (decide (i2 < (e0.wants.length:Int)))
 (cond (decide (0≤i1))
 (ob (l1[i1.toNat]?) fun e1 =>
 cond (decide (0≤i2))
 (ob (e1.wants[i2.toNat]?) fun e2 =>
 cond (decide ((e2.key.size:Int) > 60))
 (some (.inr (.inr (l1,false,i1))))
 (some (.inl (l1,b1,i1,(w64 (i2+1))))))
 none)
 none)
 (some (.inr (.inl (l1,b1,i1)))))
 none
def stp_L44_12 (p:tY0):Option ((tY0)⊕((((List Act)×Bool×Int)⊕((List Act)×Bool×Int)))):=step_L44_12 p.1 p.2.1 p.2.2.1 p.2.2.2
def L44_12 (l1:List Act)(b1:Bool)(i1:Int)(i2:Int):Option ((((List Act)×Bool×Int)⊕((List Act)×Bool×Int))):=iterO stp_L44_12 (1099511627776) (l1,b1,i1,i2)
def sl_L44_12:SFn TL:=SFn.two ch_L44_7.dec (fun p=>L44_12 p.1 p.2.1 p.2.2.1 p.2.2.2) (.exit 4) .ret co0_L44_7.enc co0_L44_7.enc
theorem ok_L44_12:LoopOK PR (oneS sl_L44_12) nt44 q_L44_12 (loopIn (loopsOf fd44.body) 12):=lB (cs:=[]) (ss:=[]) (E:=envOf tab sl sh [] []) (an:=fd44.an) (envOK_of base aN aN) stp_L44_12 (by kernel_rfl) (FnSt.subl rfl st44.keys (aC (.inl (by kernel_rfl)) (aC (.inl (by kernel_rfl)) (aC (.inl (by kernel_rfl)) aN)))) rfl rfl (fun x y h=>⟨_,h⟩) (fun _=>rfl) fun _=>by kernel_rfl
def step_L44_2 (l1:List Act)(b1:Bool)(i1:Int):Option (((List Act)×Bool×Int)⊕((((List Act)×Bool)⊕((List Act)×Bool)))) :=
 cond (decide (i1 < (l1.length:Int)))
 (cond (decide (0≤i1))
 (ob (l1[i1.toNat]?) fun e0 =>
 cond (decide ((e0.wants.length:Int) > 8))
 (some (.inr (.inr (l1,false))))
 (cond (decide (0≤i1))
 (ob (l1[i1.toNat]?) fun e1 =>
 cond (decide ((e1.ops.length:Int) > 22))
 (some (.inr (.inr (l1,false))))
 (ob (L44_7 l1 b1 i1 0) fun y2 =>
 two y2 (fun a3 =>
 ob (L44_12 a3.1 a3.2.1 a3.2.2 0) fun y5 =>
 two y5 (fun a6 =>
 some (.inl (a6.1,a6.2.1,(w64 (a6.2.2+1))))) (fun b7 =>
 some (.inr (.inr (b7.1,b7.2.1))))) (fun b4 =>
 some (.inr (.inr (b4.1,b4.2.1))))))
 none))
 none)
 (some (.inr (.inl (l1,b1))))
def stp_L44_2 (p:(List Act)×Bool×Int):Option (((List Act)×Bool×Int)⊕((((List Act)×Bool)⊕((List Act)×Bool)))):=step_L44_2 p.1 p.2.1 p.2.2
def L44_2 (l1:List Act)(b1:Bool)(i1:Int):Option ((((List Act)×Bool)⊕((List Act)×Bool))):=iterO stp_L44_2 (((l1.length:Int) - i1).toNat+2) (l1,b1,i1)
def co0_L44_2:kT ((List Act)×Bool):=kO (kS 0 (kC (kF j_lAct) (kC kB kN)) kN) (fun p=>(p.1.1,p.1.2.1)) (fun (x:(List Act)×Bool)=>((x.1,(x.2,())),())) (fun _=>rfl)
def sl_L44_2:SFn TL:=SFn.two co0_L44_7.dec (fun p=>L44_2 p.1 p.2.1 p.2.2) (.exit 0) .ret co0_L44_2.enc co0_L44_2.enc
theorem ok_L44_2:LoopOK PR (oneS sl_L44_2) nt44 q_L44_2 (loopIn (loopsOf fd44.body) 2):=lB (cs:=[]) (ss:=[(144007,sl_L44_7),(144012,sl_L44_12)]) (E:=envOf tab sl sh [] []) (an:=fd44.an) (envOK_of base aN aN) stp_L44_2 (by kernel_rfl) (FnSt.subl rfl st44.keys (aC (.inl (by kernel_rfl)) (aC (.inr (lC ok_L44_7 rfl)) (aC (.inr (lC ok_L44_12 rfl)) aN)))) rfl rfl (fun x y h=>⟨_,h⟩) (fun _=>rfl) fun _=>by kernel_rfl
def few13 (l1:List Act):Option Bool :=
 ob (L44_2 l1 false 0) fun y0 =>
 two y0 (fun a1 =>
 some (decide ((a1.1.length:Int)≤60))) (fun b2 =>
 some b2.2)
def un_few13 (p:(List Act)):Option Bool:=few13 p
def df_few13:DFn TL:=DFn.of (DA.one (DT.one di_lAct)) un_few13 (DA.one dB)
theorem ok_few13:DOK PR 44 .pure df_few13:=dok (cs:=[]) (ss:=[(144002,sl_L44_2),(144007,sl_L44_7),(144012,sl_L44_12)]) (E:=envOf tab sl sh [(44,fd44)] []) (fun _=>by kernel_rfl) (envOK_of base (aC (st44.okl rfl (aC (lC ok_L44_2 rfl) (aC (lC ok_L44_7 rfl) (aC (lC ok_L44_12 rfl) aN)))) aN) aN) (.inr rfl) st44.enters
def fewCmd (c1:Cmd):Option Bool :=
 ob (few13 [(Act.mk 0 0 0 c1.wants c1.ops)]) fun r0 =>
 cond (r0)
 (some (decide ((c1.ops.length:Int)≤22)))
 (some false)
def un_fewCmd (p:Cmd):Option Bool:=fewCmd p
def df_fewCmd:DFn TL:=DFn.of (DA.one (DT.agg dc_Cmd)) un_fewCmd (DA.one dB)
theorem ok_fewCmd:DOK PR 21 .pure df_fewCmd:=dok (cs:=[(44,df_few13)]) (ss:=[]) (E:=envOf tab sl sh [(21,fd21)] [(44,.pure)]) (fun _=>by kernel_rfl) (envOK_of base (aC (st21.okl rfl aN) aN) (aC (oD ok_few13 rfl) aN)) (.inr rfl) st21.enters
end
end Go.Proofs.YtogbdkfbjphkiaaGreat
