/- By program (gen.py): the functions in their typed form. -/
import Derived.Test.YtciofnpmlgbdaaaGreatDoorFn
import Derived.Test.YtciofnpmlgbdaaaGreatDoorHa
namespace Go.Proofs.YtciofnpmlgbdaaaGreatDoor
open Go Go.Ev
set_option maxRecDepth 1000000
noncomputable section
abbrev PR:=Tryz.prog
abbrev cL:=List (Nat×DFn TL)
abbrev sL:=List (Nat×SFn TL)
abbrev kI:Cod (X TL) Int:=Cod.xs (Cod.sc (Cod.im (Cod.int .i64)))
abbrev kB:Cod (X TL) Bool:=Cod.xs (Cod.sc (Cod.im Cod.bool))
abbrev kE:Cod (C TL) ByteArray:=Cod.im Cod.str
abbrev kR {T:Type}(i:Nat)(e:TypeId)(j:Cod.Inj TL T):=Cod.arr i e j
abbrev kA (i:Nat):Cod (C TL) Unit:=Cod.ar i
abbrev kO {α β γ:Type}(c:Cod α β)(f:β→γ)(g:γ→β)(h:∀ b,g (f b)=b):=Cod.iso c f g h
abbrev kS {β γ:Type}(n:Nat)(a:Cod (List (X TL)) β)(b:Cod (List (Nat×En TL)) γ):=Cod.cst n a b
abbrev kT:=Cod (Cst TL)
abbrev kF {T:Type}(j:Cod.Inj TL T):Cod (X TL) T:=Cod.xs (Cod.sc (Cod.im (Cod.fz j)))
abbrev kC {α β γ:Type}(c:Cod α β)(d:Cod (List α) γ):=Cod.cons c d
abbrev kN {α:Type}:Cod (List α) Unit:=Cod.nil
abbrev dI:DT TL Int:=DT.one (DI.int .i64)
abbrev dB:DT TL Bool:=DT.one DI.bool
def DRun (cs:cL)(ss:sL)(E:Env)(f:FuncId){X Y:Type}(a:DA TL X)(u:X→Option Y)(r:DA TL Y):Prop:=∀ x,Out.run (mkO cs ss) (evOrc E 12 20 f (a.enc x)) r.dec=u x
theorem dok {P:Program}{cs:cL}{ss:sL}{E:Env}{f:FuncId}{kd:OrcKind}{X Y:Type}{a:DA TL X}{u:X→Option Y}{r:DA TL Y}(h:DRun cs ss E f a u r)(hE:EnvOK P (mkD cs ss) E)(hk:kd=.keep∨kd=.pure)(hen:Enters P f):DOK P f kd (DFn.of a u r):=data_of hE hk hen a u r h
theorem lC {P:Program}{nt:Nat}{q:LoopA}{b:Code}{d:SFn TL}{cs:cL}{ss:sL}(h:LoopOK P (oneS d) nt q b)(hd:lookU ss q.sid=some d):LoopOK P (mkD cs ss) nt q b:=LoopOK.cast h hd
theorem oD {P:Program}{cs:cL}{ss:sL}{f:Nat}{k:OrcKind}{d:DFn TL}(h:DOK P f k d)(hd:lookU cs f=some d):OGood P cs ss (f,k):=okD hd h
theorem lB {cs:cL}{ss:sL}{E:Env}{nt:Nat}{an:Ann}{q:LoopA}{b:Code}{X A B:Type}{h:Cod (Cst TL) X}{oA:Cod (Cst TL) A}{oB:Cod (Cst TL) B}{exA exB:Ex}{F:X→Option (A⊕B)}(hE:EnvOK PR (mkD cs ss) E)(stp:X→Option (X⊕(A⊕B)))(hcB:codeB nt b=true)(hLo:∀ b'∈loopsOf b,∀ q',an.lp (Go.Ev.keyOf b')=some q'→LoopOK PR (mkD cs ss) nt q' b')(hA:exE exA exA=true)(hB:exE exB exB=true)(hF:∀ x y,F x=some y→∃ n,iterO stp n x=some y)(hkp:∀ x,Go.Ev.below (h.enc x).n q.kp=true)(hrun:∀ x,Out.run (mkO cs ss) (evRound E 12 20 an q b (h.enc x)) (back2 h oA oB exA exB)=stp x):LoopOK PR (oneS (SFn.two h.dec F exA exB oA.enc oB.enc)) nt q b:=loop_two hE hcB hLo h oA oB exA exB hA hB stp F hrun hF fun x=>below_iff.1 (hkp x)
theorem lA {cs:cL}{ss:sL}{E:Env}{nt:Nat}{an:Ann}{q:LoopA}{b:Code}{X Y:Type}{h:Cod (Cst TL) X}{o:Cod (Cst TL) Y}{ex:Ex}{F:X→Option Y}(hE:EnvOK PR (mkD cs ss) E)(stp:X→Option (X⊕Y))(hcB:codeB nt b=true)(hLo:∀ b'∈loopsOf b,∀ q',an.lp (Go.Ev.keyOf b')=some q'→LoopOK PR (mkD cs ss) nt q' b')(hA:exE ex ex=true)(hF:∀ x y,F x=some y→∃ n,iterO stp n x=some y)(hkp:∀ x,Go.Ev.below (h.enc x).n q.kp=true)(hrun:∀ x,Out.run (mkO cs ss) (evRound E 12 20 an q b (h.enc x)) (back h o fun e=>exE e ex)=stp x):LoopOK PR (oneS (SFn.one h.dec F ex o.enc)) nt q b:=loop_one hE hcB hLo h o ex hA stp F hrun hF fun x=>below_iff.1 (hkp x)
theorem sB {nt:Nat}{oD:OrcD TL}{c:Code}{k k0:Nat}{q0:LoopA}{an:Ann}(hl:an.lp=fun k=>Ev.look [(k0,q0)] k)(hk:nodup ((loopsOf c).map Go.Ev.keyOf)=true)(h0:mem k0 ((loopsOf (loopIn (loopsOf c) k)).map Go.Ev.keyOf)=false):∀ b∈loopsOf (loopIn (loopsOf c) k),∀ q,an.lp (Go.Ev.keyOf b)=some q→LoopOK PR oD nt q b:=FnSt.subl hl hk fun p hp=>by rw [List.mem_singleton.1 hp];exact .inl h0
theorem aN {α:Type}{p:α→Prop}:∀ x∈([]:List α),p x:=all_nil
theorem aC {α:Type}{p:α→Prop}{a:α}{l:List α}(h:p a)(t:∀ x∈l,p x):∀ x∈a::l,p x:=all_cons h t
def known:Option Bool:=some true
def un_known (_:Unit):Option Bool:=known
def df_known:DFn TL:=DFn.of (DA.nil) un_known (DA.one dB)
theorem ok_known:DOK PR 5 .pure df_known:=known_data enters5 known_calls
def indexByte (s1:ByteArray)(i1:Int):Option Int:=some (Lib.indexByte s1.data.toList i1.toNat.toUInt8)
def un_indexByte (p:ByteArray×Int):Option Int:=indexByte p.1 p.2
def df_indexByte:DFn TL:=DFn.of (DA.cons (DT.one DI.str) (DA.one (DT.one (DI.int .u8)))) un_indexByte (DA.one dI)
theorem ok_indexByte:DOK PR 33 .pure df_indexByte:=index_data entersIB index_calls
def escape (s1:ByteArray):Option (Int×Int) :=
 cond (decide (0≤0))
 (cond (decide (0 < (s1.size:Int)))
 (cond (((s1[(0:Int).toNat]?.getD 0).toNat:Int) != 92)
 (cond (decide (0≤0))
 (cond (decide (0 < (s1.size:Int)))
 (some (((s1[(0:Int).toNat]?.getD 0).toNat:Int),1))
 none)
 none)
 (cond (decide ((s1.size:Int) < 2))
 (some (0,0))
 (cond (decide (0≤1))
 (cond (decide (1 < (s1.size:Int)))
 (cond (cond (((s1[(1:Int).toNat]?.getD 0).toNat:Int) == 92) (((s1[(1:Int).toNat]?.getD 0).toNat:Int) == 92) (((s1[(1:Int).toNat]?.getD 0).toNat:Int) == 34))
 (cond (decide (0≤1))
 (cond (decide (1 < (s1.size:Int)))
 (some (((s1[(1:Int).toNat]?.getD 0).toNat:Int),2))
 none)
 none)
 (cond (((s1[(1:Int).toNat]?.getD 0).toNat:Int) == 110)
 (some (10,2))
 (cond (((s1[(1:Int).toNat]?.getD 0).toNat:Int) == 116)
 (some (9,2))
 (cond (((s1[(1:Int).toNat]?.getD 0).toNat:Int) == 120)
 (cond (decide ((s1.size:Int) < 4))
 (some (0,0))
 (cond (decide (0≤2))
 (cond (decide (2 < (s1.size:Int)))
 (ob (indexByte s_0123456789abcdef ((s1[(2:Int).toNat]?.getD 0).toNat:Int)) fun r0 =>
 cond (decide (0≤3))
 (cond (decide (3 < (s1.size:Int)))
 (ob (indexByte s_0123456789abcdef ((s1[(3:Int).toNat]?.getD 0).toNat:Int)) fun r1 =>
 cond (cond (decide (r0≥0)) (decide (r1≥0)) false)
 (some ((IntKind.u8.wrap ((w64 ((w64 (16 * r0))+r1)))),4))
 (some (0,0)))
 none)
 none)
 none)
 none))
 (some (0,0))))))
 none)
 none)))
 none)
 none
def un_escape (p:ByteArray):Option (Int×Int):=escape p
def df_escape:DFn TL:=DFn.of (DA.one (DT.one DI.str)) un_escape (DA.cons (DT.one (DI.int .u8)) (DA.one dI))
theorem ok_escape:DOK PR 17 .pure df_escape:=dok (cs:=[(33,df_indexByte)]) (ss:=[]) (E:=envOf tab sl sh [(17,fd17)] [(33,.pure)]) (fun _=>by kernel_rfl) (envOK_of base (aC (st17.okl rfl aN) aN) (aC (oD ok_indexByte rfl) aN)) (.inr rfl) st17.enters
abbrev tY0:=ByteArray×ByteArray×Int×Bool×(List Int)×Int
def step_L11_3 (s1:ByteArray)(s2:ByteArray)(i1:Int)(b1:Bool)(l1:List Int)(i2:Int):Option ((tY0)⊕(((ByteArray×Int×Bool)⊕(ByteArray×Int×Bool)))) :=
 cond (decide (i2 < (s1.size:Int)))
 (cond (decide (0≤i2))
 (cond (decide (i2 < (s1.size:Int)))
 (cond (((s1[(i2:Int).toNat]?.getD 0).toNat:Int) == 34)
 (some (.inr (.inr ((strOfInts l1),(w64 (i2+1)),true))))
 (cond (decide (0≤i2))
 (cond (decide (i2≤(s1.size:Int)))
 (cond (decide ((s1.size:Int)≤(s1.size:Int)))
 (ob (escape (s1.extract i2.toNat (((s1.size:Int)).toNat))) fun r0 =>
 cond (r0.2 == 0)
 (some (.inr (.inl (s2,i1,b1))))
 (cond (fits ((l1++[r0.1]).length))
 (some (.inl (s1,s2,i1,b1,(l1++[r0.1]),(w64 (i2+r0.2)))))
 none))
 none)
 none)
 none))
 none)
 none)
 (some (.inr (.inl (s2,i1,b1))))
def stp_L11_3 (p:tY0):Option ((tY0)⊕(((ByteArray×Int×Bool)⊕(ByteArray×Int×Bool)))):=step_L11_3 p.1 p.2.1 p.2.2.1 p.2.2.2.1 p.2.2.2.2.1 p.2.2.2.2.2
def L11_3 (s1:ByteArray)(s2:ByteArray)(i1:Int)(b1:Bool)(l1:List Int)(i2:Int):Option (((ByteArray×Int×Bool)⊕(ByteArray×Int×Bool))):=iterO stp_L11_3 (((s1.size:Int) - i2).toNat+2) (s1,s2,i1,b1,l1,i2)
def ch_L11_3:kT (tY0):=kO (kS 1 (kC (Cod.xs (Cod.sc kE)) (kC (Cod.xs (Cod.sc kE)) (kC kI (kC kB (kC (Cod.xs (Cod.sc (kA 0))) (kC kI kN)))))) (kC (kR 0 5 j_lU8) kN)) (fun ((z0,z1,z2,z3,_,z4,_),z5,_)=>(z0,z1,z2,z3,z5,z4)) (fun (x:tY0)=>((x.1,(x.2.1,(x.2.2.1,(x.2.2.2.1,((),(x.2.2.2.2.2,())))))),(x.2.2.2.2.1,()))) (fun _=>rfl)
def co0_L11_3:kT (ByteArray×Int×Bool):=kO (kS 1 (kC (Cod.xs (Cod.sc kE)) (kC kI (kC kB kN))) kN) (fun p=>(p.1.1,p.1.2.1,p.1.2.2.1)) (fun (x:ByteArray×Int×Bool)=>((x.1,(x.2.1,(x.2.2,()))),())) (fun _=>rfl)
def sl_L11_3:SFn TL:=SFn.two ch_L11_3.dec (fun p=>L11_3 p.1 p.2.1 p.2.2.1 p.2.2.2.1 p.2.2.2.2.1 p.2.2.2.2.2) (.exit 0) .ret co0_L11_3.enc co0_L11_3.enc
theorem ok_L11_3:LoopOK PR (oneS sl_L11_3) nt11 q_L11_3 (loopIn (loopsOf fd11.body) 3):=lB (cs:=[(17,df_escape)]) (ss:=[]) (E:=envOf tab sl sh [] [(17,.pure)]) (an:=fd11.an) (envOK_of base aN (aC (oD ok_escape rfl) aN)) stp_L11_3 (by kernel_rfl) (sB rfl st11.keys (by kernel_rfl)) rfl rfl (fun x y h=>⟨_,h⟩) (fun _=>rfl) fun _=>by kernel_rfl
def quoted (s1:ByteArray):Option (ByteArray×Int×Bool) :=
 ob (L11_3 s1 s_empty 0 false [] 0) fun y0 =>
 two y0 (fun _ =>
 some (s_empty,0,false)) (fun b2 =>
 some (b2.1,b2.2.1,b2.2.2))
def un_quoted (p:ByteArray):Option (ByteArray×Int×Bool):=quoted p
def df_quoted:DFn TL:=DFn.of (DA.one (DT.one DI.str)) un_quoted (DA.cons (DT.one DI.str) (DA.cons dI (DA.one dB)))
theorem ok_quoted:DOK PR 11 .pure df_quoted:=dok (cs:=[]) (ss:=[(111003,sl_L11_3)]) (E:=envOf tab sl sh [(11,fd11)] []) (fun _=>by kernel_rfl) (envOK_of base (aC (st11.okl rfl (aC (lC ok_L11_3 rfl) aN)) aN) aN) (.inr rfl) st11.enters
abbrev tY1:=ByteArray×(List ByteArray)×Int×(List ByteArray)×Int×Int
def step_L6_14 (s1:ByteArray)(l1:List ByteArray)(i1:Int)(l2:List ByteArray)(i2:Int)(i3:Int):Option ((tY1)⊕(((tY1)⊕(tY1)))) :=
 cond (decide (i2 < (s1.size:Int)))
 (cond (decide (0≤i2))
 (cond (decide (i2 < (s1.size:Int)))
 (cond (((s1[(i2:Int).toNat]?.getD 0).toNat:Int) != 32)
 (cond (decide (0≤i2))
 (cond (decide (i2 < (s1.size:Int)))
 (cond (((s1[(i2:Int).toNat]?.getD 0).toNat:Int) != 9)
 (cond (decide (0≤i2))
 (cond (decide (i2 < (s1.size:Int)))
 (cond (((s1[(i2:Int).toNat]?.getD 0).toNat:Int) == 34)
 (some (.inr (.inr (s1,[],6,l2,i2,i3))))
 (some (.inl (s1,l1,i1,l2,(w64 (i2+1)),i3))))
 none)
 none)
 (some (.inr (.inl (s1,l1,i1,l2,i2,i3)))))
 none)
 none)
 (some (.inr (.inl (s1,l1,i1,l2,i2,i3)))))
 none)
 none)
 (some (.inr (.inl (s1,l1,i1,l2,i2,i3))))
def stp_L6_14 (p:tY1):Option ((tY1)⊕(((tY1)⊕(tY1)))):=step_L6_14 p.1 p.2.1 p.2.2.1 p.2.2.2.1 p.2.2.2.2.1 p.2.2.2.2.2
def L6_14 (s1:ByteArray)(l1:List ByteArray)(i1:Int)(l2:List ByteArray)(i2:Int)(i3:Int):Option (((tY1)⊕(tY1))):=iterO stp_L6_14 (((s1.size:Int) - i2).toNat+2) (s1,l1,i1,l2,i2,i3)
def ch_L6_14:kT (tY1):=kO (kS 1 (kC (Cod.xs (Cod.sc kE)) (kC (kF j_lStr) (kC kI (kC (Cod.xs (Cod.sc (kA 0))) (kC kI (kC kI kN)))))) (kC (kR 0 9 j_lStr) kN)) (fun ((z0,z1,z2,_,z3,z4,_),z5,_)=>(z0,z1,z2,z5,z3,z4)) (fun (x:tY1)=>((x.1,(x.2.1,(x.2.2.1,((),(x.2.2.2.2.1,(x.2.2.2.2.2,())))))),(x.2.2.2.1,()))) (fun _=>rfl)
def co0_L6_14:kT (tY1):=kO (kS 2 (kC (Cod.xs (Cod.sc kE)) (kC (kF j_lStr) (kC kI (kC (Cod.xs (Cod.sc (kA 0))) (kC kI (kC kI kN)))))) (kC (kR 0 9 j_lStr) kN)) (fun ((z0,z1,z2,_,z3,z4,_),z5,_)=>(z0,z1,z2,z5,z3,z4)) (fun (x:tY1)=>((x.1,(x.2.1,(x.2.2.1,((),(x.2.2.2.2.1,(x.2.2.2.2.2,())))))),(x.2.2.2.1,()))) (fun _=>rfl)
def sl_L6_14:SFn TL:=SFn.two ch_L6_14.dec (fun p=>L6_14 p.1 p.2.1 p.2.2.1 p.2.2.2.1 p.2.2.2.2.1 p.2.2.2.2.2) (.exit 2) .ret co0_L6_14.enc co0_L6_14.enc
theorem ok_L6_14:LoopOK PR (oneS sl_L6_14) nt6 q_L6_14 (loopIn (loopsOf fd6.body) 14):=lB (cs:=[]) (ss:=[]) (E:=envOf tab sl sh [] []) (an:=fd6.an) (envOK_of base aN aN) stp_L6_14 (by kernel_rfl) (FnSt.subl rfl st6.keys (aC (.inl (by kernel_rfl)) (aC (.inl (by kernel_rfl)) aN))) rfl rfl (fun x y h=>⟨_,h⟩) (fun _=>rfl) fun _=>by kernel_rfl
abbrev tY2:=ByteArray×(List ByteArray)×Int×(List ByteArray)×Int
def step_L6_3 (s1:ByteArray)(l1:List ByteArray)(i1:Int)(l2:List ByteArray)(i2:Int):Option ((tY2)⊕((((List ByteArray)×Int×(List ByteArray))⊕((List ByteArray)×Int×(List ByteArray))))) :=
 cond (decide (i2 < (s1.size:Int)))
 (cond (decide (0≤i2))
 (cond (decide (i2 < (s1.size:Int)))
 (cond (((s1[(i2:Int).toNat]?.getD 0).toNat:Int) == 32)
 (some (.inl (s1,l1,i1,l2,(w64 (i2+1)))))
 (cond (decide (0≤i2))
 (cond (decide (i2 < (s1.size:Int)))
 (cond (((s1[(i2:Int).toNat]?.getD 0).toNat:Int) == 9)
 (some (.inl (s1,l1,i1,l2,(w64 (i2+1)))))
 (cond (decide (0≤i2))
 (cond (decide (i2 < (s1.size:Int)))
 (cond (((s1[(i2:Int).toNat]?.getD 0).toNat:Int) == 35)
 (some (.inr (.inl (l1,i1,l2))))
 (cond (decide (0≤i2))
 (cond (decide (i2 < (s1.size:Int)))
 (cond (((s1[(i2:Int).toNat]?.getD 0).toNat:Int) == 34)
 (cond (decide (0≤(w64 (i2+1))))
 (cond (decide ((w64 (i2+1))≤(s1.size:Int)))
 (cond (decide ((s1.size:Int)≤(s1.size:Int)))
 (ob (quoted (s1.extract (((w64 (i2+1))).toNat) (((s1.size:Int)).toNat))) fun r0 =>
 cond (!r0.2.2)
 (some (.inr (.inr ([],6,l2))))
 (cond (decide ((w64 (i2+(w64 (1+r0.2.1)))) < (s1.size:Int)))
 (cond (decide (0≤(w64 (i2+(w64 (1+r0.2.1))))))
 (cond (decide ((w64 (i2+(w64 (1+r0.2.1)))) < (s1.size:Int)))
 (cond (((s1[((w64 (i2+(w64 (1+r0.2.1)))):Int).toNat]?.getD 0).toNat:Int) != 32)
 (cond (decide (0≤(w64 (i2+(w64 (1+r0.2.1))))))
 (cond (decide ((w64 (i2+(w64 (1+r0.2.1)))) < (s1.size:Int)))
 (cond (((s1[((w64 (i2+(w64 (1+r0.2.1)))):Int).toNat]?.getD 0).toNat:Int) != 9)
 (some (.inr (.inr ([],6,l2))))
 (cond (fits ((l2++[r0.1]).length))
 (some (.inl (s1,l1,i1,(l2++[r0.1]),(w64 (i2+(w64 (1+r0.2.1)))))))
 none))
 none)
 none)
 (cond (fits ((l2++[r0.1]).length))
 (some (.inl (s1,l1,i1,(l2++[r0.1]),(w64 (i2+(w64 (1+r0.2.1)))))))
 none))
 none)
 none)
 (cond (fits ((l2++[r0.1]).length))
 (some (.inl (s1,l1,i1,(l2++[r0.1]),(w64 (i2+(w64 (1+r0.2.1)))))))
 none)))
 none)
 none)
 none)
 (ob (L6_14 s1 l1 i1 l2 i2 i2) fun y1 =>
 two y1 (fun a2 =>
 cond (decide (0≤a2.2.2.2.2.2))
 (cond (decide (a2.2.2.2.2.2≤a2.2.2.2.2.1))
 (cond (decide (a2.2.2.2.2.1≤(a2.1.size:Int)))
 (cond (fits ((a2.2.2.2.1++[(a2.1.extract a2.2.2.2.2.2.toNat a2.2.2.2.2.1.toNat)]).length))
 (some (.inl (a2.1,a2.2.1,a2.2.2.1,(a2.2.2.2.1++[(a2.1.extract a2.2.2.2.2.2.toNat a2.2.2.2.2.1.toNat)]),a2.2.2.2.2.1)))
 none)
 none)
 none)
 none) (fun b3 =>
 some (.inr (.inr (b3.2.1,b3.2.2.1,b3.2.2.2.1))))))
 none)
 none))
 none)
 none))
 none)
 none))
 none)
 none)
 (some (.inr (.inl (l1,i1,l2))))
def stp_L6_3 (p:tY2):Option ((tY2)⊕((((List ByteArray)×Int×(List ByteArray))⊕((List ByteArray)×Int×(List ByteArray))))):=step_L6_3 p.1 p.2.1 p.2.2.1 p.2.2.2.1 p.2.2.2.2
def L6_3 (s1:ByteArray)(l1:List ByteArray)(i1:Int)(l2:List ByteArray)(i2:Int):Option ((((List ByteArray)×Int×(List ByteArray))⊕((List ByteArray)×Int×(List ByteArray)))):=iterO stp_L6_3 (((s1.size:Int) - i2).toNat+2) (s1,l1,i1,l2,i2)
def ch_L6_3:kT (tY2):=kO (kS 1 (kC (Cod.xs (Cod.sc kE)) (kC (kF j_lStr) (kC kI (kC (Cod.xs (Cod.sc (kA 0))) (kC kI kN))))) (kC (kR 0 9 j_lStr) kN)) (fun p=>(p.1.1,p.1.2.1,p.1.2.2.1,p.2.1,p.1.2.2.2.2.1)) (fun (x:tY2)=>((x.1,(x.2.1,(x.2.2.1,((),(x.2.2.2.2,()))))),(x.2.2.2.1,()))) (fun _=>rfl)
def co0_L6_3:kT ((List ByteArray)×Int×(List ByteArray)):=kO (kS 2 (kC (kF j_lStr) (kC kI (kC (Cod.xs (Cod.sc (kA 1))) kN))) (kC (kR 1 9 j_lStr) kN)) (fun p=>(p.1.1,p.1.2.1,p.2.1)) (fun (x:(List ByteArray)×Int×(List ByteArray))=>((x.1,(x.2.1,((),()))),(x.2.2,()))) (fun _=>rfl)
def sl_L6_3:SFn TL:=SFn.two ch_L6_3.dec (fun p=>L6_3 p.1 p.2.1 p.2.2.1 p.2.2.2.1 p.2.2.2.2) (.exit 0) .ret co0_L6_3.enc co0_L6_3.enc
theorem ok_L6_3:LoopOK PR (oneS sl_L6_3) nt6 q_L6_3 (loopIn (loopsOf fd6.body) 3):=lB (cs:=[(11,df_quoted)]) (ss:=[(106014,sl_L6_14)]) (E:=envOf tab sl sh [] [(11,.pure)]) (an:=fd6.an) (envOK_of base aN (aC (oD ok_quoted rfl) aN)) stp_L6_3 (by kernel_rfl) (FnSt.subl rfl st6.keys (aC (.inl (by kernel_rfl)) (aC (.inr (lC ok_L6_14 rfl)) aN))) rfl rfl (fun x y h=>⟨_,h⟩) (fun _=>rfl) fun _=>by kernel_rfl
def words (s1:ByteArray):Option ((List ByteArray)×Int) :=
 ob (L6_3 s1 [] 0 [] 0) fun y0 =>
 two y0 (fun a1 =>
 some (a1.2.2,0)) (fun b2 =>
 some (b2.1,b2.2.1))
def un_words (p:ByteArray):Option ((List ByteArray)×Int):=words p
def df_words:DFn TL:=DFn.of (DA.one (DT.one DI.str)) un_words (DA.cons (DT.one di_lStr) (DA.one dI))
theorem ok_words:DOK PR 6 .keep df_words:=dok (cs:=[]) (ss:=[(106003,sl_L6_3),(106014,sl_L6_14)]) (E:=envOf tab sl sh [(6,fd6)] []) (fun _=>by kernel_rfl) (envOK_of base (aC (st6.okl rfl (aC (lC ok_L6_3 rfl) (aC (lC ok_L6_14 rfl) aN))) aN) aN) (.inl rfl) st6.enters
abbrev tY3:=(List Int)×(List Int)×Int×Int
def step_L8_3 (l1:List Int)(l2:List Int)(i1:Int)(i2:Int):Option ((tY3)⊕((List Int))) :=
 cond (decide (i2 < i1))
 (cond (decide (0≤i2))
 (ob (l2[i2.toNat]?) fun e0 =>
 cond (e0 == 92)
 (cond (fits ((l1++[92,e0]).length))
 (some (.inl ((l1++[92,e0]),l2,i1,(w64 (i2+1)))))
 none)
 (cond (e0 == 34)
 (cond (fits ((l1++[92,e0]).length))
 (some (.inl ((l1++[92,e0]),l2,i1,(w64 (i2+1)))))
 none)
 (cond (e0 == 10)
 (cond (fits ((l1++[92,110]).length))
 (some (.inl ((l1++[92,110]),l2,i1,(w64 (i2+1)))))
 none)
 (cond (e0 == 9)
 (cond (fits ((l1++[92,116]).length))
 (some (.inl ((l1++[92,116]),l2,i1,(w64 (i2+1)))))
 none)
 (cond (cond (decide (e0 < 32)) true (decide (e0 > 126)))
 (cond (decide (0≤(e0 / 16)))
 (cond (decide ((e0 / 16) < (s_0123456789abcdef.size:Int)))
 (cond (decide (0≤(andI .u8 e0 15)))
 (cond (decide ((andI .u8 e0 15) < (s_0123456789abcdef.size:Int)))
 (cond (fits ((l1++[92,120,((s_0123456789abcdef[((e0 / 16):Int).toNat]?.getD 0).toNat:Int),((s_0123456789abcdef[((andI .u8 e0 15):Int).toNat]?.getD 0).toNat:Int)]).length))
 (some (.inl ((l1++[92,120,((s_0123456789abcdef[((e0 / 16):Int).toNat]?.getD 0).toNat:Int),((s_0123456789abcdef[((andI .u8 e0 15):Int).toNat]?.getD 0).toNat:Int)]),l2,i1,(w64 (i2+1)))))
 none)
 none)
 none)
 none)
 none)
 (cond (fits ((l1++[e0]).length))
 (some (.inl ((l1++[e0]),l2,i1,(w64 (i2+1)))))
 none))))))
 none)
 (some (.inr l1))
def stp_L8_3 (p:tY3):Option ((tY3)⊕((List Int))):=step_L8_3 p.1 p.2.1 p.2.2.1 p.2.2.2
def L8_3 (l1:List Int)(l2:List Int)(i1:Int)(i2:Int):Option ((List Int)):=iterO stp_L8_3 ((i1 - i2).toNat+2) (l1,l2,i1,i2)
def ch_L8_3:kT (tY3):=kO (kS 1 (kC (Cod.xs (Cod.sc (kA 0))) (kC (kF j_lU8) (kC kI (kC kI kN)))) (kC (kR 0 5 j_lU8) kN)) (fun p=>(p.2.1,p.1.2.1,p.1.2.2.1,p.1.2.2.2.1)) (fun (x:tY3)=>(((),(x.2.1,(x.2.2.1,(x.2.2.2,())))),(x.1,()))) (fun _=>rfl)
def co0_L8_3:kT ((List Int)):=kO (kS 2 (kC (Cod.xs (Cod.sc (kA 1))) kN) (kC (kR 1 5 j_lU8) kN)) (fun p=>p.2.1) (fun (x:(List Int))=>(((),()),(x,()))) (fun _=>rfl)
def sl_L8_3:SFn TL:=SFn.one ch_L8_3.dec (fun p=>L8_3 p.1 p.2.1 p.2.2.1 p.2.2.2) (.exit 0) co0_L8_3.enc
theorem ok_L8_3:LoopOK PR (oneS sl_L8_3) nt8 q_L8_3 (loopIn (loopsOf fd8.body) 3):=lA (cs:=[]) (ss:=[]) (E:=envOf tab sl sh [] []) (an:=fd8.an) (envOK_of base aN aN) stp_L8_3 (by kernel_rfl) (sB rfl st8.keys (by kernel_rfl)) rfl (fun x y h=>⟨_,h⟩) (fun _=>rfl) fun _=>by kernel_rfl
def quote (l1:List Int):Option ByteArray :=
 ob (L8_3 [34] l1 (l1.length:Int) 0) fun y0 =>
 cond (fits ((y0++[34]).length))
 (some (strOfInts (y0++[34])))
 none
def un_quote (p:(List Int)):Option ByteArray:=quote p
def df_quote:DFn TL:=DFn.of (DA.one (DT.one di_lU8)) un_quote (DA.one (DT.one DI.str))
theorem ok_quote:DOK PR 8 .pure df_quote:=dok (cs:=[]) (ss:=[(108003,sl_L8_3)]) (E:=envOf tab sl sh [(8,fd8)] []) (fun _=>by kernel_rfl) (envOK_of base (aC (st8.okl rfl (aC (lC ok_L8_3 rfl) aN)) aN) aN) (.inr rfl) st8.enters
def rhex (i1:Int):Option Int :=
 cond (cond (decide (i1≥48)) (decide (i1≤57)) false)
 (some (w64 ((IntKind.u8.wrap (i1 - 48)))))
 (cond (cond (decide (i1≥97)) (decide (i1≤102)) false)
 (some (w64 ((w64 ((IntKind.u8.wrap (i1 - 97))))+10)))
 (some (-1)))
def un_rhex (p:Int):Option Int:=rhex p
def df_rhex:DFn TL:=DFn.of (DA.one (DT.one (DI.int .u8))) un_rhex (DA.one dI)
theorem ok_rhex:DOK PR 18 .pure df_rhex:=dok (cs:=[]) (ss:=[]) (E:=envOf tab sl sh [(18,fd18)] []) (fun _=>by kernel_rfl) (envOK_of base (aC (st18.okl rfl aN) aN) aN) (.inr rfl) st18.enters
abbrev tY4:=ByteArray×Int×ByteArray×Int×(List Int)
def step_L12_3 (s1:ByteArray)(i1:Int)(s2:ByteArray)(i2:Int)(l1:List Int):Option ((tY4)⊕(((tY4)⊕(tY4)))) :=
 cond (decide (i1 < (s1.size:Int)))
 (cond (decide (0≤i1))
 (cond (decide (i1 < (s1.size:Int)))
 (cond (((s1[(i1:Int).toNat]?.getD 0).toNat:Int) != 34)
 (cond (decide (0≤i1))
 (cond (decide (i1 < (s1.size:Int)))
 (cond (((s1[(i1:Int).toNat]?.getD 0).toNat:Int) != 92)
 (cond (decide (0≤i1))
 (cond (decide (i1 < (s1.size:Int)))
 (cond (fits ((l1++[((s1[(i1:Int).toNat]?.getD 0).toNat:Int)]).length))
 (some (.inl (s1,(w64 (i1+1)),s2,i2,(l1++[((s1[(i1:Int).toNat]?.getD 0).toNat:Int)]))))
 none)
 none)
 none)
 (cond (decide ((w64 (i1+1))≥(s1.size:Int)))
 (some (.inr (.inr (s1,i1,s_empty,(-1),l1))))
 (cond (decide (0≤(w64 (i1+1))))
 (cond (decide ((w64 (i1+1)) < (s1.size:Int)))
 (cond (cond (((s1[((w64 (i1+1)):Int).toNat]?.getD 0).toNat:Int) == 92) (((s1[((w64 (i1+1)):Int).toNat]?.getD 0).toNat:Int) == 92) (((s1[((w64 (i1+1)):Int).toNat]?.getD 0).toNat:Int) == 34))
 (cond (decide (0≤(w64 (i1+1))))
 (cond (decide ((w64 (i1+1)) < (s1.size:Int)))
 (cond (fits ((l1++[((s1[((w64 (i1+1)):Int).toNat]?.getD 0).toNat:Int)]).length))
 (some (.inl (s1,(w64 (i1+2)),s2,i2,(l1++[((s1[((w64 (i1+1)):Int).toNat]?.getD 0).toNat:Int)]))))
 none)
 none)
 none)
 (cond (((s1[((w64 (i1+1)):Int).toNat]?.getD 0).toNat:Int) == 110)
 (cond (fits ((l1++[10]).length))
 (some (.inl (s1,(w64 (i1+2)),s2,i2,(l1++[10]))))
 none)
 (cond (((s1[((w64 (i1+1)):Int).toNat]?.getD 0).toNat:Int) == 116)
 (cond (fits ((l1++[9]).length))
 (some (.inl (s1,(w64 (i1+2)),s2,i2,(l1++[9]))))
 none)
 (cond (((s1[((w64 (i1+1)):Int).toNat]?.getD 0).toNat:Int) == 120)
 (cond (decide ((w64 (i1+3))≥(s1.size:Int)))
 (some (.inr (.inr (s1,i1,s_empty,(-1),l1))))
 (cond (decide (0≤(w64 (i1+2))))
 (cond (decide ((w64 (i1+2)) < (s1.size:Int)))
 (ob (rhex ((s1[((w64 (i1+2)):Int).toNat]?.getD 0).toNat:Int)) fun r0 =>
 cond (decide (r0 < 0))
 (some (.inr (.inr (s1,i1,s_empty,(-1),l1))))
 (cond (decide (0≤(w64 (i1+3))))
 (cond (decide ((w64 (i1+3)) < (s1.size:Int)))
 (ob (rhex ((s1[((w64 (i1+3)):Int).toNat]?.getD 0).toNat:Int)) fun r1 =>
 cond (decide (r1 < 0))
 (some (.inr (.inr (s1,i1,s_empty,(-1),l1))))
 (cond (decide (0≤(w64 (i1+2))))
 (cond (decide ((w64 (i1+2)) < (s1.size:Int)))
 (ob (rhex ((s1[((w64 (i1+2)):Int).toNat]?.getD 0).toNat:Int)) fun r2 =>
 cond (decide (0≤(w64 (i1+3))))
 (cond (decide ((w64 (i1+3)) < (s1.size:Int)))
 (ob (rhex ((s1[((w64 (i1+3)):Int).toNat]?.getD 0).toNat:Int)) fun r3 =>
 cond (fits ((l1++[(IntKind.u8.wrap ((w64 ((w64 (16 * r2))+r3))))]).length))
 (some (.inl (s1,(w64 ((w64 (i1+2))+2)),s2,i2,(l1++[(IntKind.u8.wrap ((w64 ((w64 (16 * r2))+r3))))]))))
 none)
 none)
 none)
 none)
 none))
 none)
 none))
 none)
 none))
 (some (.inr (.inr (s1,i1,s_empty,(-1),l1))))))))
 none)
 none)))
 none)
 none)
 (some (.inr (.inl (s1,i1,s2,i2,l1)))))
 none)
 none)
 (some (.inr (.inl (s1,i1,s2,i2,l1))))
def stp_L12_3 (p:tY4):Option ((tY4)⊕(((tY4)⊕(tY4)))):=step_L12_3 p.1 p.2.1 p.2.2.1 p.2.2.2.1 p.2.2.2.2
def L12_3 (s1:ByteArray)(i1:Int)(s2:ByteArray)(i2:Int)(l1:List Int):Option (((tY4)⊕(tY4))):=iterO stp_L12_3 (((s1.size:Int) - i1).toNat+2) (s1,i1,s2,i2,l1)
def ch_L12_3:kT (tY4):=kO (kS 1 (kC (Cod.xs (Cod.sc kE)) (kC kI (kC (Cod.xs (Cod.sc kE)) (kC kI (kC (Cod.xs (Cod.sc (kA 0))) kN))))) (kC (kR 0 5 j_lU8) kN)) (fun p=>(p.1.1,p.1.2.1,p.1.2.2.1,p.1.2.2.2.1,p.2.1)) (fun (x:tY4)=>((x.1,(x.2.1,(x.2.2.1,(x.2.2.2.1,((),()))))),(x.2.2.2.2,()))) (fun _=>rfl)
def co0_L12_3:kT (tY4):=kO (kS 2 (kC (Cod.xs (Cod.sc kE)) (kC kI (kC (Cod.xs (Cod.sc kE)) (kC kI (kC (Cod.xs (Cod.sc (kA 1))) kN))))) (kC (kR 1 5 j_lU8) kN)) (fun p=>(p.1.1,p.1.2.1,p.1.2.2.1,p.1.2.2.2.1,p.2.1)) (fun (x:tY4)=>((x.1,(x.2.1,(x.2.2.1,(x.2.2.2.1,((),()))))),(x.2.2.2.2,()))) (fun _=>rfl)
def sl_L12_3:SFn TL:=SFn.two ch_L12_3.dec (fun p=>L12_3 p.1 p.2.1 p.2.2.1 p.2.2.2.1 p.2.2.2.2) (.exit 0) .ret co0_L12_3.enc co0_L12_3.enc
theorem ok_L12_3:LoopOK PR (oneS sl_L12_3) nt12 q_L12_3 (loopIn (loopsOf fd12.body) 3):=lB (cs:=[(18,df_rhex)]) (ss:=[]) (E:=envOf tab sl sh [] [(18,.pure)]) (an:=fd12.an) (envOK_of base aN (aC (oD ok_rhex rfl) aN)) stp_L12_3 (by kernel_rfl) (sB rfl st12.keys (by kernel_rfl)) rfl rfl (fun x y h=>⟨_,h⟩) (fun _=>rfl) fun _=>by kernel_rfl
def rquoted (s1:ByteArray)(i1:Int):Option (ByteArray×Int) :=
 ob (L12_3 s1 (w64 (i1+1)) s_empty 0 []) fun y0 =>
 two y0 (fun a1 =>
 cond (decide (a1.2.1≥(a1.1.size:Int)))
 (some (s_empty,(-1)))
 (some ((strOfInts a1.2.2.2.2),(w64 (a1.2.1+1))))) (fun b2 =>
 some (b2.2.2.1,b2.2.2.2.1))
def un_rquoted (p:ByteArray×Int):Option (ByteArray×Int):=rquoted p.1 p.2
def df_rquoted:DFn TL:=DFn.of (DA.cons (DT.one DI.str) (DA.one dI)) un_rquoted (DA.cons (DT.one DI.str) (DA.one dI))
theorem ok_rquoted:DOK PR 12 .pure df_rquoted:=dok (cs:=[]) (ss:=[(112003,sl_L12_3)]) (E:=envOf tab sl sh [(12,fd12)] []) (fun _=>by kernel_rfl) (envOK_of base (aC (st12.okl rfl (aC (lC ok_L12_3 rfl) aN)) aN) aN) (.inr rfl) st12.enters
def step_L7_3 (s1:ByteArray)(l1:List ByteArray)(i1:Int)(l2:List ByteArray)(i2:Int):Option ((tY2)⊕(tY2)) :=
 cond (decide (i2 < (s1.size:Int)))
 (cond (decide (0≤i2))
 (cond (decide (i2 < (s1.size:Int)))
 (cond (((s1[(i2:Int).toNat]?.getD 0).toNat:Int) == 32)
 (some (.inl (s1,l1,i1,l2,(w64 (i2+1)))))
 (cond (decide (0≤i2))
 (cond (decide (i2 < (s1.size:Int)))
 (cond (((s1[(i2:Int).toNat]?.getD 0).toNat:Int) == 9)
 (some (.inl (s1,l1,i1,l2,(w64 (i2+1)))))
 (some (.inr (s1,l1,i1,l2,i2))))
 none)
 none))
 none)
 none)
 (some (.inr (s1,l1,i1,l2,i2)))
def stp_L7_3 (p:tY2):Option ((tY2)⊕(tY2)):=step_L7_3 p.1 p.2.1 p.2.2.1 p.2.2.2.1 p.2.2.2.2
def L7_3 (s1:ByteArray)(l1:List ByteArray)(i1:Int)(l2:List ByteArray)(i2:Int):Option tY2:=iterO stp_L7_3 (((s1.size:Int) - i2).toNat+2) (s1,l1,i1,l2,i2)
def co0_L7_3:kT (tY2):=kO (kS 2 (kC (Cod.xs (Cod.sc kE)) (kC (kF j_lStr) (kC kI (kC (Cod.xs (Cod.sc (kA 0))) (kC kI kN))))) (kC (kR 0 9 j_lStr) kN)) (fun p=>(p.1.1,p.1.2.1,p.1.2.2.1,p.2.1,p.1.2.2.2.2.1)) (fun (x:tY2)=>((x.1,(x.2.1,(x.2.2.1,((),(x.2.2.2.2,()))))),(x.2.2.2.1,()))) (fun _=>rfl)
def sl_L7_3:SFn TL:=SFn.one ch_L6_3.dec (fun p=>L7_3 p.1 p.2.1 p.2.2.1 p.2.2.2.1 p.2.2.2.2) (.exit 2) co0_L7_3.enc
theorem ok_L7_3:LoopOK PR (oneS sl_L7_3) nt7 q_L7_3 (loopIn (loopsOf fd7.body) 3):=lA (cs:=[]) (ss:=[]) (E:=envOf tab sl sh [] []) (an:=fd7.an) (envOK_of base aN aN) stp_L7_3 (by kernel_rfl) (FnSt.subl rfl st7.keys (aC (.inl (by kernel_rfl)) (aC (.inl (by kernel_rfl)) (aC (.inl (by kernel_rfl)) aN)))) rfl (fun x y h=>⟨_,h⟩) (fun _=>rfl) fun _=>by kernel_rfl
def step_L7_14 (s1:ByteArray)(l1:List ByteArray)(i1:Int)(l2:List ByteArray)(i2:Int)(i3:Int):Option ((tY1)⊕(((tY1)⊕(tY1)))) :=
 cond (decide (i2 < (s1.size:Int)))
 (cond (decide (0≤i2))
 (cond (decide (i2 < (s1.size:Int)))
 (cond (((s1[(i2:Int).toNat]?.getD 0).toNat:Int) != 32)
 (cond (decide (0≤i2))
 (cond (decide (i2 < (s1.size:Int)))
 (cond (((s1[(i2:Int).toNat]?.getD 0).toNat:Int) != 9)
 (cond (decide (0≤i2))
 (cond (decide (i2 < (s1.size:Int)))
 (cond (((s1[(i2:Int).toNat]?.getD 0).toNat:Int) == 34)
 (some (.inr (.inr (s1,[],6,l2,i2,i3))))
 (some (.inl (s1,l1,i1,l2,(w64 (i2+1)),i3))))
 none)
 none)
 (some (.inr (.inl (s1,l1,i1,l2,i2,i3)))))
 none)
 none)
 (some (.inr (.inl (s1,l1,i1,l2,i2,i3)))))
 none)
 none)
 (some (.inr (.inl (s1,l1,i1,l2,i2,i3))))
def stp_L7_14 (p:tY1):Option ((tY1)⊕(((tY1)⊕(tY1)))):=step_L7_14 p.1 p.2.1 p.2.2.1 p.2.2.2.1 p.2.2.2.2.1 p.2.2.2.2.2
def L7_14 (s1:ByteArray)(l1:List ByteArray)(i1:Int)(l2:List ByteArray)(i2:Int)(i3:Int):Option (((tY1)⊕(tY1))):=iterO stp_L7_14 (((s1.size:Int) - i2).toNat+2) (s1,l1,i1,l2,i2,i3)
def sl_L7_14:SFn TL:=SFn.two ch_L6_14.dec (fun p=>L7_14 p.1 p.2.1 p.2.2.1 p.2.2.2.1 p.2.2.2.2.1 p.2.2.2.2.2) (.exit 4) .ret co0_L6_14.enc co0_L6_14.enc
theorem ok_L7_14:LoopOK PR (oneS sl_L7_14) nt7 q_L7_14 (loopIn (loopsOf fd7.body) 14):=lB (cs:=[]) (ss:=[]) (E:=envOf tab sl sh [] []) (an:=fd7.an) (envOK_of base aN aN) stp_L7_14 (by kernel_rfl) (FnSt.subl rfl st7.keys (aC (.inl (by kernel_rfl)) (aC (.inl (by kernel_rfl)) (aC (.inl (by kernel_rfl)) aN)))) rfl rfl (fun x y h=>⟨_,h⟩) (fun _=>rfl) fun _=>by kernel_rfl
def step_L7_0 (s1:ByteArray)(l1:List ByteArray)(i1:Int)(l2:List ByteArray)(i2:Int):Option ((tY2)⊕((List ByteArray)×Int)) :=
 ob (L7_3 s1 l1 i1 l2 i2) fun y0 =>
 cond (decide (y0.2.2.2.2≥(y0.1.size:Int)))
 (some (.inr (y0.2.2.2.1,0)))
 (cond (decide (0≤y0.2.2.2.2))
 (cond (decide (y0.2.2.2.2 < (y0.1.size:Int)))
 (cond (((y0.1[(y0.2.2.2.2:Int).toNat]?.getD 0).toNat:Int) == 35)
 (some (.inr (y0.2.2.2.1,0)))
 (cond (decide (0≤y0.2.2.2.2))
 (cond (decide (y0.2.2.2.2 < (y0.1.size:Int)))
 (cond (((y0.1[(y0.2.2.2.2:Int).toNat]?.getD 0).toNat:Int) == 34)
 (ob (rquoted y0.1 y0.2.2.2.2) fun r1 =>
 cond (decide (r1.2 < 0))
 (some (.inr ([],6)))
 (cond (decide (r1.2 < (y0.1.size:Int)))
 (cond (decide (0≤r1.2))
 (cond (decide (r1.2 < (y0.1.size:Int)))
 (cond (((y0.1[(r1.2:Int).toNat]?.getD 0).toNat:Int) != 32)
 (cond (decide (0≤r1.2))
 (cond (decide (r1.2 < (y0.1.size:Int)))
 (cond (((y0.1[(r1.2:Int).toNat]?.getD 0).toNat:Int) != 9)
 (some (.inr ([],6)))
 (cond (fits ((y0.2.2.2.1++[r1.1]).length))
 (some (.inl (y0.1,y0.2.1,y0.2.2.1,(y0.2.2.2.1++[r1.1]),r1.2)))
 none))
 none)
 none)
 (cond (fits ((y0.2.2.2.1++[r1.1]).length))
 (some (.inl (y0.1,y0.2.1,y0.2.2.1,(y0.2.2.2.1++[r1.1]),r1.2)))
 none))
 none)
 none)
 (cond (fits ((y0.2.2.2.1++[r1.1]).length))
 (some (.inl (y0.1,y0.2.1,y0.2.2.1,(y0.2.2.2.1++[r1.1]),r1.2)))
 none)))
 (ob (L7_14 y0.1 y0.2.1 y0.2.2.1 y0.2.2.2.1 y0.2.2.2.2 y0.2.2.2.2) fun y2 =>
 two y2 (fun a3 =>
 cond (decide (0≤a3.2.2.2.2.2))
 (cond (decide (a3.2.2.2.2.2≤a3.2.2.2.2.1))
 (cond (decide (a3.2.2.2.2.1≤(a3.1.size:Int)))
 (cond (fits ((a3.2.2.2.1++[(a3.1.extract a3.2.2.2.2.2.toNat a3.2.2.2.2.1.toNat)]).length))
 (some (.inl (a3.1,a3.2.1,a3.2.2.1,(a3.2.2.2.1++[(a3.1.extract a3.2.2.2.2.2.toNat a3.2.2.2.2.1.toNat)]),a3.2.2.2.2.1)))
 none)
 none)
 none)
 none) (fun b4 =>
 some (.inr (b4.2.1,b4.2.2.1)))))
 none)
 none))
 none)
 none)
def stp_L7_0 (p:tY2):Option ((tY2)⊕((List ByteArray)×Int)):=step_L7_0 p.1 p.2.1 p.2.2.1 p.2.2.2.1 p.2.2.2.2
def L7_0 (s1:ByteArray)(l1:List ByteArray)(i1:Int)(l2:List ByteArray)(i2:Int):Option ((List ByteArray)×Int):=iterO stp_L7_0 (1099511627776) (s1,l1,i1,l2,i2)
def co0_L7_0:kT ((List ByteArray)×Int):=kO (kS 1 (kC (kF j_lStr) (kC kI kN)) kN) (fun p=>(p.1.1,p.1.2.1)) (fun (x:(List ByteArray)×Int)=>((x.1,(x.2,())),())) (fun _=>rfl)
def sl_L7_0:SFn TL:=SFn.one ch_L6_3.dec (fun p=>L7_0 p.1 p.2.1 p.2.2.1 p.2.2.2.1 p.2.2.2.2) .ret co0_L7_0.enc
theorem ok_L7_0:LoopOK PR (oneS sl_L7_0) nt7 q_L7_0 (loopIn (loopsOf fd7.body) 0):=lA (cs:=[(12,df_rquoted)]) (ss:=[(107003,sl_L7_3),(107014,sl_L7_14)]) (E:=envOf tab sl sh [] [(12,.pure)]) (an:=fd7.an) (envOK_of base aN (aC (oD ok_rquoted rfl) aN)) stp_L7_0 (by kernel_rfl) (FnSt.subl rfl st7.keys (aC (.inl (by kernel_rfl)) (aC (.inr (lC ok_L7_3 rfl)) (aC (.inr (lC ok_L7_14 rfl)) aN)))) rfl (fun x y h=>⟨_,h⟩) (fun _=>rfl) fun _=>by kernel_rfl
def rwords (s1:ByteArray):Option ((List ByteArray)×Int) :=
 ob (L7_0 s1 [] 0 [] 0) fun y0 =>
 some (y0.1,y0.2)
def un_rwords (p:ByteArray):Option ((List ByteArray)×Int):=rwords p
def df_rwords:DFn TL:=DFn.of (DA.one (DT.one DI.str)) un_rwords (DA.cons (DT.one di_lStr) (DA.one dI))
theorem ok_rwords:DOK PR 7 .keep df_rwords:=dok (cs:=[]) (ss:=[(107000,sl_L7_0),(107003,sl_L7_3),(107014,sl_L7_14)]) (E:=envOf tab sl sh [(7,fd7)] []) (fun _=>by kernel_rfl) (envOK_of base (aC (st7.okl rfl (aC (lC ok_L7_0 rfl) (aC (lC ok_L7_3 rfl) (aC (lC ok_L7_14 rfl) aN)))) aN) aN) (.inl rfl) st7.enters
abbrev tY5:=(List Int)×ByteArray×(List Int)×Int
def step_L9_4 (l1:List Int)(s1:ByteArray)(l2:List Int)(i1:Int):Option ((tY5)⊕((List Int))) :=
 cond (decide (i1 < (l1.length:Int)))
 (cond (decide (0≤i1))
 (ob (l1[i1.toNat]?) fun e0 =>
 cond (cond (e0 == 92) true (e0 == 34))
 (cond (fits ((l2++[92,e0]).length))
 (some (.inl (l1,s1,(l2++[92,e0]),(w64 (i1+1)))))
 none)
 (cond (e0 == 10)
 (cond (fits ((l2++[92,110]).length))
 (some (.inl (l1,s1,(l2++[92,110]),(w64 (i1+1)))))
 none)
 (cond (e0 == 9)
 (cond (fits ((l2++[92,116]).length))
 (some (.inl (l1,s1,(l2++[92,116]),(w64 (i1+1)))))
 none)
 (cond (cond (decide (e0 < 32)) true (decide (e0 > 126)))
 (cond (decide (0≤(e0 / 16)))
 (cond (decide ((e0 / 16) < (s1.size:Int)))
 (cond (decide (0≤(andI .u8 e0 15)))
 (cond (decide ((andI .u8 e0 15) < (s1.size:Int)))
 (cond (fits ((l2++[92,120,((s1[((e0 / 16):Int).toNat]?.getD 0).toNat:Int),((s1[((andI .u8 e0 15):Int).toNat]?.getD 0).toNat:Int)]).length))
 (some (.inl (l1,s1,(l2++[92,120,((s1[((e0 / 16):Int).toNat]?.getD 0).toNat:Int),((s1[((andI .u8 e0 15):Int).toNat]?.getD 0).toNat:Int)]),(w64 (i1+1)))))
 none)
 none)
 none)
 none)
 none)
 (cond (fits ((l2++[e0]).length))
 (some (.inl (l1,s1,(l2++[e0]),(w64 (i1+1)))))
 none)))))
 none)
 (some (.inr l2))
def stp_L9_4 (p:tY5):Option ((tY5)⊕((List Int))):=step_L9_4 p.1 p.2.1 p.2.2.1 p.2.2.2
def L9_4 (l1:List Int)(s1:ByteArray)(l2:List Int)(i1:Int):Option ((List Int)):=iterO stp_L9_4 (((l1.length:Int) - i1).toNat+2) (l1,s1,l2,i1)
def ch_L9_4:kT (tY5):=kO (kS 1 (kC (kF j_lU8) (kC (Cod.xs (Cod.sc kE)) (kC (Cod.xs (Cod.sc (kA 0))) (kC kI kN)))) (kC (kR 0 5 j_lU8) kN)) (fun p=>(p.1.1,p.1.2.1,p.2.1,p.1.2.2.2.1)) (fun (x:tY5)=>((x.1,(x.2.1,((),(x.2.2.2,())))),(x.2.2.1,()))) (fun _=>rfl)
def sl_L9_4:SFn TL:=SFn.one ch_L9_4.dec (fun p=>L9_4 p.1 p.2.1 p.2.2.1 p.2.2.2) (.exit 0) co0_L8_3.enc
theorem ok_L9_4:LoopOK PR (oneS sl_L9_4) nt9 q_L9_4 (loopIn (loopsOf fd9.body) 4):=lA (cs:=[]) (ss:=[]) (E:=envOf tab sl sh [] []) (an:=fd9.an) (envOK_of base aN aN) stp_L9_4 (by kernel_rfl) (sB rfl st9.keys (by kernel_rfl)) rfl (fun x y h=>⟨_,h⟩) (fun _=>rfl) fun _=>by kernel_rfl
def rquote (l1:List Int):Option ByteArray :=
 ob (L9_4 l1 s_0123456789abcdef [34] 0) fun y0 =>
 cond (fits ((y0++[34]).length))
 (some (strOfInts (y0++[34])))
 none
def un_rquote (p:(List Int)):Option ByteArray:=rquote p
def df_rquote:DFn TL:=DFn.of (DA.one (DT.one di_lU8)) un_rquote (DA.one (DT.one DI.str))
theorem ok_rquote:DOK PR 9 .pure df_rquote:=dok (cs:=[]) (ss:=[(109004,sl_L9_4)]) (E:=envOf tab sl sh [(9,fd9)] []) (fun _=>by kernel_rfl) (envOK_of base (aC (st9.okl rfl (aC (lC ok_L9_4 rfl) aN)) aN) aN) (.inr rfl) st9.enters
abbrev tY6:=(List Int)×Bool×(List ByteArray)×(List ByteArray)×Int
def step_L3_8 (l1:List Int)(b1:Bool)(l2:List ByteArray)(l3:List ByteArray)(i1:Int):Option ((tY6)⊕((((List Int)×Bool)⊕((List Int)×Bool)))) :=
 cond (decide (i1 < (l2.length:Int)))
 (cond (decide (0≤i1))
 (ob (l2[i1.toNat]?) fun e0 =>
 cond (decide (0≤i1))
 (ob (l3[i1.toNat]?) fun e1 =>
 cond (!sEq e0 e1)
 (some (.inr (.inr (l1,false))))
 (some (.inl (l1,b1,l2,l3,(w64 (i1+1))))))
 none)
 none)
 (some (.inr (.inl (l1,b1))))
def stp_L3_8 (p:tY6):Option ((tY6)⊕((((List Int)×Bool)⊕((List Int)×Bool)))):=step_L3_8 p.1 p.2.1 p.2.2.1 p.2.2.2.1 p.2.2.2.2
def L3_8 (l1:List Int)(b1:Bool)(l2:List ByteArray)(l3:List ByteArray)(i1:Int):Option ((((List Int)×Bool)⊕((List Int)×Bool))):=iterO stp_L3_8 (((l2.length:Int) - i1).toNat+2) (l1,b1,l2,l3,i1)
def ch_L3_8:kT (tY6):=kO (kS 0 (kC (kF j_lU8) (kC kB (kC (kF j_lStr) (kC (kF j_lStr) (kC kI kN))))) kN) (fun ((z0,z1,z2,z3,z4,_),_)=>(z0,z1,z2,z3,z4)) (fun (x:tY6)=>((x.1,(x.2.1,(x.2.2.1,(x.2.2.2.1,(x.2.2.2.2,()))))),())) (fun _=>rfl)
def co0_L3_8:kT ((List Int)×Bool):=kO (kS 0 (kC (kF j_lU8) (kC kB kN)) kN) (fun p=>(p.1.1,p.1.2.1)) (fun (x:(List Int)×Bool)=>((x.1,(x.2,())),())) (fun _=>rfl)
def sl_L3_8:SFn TL:=SFn.two ch_L3_8.dec (fun p=>L3_8 p.1 p.2.1 p.2.2.1 p.2.2.2.1 p.2.2.2.2) (.exit 0) .ret co0_L3_8.enc co0_L3_8.enc
theorem ok_L3_8:LoopOK PR (oneS sl_L3_8) nt3 q_L3_8 (loopIn (loopsOf fd3.body) 8):=lB (cs:=[]) (ss:=[]) (E:=envOf tab sl sh [] []) (an:=fd3.an) (envOK_of base aN aN) stp_L3_8 (by kernel_rfl) (sB rfl st3.keys (by kernel_rfl)) rfl rfl (fun x y h=>⟨_,h⟩) (fun _=>rfl) fun _=>by kernel_rfl
def shellWords (s1:ByteArray)(l1:List Int):Option Bool :=
 ob (known) fun r0 =>
 cond (!r0)
 (some false)
 (ob (words s1) fun r1 =>
 ob (rwords s1) fun r2 =>
 cond (cond (r1.2 != r2.2) true ((r1.1.length:Int) != (r2.1.length:Int)))
 (some false)
 (ob (L3_8 l1 false r1.1 r2.1 0) fun y3 =>
 two y3 (fun a4 =>
 cond (fits (([]++a4.1).length))
 (ob (quote ([]++a4.1)) fun r6 =>
 ob (rquote a4.1) fun r7 =>
 some (cond (sEq r6 r7) (sEq (strOfInts ([]++a4.1)) (strOfInts a4.1)) false))
 none) (fun b5 =>
 some b5.2)))
def un_shellWords (p:ByteArray×(List Int)):Option Bool:=shellWords p.1 p.2
def df_shellWords:DFn TL:=DFn.of (DA.cons (DT.one DI.str) (DA.one (DT.one di_lU8))) un_shellWords (DA.one dB)
theorem ok_shellWords:DOK PR 3 .pure df_shellWords:=dok (cs:=[(5,df_known),(6,df_words),(7,df_rwords),(8,df_quote),(9,df_rquote)]) (ss:=[(103008,sl_L3_8)]) (E:=envOf tab sl sh [(3,fd3)] [(5,.pure),(6,.keep),(7,.keep),(8,.pure),(9,.pure)]) (fun _=>by kernel_rfl) (envOK_of base (aC (st3.okl rfl (aC (lC ok_L3_8 rfl) aN)) aN) (aC (oD ok_known rfl) (aC (oD ok_words rfl) (aC (oD ok_rwords rfl) (aC (oD ok_quote rfl) (aC (oD ok_rquote rfl) aN)))))) (.inr rfl) st3.enters
abbrev tY7:=(List (List Int))×ByteArray×Bool×ByteArray×Int×Int
def step_L4_6 (l1:List (List Int))(s1:ByteArray)(b1:Bool)(s2:ByteArray)(i1:Int)(i2:Int):Option ((tY7)⊕((List (List Int))×ByteArray×Bool×ByteArray×Int)) :=
 cond (cond (decide (i2 < (l1.length:Int))) (cond (decide (i2 < 20)) (decide ((s2.size:Int) < 16384)) false) false)
 (cond (fits (s2.size+s__20.size))
 (cond (decide (0≤i2))
 (ob (l1[i2.toNat]?) fun e0 =>
 ob (quote e0) fun r1 =>
 cond (fits ((s2++s__20).size+r1.size))
 (cond (fits (((s2++s__20)++r1).size+s__9.size))
 (some (.inl (l1,s1,b1,(((s2++s__20)++r1)++s__9),(w64 (i1+1)),(w64 (i2+1)))))
 none)
 none)
 none)
 none)
 (some (.inr (l1,s1,b1,s2,i1)))
def stp_L4_6 (p:tY7):Option ((tY7)⊕((List (List Int))×ByteArray×Bool×ByteArray×Int)):=step_L4_6 p.1 p.2.1 p.2.2.1 p.2.2.2.1 p.2.2.2.2.1 p.2.2.2.2.2
def L4_6 (l1:List (List Int))(s1:ByteArray)(b1:Bool)(s2:ByteArray)(i1:Int)(i2:Int):Option ((List (List Int))×ByteArray×Bool×ByteArray×Int):=iterO stp_L4_6 (((l1.length:Int) - i2).toNat+2) (l1,s1,b1,s2,i1,i2)
def ch_L4_6:kT (tY7):=kO (kS 0 (kC (kF j_lLU8) (kC (Cod.xs (Cod.sc kE)) (kC kB (kC (Cod.xs (Cod.sc kE)) (kC kI (kC kI kN)))))) kN) (fun ((z0,z1,z2,z3,z4,z5,_),_)=>(z0,z1,z2,z3,z4,z5)) (fun (x:tY7)=>((x.1,(x.2.1,(x.2.2.1,(x.2.2.2.1,(x.2.2.2.2.1,(x.2.2.2.2.2,())))))),())) (fun _=>rfl)
def co0_L4_6:kT ((List (List Int))×ByteArray×Bool×ByteArray×Int):=kO (kS 0 (kC (kF j_lLU8) (kC (Cod.xs (Cod.sc kE)) (kC kB (kC (Cod.xs (Cod.sc kE)) (kC kI kN))))) kN) (fun ((z0,z1,z2,z3,z4,_),_)=>(z0,z1,z2,z3,z4)) (fun (x:(List (List Int))×ByteArray×Bool×ByteArray×Int)=>((x.1,(x.2.1,(x.2.2.1,(x.2.2.2.1,(x.2.2.2.2,()))))),())) (fun _=>rfl)
def sl_L4_6:SFn TL:=SFn.one ch_L4_6.dec (fun p=>L4_6 p.1 p.2.1 p.2.2.1 p.2.2.2.1 p.2.2.2.2.1 p.2.2.2.2.2) (.exit 0) co0_L4_6.enc
theorem ok_L4_6:LoopOK PR (oneS sl_L4_6) nt4 q_L4_6 (loopIn (loopsOf fd4.body) 6):=lA (cs:=[(8,df_quote)]) (ss:=[]) (E:=envOf tab sl sh [] [(8,.pure)]) (an:=fd4.an) (envOK_of base aN (aC (oD ok_quote rfl) aN)) stp_L4_6 (by kernel_rfl) (FnSt.subl rfl st4.keys (aC (.inl (by kernel_rfl)) (aC (.inl (by kernel_rfl)) aN))) rfl (fun x y h=>⟨_,h⟩) (fun _=>rfl) fun _=>by kernel_rfl
abbrev tY8:=(List (List Int))×Bool×Int×(List ByteArray)×Int
def step_L4_14 (l1:List (List Int))(b1:Bool)(i1:Int)(l2:List ByteArray)(i2:Int):Option ((tY8)⊕(((Bool)⊕(Bool)))) :=
 cond (decide (i2 < i1))
 (cond (decide (0≤i2))
 (ob (l2[i2.toNat]?) fun e0 =>
 cond (decide (0≤i2))
 (ob (l1[i2.toNat]?) fun e1 =>
 cond (!sEq e0 (strOfInts e1))
 (some (.inr (.inr false)))
 (some (.inl (l1,b1,i1,l2,(w64 (i2+1))))))
 none)
 none)
 (some (.inr (.inl b1)))
def stp_L4_14 (p:tY8):Option ((tY8)⊕(((Bool)⊕(Bool)))):=step_L4_14 p.1 p.2.1 p.2.2.1 p.2.2.2.1 p.2.2.2.2
def L4_14 (l1:List (List Int))(b1:Bool)(i1:Int)(l2:List ByteArray)(i2:Int):Option (((Bool)⊕(Bool))):=iterO stp_L4_14 ((i1 - i2).toNat+2) (l1,b1,i1,l2,i2)
def ch_L4_14:kT (tY8):=kO (kS 0 (kC (kF j_lLU8) (kC kB (kC kI (kC (kF j_lStr) (kC kI kN))))) kN) (fun ((z0,z1,z2,z3,z4,_),_)=>(z0,z1,z2,z3,z4)) (fun (x:tY8)=>((x.1,(x.2.1,(x.2.2.1,(x.2.2.2.1,(x.2.2.2.2,()))))),())) (fun _=>rfl)
def co0_L4_14:kT (Bool):=kO (kS 0 (kC kB kN) kN) (fun p=>p.1.1) (fun (x:Bool)=>((x,()),())) (fun _=>rfl)
def sl_L4_14:SFn TL:=SFn.two ch_L4_14.dec (fun p=>L4_14 p.1 p.2.1 p.2.2.1 p.2.2.2.1 p.2.2.2.2) (.exit 2) .ret co0_L4_14.enc co0_L4_14.enc
theorem ok_L4_14:LoopOK PR (oneS sl_L4_14) nt4 q_L4_14 (loopIn (loopsOf fd4.body) 14):=lB (cs:=[]) (ss:=[]) (E:=envOf tab sl sh [] []) (an:=fd4.an) (envOK_of base aN aN) stp_L4_14 (by kernel_rfl) (FnSt.subl rfl st4.keys (aC (.inl (by kernel_rfl)) (aC (.inl (by kernel_rfl)) aN))) rfl rfl (fun x y h=>⟨_,h⟩) (fun _=>rfl) fun _=>by kernel_rfl
def shellQuotes (l1:List (List Int))(s1:ByteArray):Option Bool :=
 ob (known) fun r0 =>
 cond (!r0)
 (some false)
 (ob (L4_6 l1 s1 false s_empty 0 0) fun y1 =>
 cond (fits (y1.2.2.2.1.size+s__23.size))
 (cond (fits ((y1.2.2.2.1++s__23).size+y1.2.1.size))
 (ob (words ((y1.2.2.2.1++s__23)++y1.2.1)) fun r2 =>
 cond (cond (r2.2 != 0) true ((r2.1.length:Int) != y1.2.2.2.2))
 (some false)
 (ob (L4_14 y1.1 y1.2.2.1 y1.2.2.2.2 r2.1 0) fun y3 =>
 two y3 (fun _ =>
 some true) (fun b5 =>
 some b5)))
 none)
 none)
def un_shellQuotes (p:(List (List Int))×ByteArray):Option Bool:=shellQuotes p.1 p.2
def df_shellQuotes:DFn TL:=DFn.of (DA.cons (DT.one di_lLU8) (DA.one (DT.one DI.str))) un_shellQuotes (DA.one dB)
theorem ok_shellQuotes:DOK PR 4 .pure df_shellQuotes:=dok (cs:=[(5,df_known),(6,df_words)]) (ss:=[(104006,sl_L4_6),(104014,sl_L4_14)]) (E:=envOf tab sl sh [(4,fd4)] [(5,.pure),(6,.keep)]) (fun _=>by kernel_rfl) (envOK_of base (aC (st4.okl rfl (aC (lC ok_L4_6 rfl) (aC (lC ok_L4_14 rfl) aN))) aN) (aC (oD ok_known rfl) (aC (oD ok_words rfl) aN))) (.inr rfl) st4.enters
end
end Go.Proofs.YtciofnpmlgbdaaaGreatDoor
