/- By joint.py: the texts Pd Va Vb Vc Vd Ve Vf Vg Vh Vi Vj Vk Vl Vm in one. -/
import Derived.Test.YtcjpeijiaojeiaaGreatF
import Derived.IntWalk
namespace Go.Proofs.YtcjpeijiaojeiaaGreat
open Go Go.Ev
set_option maxRecDepth 100000
theorem ZQ:known=some true:=by kernel_rfl
theorem PK {n:Int}(h1 : -9223372036854775808≤n)(h2:n < 9223372036854775808):aF n=n:=by
  unfold aF
  exact IntWalk.i64_in n (by omega)
theorem aBL {a n:Int}(hn:0 < n)(hm:n < 4611686018427387904):within a n=some (a % n):=by
  unfold within
  have h0:decide (n=0)=false:=by simp;omega
  simp only [h0,cond_false]
  have h1:=Int.emod_nonneg a (by omega:n≠0)
  have h2:=Int.emod_lt_of_pos a hn
  have h3:a.tmod n=a % n∨a.tmod n=a % n - n:=by
    rw [Int.tmod_eq_emod]
    split
    · left;omega
    · right;omega
  congr 1
  rcases h3 with h3 | h3
  · rw [h3]
    have:decide (a % n < 0)=false:=by simp;omega
    simp [this]
  · rw [h3]
    have:decide (a % n - n < 0)=true:=by simp;omega
    simp only [this,cond_true]
    rw [PK (by omega) (by omega)]
    omega
theorem bG {X Y:Type}(x:X)(k:X→Option Y):ob (some x) k=k x:=rfl
def Ok {α:Type}(o:Option α)(P:α→Prop):Prop:=∃ y,o=some y∧P y
def dP {X Y:Type}(I:X→Prop)(Q:Y→Prop):X⊕Y→Prop
  | .inl x=>I x
  | .inr y=>Q y
section
variable {α β X Y:Type}
theorem aT {o:Option α}{k:α→Option β}{P:α→Prop}{Q:β→Prop}(h:Ok o P)(hk:∀ y,P y→Ok (k y) Q):Ok (ob o k) Q:=by
  obtain ⟨y,rfl,hy⟩:=h
  exact hk y hy
theorem bo {c:Bool}{a b:Option α}{Q:α→Prop}(h1:c=true→Ok a Q)(h2:c=false→Ok b Q):Ok (cond c a b) Q:=by
  cases c with
  | true=>exact h1 rfl
  | false=>exact h2 rfl
theorem az {p:Prop}[Decidable p]{a b:Option α}{Q:α→Prop}(h1:p→Ok a Q)(h2:¬ p→Ok b Q):Ok (_root_.cond (decide p) a b) Q :=
  bo (fun h=>h1 (of_decide_eq_true h)) (fun h=>h2 (of_decide_eq_false h))
theorem dk {p:Prop}[Decidable p]{a b:Option α}{Q:α→Prop}(h:p)(h1:Ok a Q):Ok (_root_.cond (decide p) a b) Q:=by
  rw [decide_eq_true h];exact h1
theorem iD {p q:Prop}[Decidable p][Decidable q]{a b:Option α}{Q:α→Prop}(h:p)(h':q)(h1:Ok a Q):Ok (_root_.cond (decide p && decide q) a b) Q:=by
  rw [decide_eq_true h,decide_eq_true h'];exact h1
theorem de {x y:Int}{a b:Option α}{Q:α→Prop}(h1:x=y→Ok a Q)(h2:x≠y→Ok b Q):Ok (_root_.cond (x == y) a b) Q :=
  bo (fun h=>h1 (beq_iff_eq.1 h)) (fun h=>h2 (beq_eq_false_iff_ne.1 h))
theorem fv {x y:Int}{a b:Option α}{Q:α→Prop}(h1:x≠y→Ok a Q)(h2:x=y→Ok b Q):Ok (_root_.cond (x != y) a b) Q :=
  bo (fun h=>h1 (bne_iff_ne.1 h)) (fun h=>h2 (by simpa using h))
theorem o4 {p q:Prop}[Decidable p][Decidable q]{a b:Option α}{Q:α→Prop}(h1:p∨q→Ok a Q)(h2:¬ p→¬ q→Ok b Q):Ok (_root_.cond (_root_.cond (decide p) true (decide q)) a b) Q:=by
  by_cases hp:p
  · rw [decide_eq_true hp];exact h1 (.inl hp)
  · by_cases hq:q
    · rw [decide_eq_false hp,decide_eq_true hq];exact h1 (.inr hq)
    · rw [decide_eq_false hp,decide_eq_false hq];exact h2 hp hq
theorem cw {n:Nat}{a b:Option α}{Q:α→Prop}(h:n≤1073741824)(h1:Ok a Q):Ok (_root_.cond (fits n) a b) Q:=by
  rw [show fits n=true from decide_eq_true h];exact h1
theorem aR {y:α}{Q:α→Prop}(h:Q y):Ok (some y) Q:=⟨y,rfl,h⟩
theorem cF {x:X}{I:X→Prop}{Q:Y→Prop}(h:I x):Ok (some (.inl x)) (dP I Q):=⟨_,rfl,h⟩
theorem dg {y:Y}{I:X→Prop}{Q:Y→Prop}(h:Q y):Ok (some (.inr y)) (dP I Q):=⟨_,rfl,h⟩
theorem dW {X Y Z:Type}{y:Y}{I:X→Prop}{Q:Y→Prop}{R:Z→Prop}(h:Q y):Ok (some (.inr (.inl y))) (dP I (dP Q R)):=⟨_,rfl,h⟩
theorem ez {X Y Z:Type}{y:Z}{I:X→Prop}{Q:Y→Prop}{R:Z→Prop}(h:R y):Ok (some (.inr (.inr y))) (dP I (dP Q R)):=⟨_,rfl,h⟩
theorem lx {o:Option α}{P Q:α→Prop}(h:Ok o P)(hk:∀ y,P y→Q y):Ok o Q:=by
  obtain ⟨y,h1,h2⟩:=h
  exact ⟨y,h1,hk y h2⟩
theorem eG {y:α⊕β}{f:α→Option X}{g:β→Option X}{P:α→Prop}{R:β→Prop}{Q:X→Prop}(hy:dP P R y)(h1:∀ a,P a→Ok (f a) Q)(h2:∀ b,R b→Ok (g b) Q):Ok (two y f g) Q:=by
  cases y with
  | inl a=>exact h1 a hy
  | inr b=>exact h2 b hy
theorem lz {l:List α}{i:Nat}(h:i < l.length):Ok l[i]? (fun e=>e∈l∧l[i]?=some e):=⟨l[i],List.getElem?_eq_getElem h,List.getElem_mem h,List.getElem?_eq_getElem h⟩
theorem al {α:Type}{p:Prop}[Decidable p]{a b:Option α}{Q:α→Prop}(h1:Ok a Q)(h:p:=by omega):Ok (cond (decide p) a b) Q:=dk h h1
theorem bw {α β:Type}{l:List α}{i:Nat}{k:α→Option β}{Q:β→Prop}(hk:∀ e,e∈l∧l[i]?=some e→Ok (k e) Q)(h:i < l.length:=by omega):Ok (ob l[i]? k) Q:=aT (lz h) hk
theorem cQ {stp:X→Option (X⊕Y)}{bt:Y→Prop}(I:X→Prop)(m:X→Nat)(h:∀ x,I x→Ok (stp x) (dP (fun x'=>I x'∧m x' < m x) bt)):∀ (fuel:Nat) (x:X),I x→m x < fuel→Ok (bZ stp fuel x) bt
  | 0,x,_,hf=>absurd hf (Nat.not_lt_zero _)
  | f+1,x,hi,hf=>by
    obtain ⟨r,h1,h2⟩:=h x hi
    cases r with
    | inl x' =>
      obtain ⟨y,h3,h4⟩:=cQ I m h f x' h2.1 (by have:=h2.2;omega)
      exact ⟨y,by simp only [bZ,h1,bG,Go.Ev.two];exact h3,h4⟩
    | inr y=>exact ⟨y,by simp only [bZ,h1,bG,Go.Ev.two],h2⟩
end
theorem bF {n:Int}(h : -9223372036854775808≤n∧n < 9223372036854775808):aF n=n:=PK h.1 h.2
theorem pq {a n:Int}(hn:0 < n)(hm:n < 4611686018427387904):Ok (within a n) (fun r=>0≤r∧r < n∧r=a % n) :=
  ⟨_,aBL hn hm,Int.emod_nonneg a (by omega),Int.emod_lt_of_pos a hn,rfl⟩
theorem Z3 {a n:Int}(hn:0 < n)(hm:n < 4611686018427387904):Ok (pP a n) (fun r=>0≤r∧r < n∧r=a % n):=pq hn hm
theorem iv {a n:Int}(hn:0 < n)(hm:n < 4611686018427387904):Ok (iB a n) (fun r=>0≤r∧r < n∧r=a % n):=pq hn hm
def RG (r:Range):Prop:=0≤r.from_∧r.from_ < r.bU∧r.bU≤1073741824
def rl:List Range→Int
  | []=>0
  | x::r=>(x.bU - x.from_)+rl r
theorem Z1 (a b:aL):Ok (jt a b) (fun _=>True):=by
  unfold jt
  repeat' first
    | refine al ?_
    | refine iD (by omega) (by omega) ?_
    | refine cw (by simp only [List.length_append,List.length_cons,List.length_nil,List.length_take,List.length_drop,List.length_set,List.nil_append];omega) ?_
    | refine bw fun e he=>?_
    | refine dk (by simp only [List.length_append,List.length_cons,List.length_nil,List.length_take,List.length_drop,List.length_set,List.nil_append];omega) ?_
    | refine aT (lz (by simp only [List.length_append,List.length_cons,List.length_nil,List.length_take,List.length_drop,List.length_set,List.nil_append];omega)) fun e he=>?_
    | refine o4 (fun hc=>?_) (fun hc hc2=>?_)
    | refine az (fun hc=>?_) (fun hc=>?_)
    | refine de (fun hc=>?_) (fun hc=>?_)
    | refine fv (fun hc=>?_) (fun hc=>?_)
    | refine bo (fun hc=>?_) (fun hc=>?_)
    | refine cF ?_
    | refine ez ?_
    | refine dW ?_
    | refine dg ?_
    | refine aR ?_
  all_goals trivial
theorem Y6 (r:Range)(hr:RG r):Ok (vP [r]) (fun n=>n=r.bU - r.from_):=by
  obtain ⟨h1,h2,h3⟩:=hr
  have e:vP [r]=some (aF (aF (0+r.bU) - r.from_)):=by kernel_rfl
  rw [e,bF (n:=0+r.bU) (by omega),bF (by omega)]
  exact aR (by omega)
theorem VG (d:aw)(v e:Int)(hl:d.log.length≤1000000):Ok (kh d v e) (fun n=>0≤n∧n≤(d.log.length:Int)):=by
  unfold kh
  have hloop:Ok (D9 v e 0 0 d) (fun y=>0≤y.1∧y.1≤(d.log.length:Int)):=by
    refine cQ (fun x=>x.2.2.2.2=d∧0≤x.2.2.2.1∧x.2.2.2.1≤(d.log.length:Int)∧0≤x.2.2.1∧x.2.2.1≤x.2.2.2.1) (fun x=>d.log.length - x.2.2.2.1.toNat) ?_ _ _ ⟨rfl,by dsimp only;omega,by dsimp only;omega,by dsimp only;omega,by dsimp only;omega⟩ (by dsimp only;omega)
    rintro ⟨v',e',n,i,d'⟩ ⟨h1,h2,h3,h4,h5⟩
    dsimp only at h1 h2 h3 h4 h5
    subst h1
    unfold BG JA
    dsimp only
    refine az (fun hi=>?_) (fun _=>dg ⟨h4,by dsimp only;omega⟩)
    have hw:aF (i+1)=i+1:=bF (by omega)
    have hn:aF (n+1)=n+1:=bF (by omega)
    refine al (bw fun o _=>de (fun _=>?_) (fun _=>cF ?_))
    · refine al (bw fun o' _=>cF ?_)
      dsimp only
      cases (o'.aP.aA == e') with
      | true=>simp only [cond_true];exact ⟨⟨trivial,by omega,by omega,by omega,by omega⟩,by omega⟩
      | false=>simp only [cond_false];exact ⟨⟨trivial,by omega,by omega,by omega,by omega⟩,by omega⟩
    · dsimp only
      exact ⟨⟨rfl,by omega,by omega,by omega,by omega⟩,by omega⟩
  exact aT hloop fun y hy=>aR hy
structure yD (U:Nat) (l:aH):Prop where
  sl:l.aW.length≤10
  ids:∀ x∈l.ids,RG x
  used:l.used.length≤U
def T9:List aH→Int
  | []=>0
  | x::r=>rl x.ids+T9 r
structure yK (U B:Nat) (b:aG):Prop where
  cn:b.af.length≤10
  free:∀ x∈b.free,RG x
  ln:b.aK.length≤1000
  ls:∀ l∈b.aK,yD U l
  bd:b.bB.length≤B
  sum:rl b.free+T9 b.aK≤1000
theorem mg {n:Nat}(h:n≤1073741824):fits n=true:=decide_eq_true h
theorem aFU (l:aH)(h1:l.aW.length≤1000000)(h2:l.ids.length≤1000000)(h3:l.used.length≤1000000):tq l=some l:=by
  unfold tq
  simp only [List.nil_append]
  rw [mg (n:=l.aW.length) (by omega),mg (n:=l.ids.length) (by omega),mg (n:=l.used.length) (by omega)]
  rfl
theorem ll {α:Type}{P:α→Prop}{l:List α}{x:α}(h:∀ z∈l,P z)(hx:P x):∀ z∈l++[x],P z:=by
  intro z hz
  rcases List.mem_append.1 hz with hz | hz
  · exact h z hz
  · rw [List.mem_singleton.1 hz];exact hx
theorem yD.mono {U V:Nat}{l:aH}(h:yD U l)(hu:U≤V):yD V l:=⟨h.sl,h.ids,Nat.le_trans h.used hu⟩
theorem yK.mono {U V B C:Nat}{b:aG}(h:yK U B b)(hu:U≤V)(hb:B≤C):yK V C b:=⟨h.cn,h.free,h.ln,fun l hl=>(h.ls l hl).mono hu,Nat.le_trans h.bd hb,h.sum⟩
structure eo (K:Nat) (c:ag):Prop where
  v:c.v.length≤K
  cB:c.cB.length≤K
  bp:c.bp.length≤K
  gone:c.gone.length≤100 * K
  bJ:c.bJ.length≤K
  binds:c.binds.length≤K
theorem eo.mono {K M:Nat}{c:ag}(h:eo K c)(hk:K≤M):eo M c:=⟨Nat.le_trans h.v hk,Nat.le_trans h.cB hk,Nat.le_trans h.bp hk,by have:=h.gone;omega,Nat.le_trans h.bJ hk,Nat.le_trans h.binds hk⟩
structure o8 (r:aU):Prop where
  sl:r.aE.aW.length≤10
  id:r.aE.ids.length≤1000
  us:r.aE.used.length≤1000
structure aMP (v:eP):Prop where
  h0:o8 v.a0.aB
  h1:o8 v.a1.aB
  h2:o8 v.a2.aB
  h3:o8 v.a3.aB
  h4:o8 v.a4.aB
  h5:o8 v.a5.aB
structure xz (U B K N Z:Nat) (d:aw):Prop where
  bk:yK U B d.book
  ln:d.book.aK.length≤N
  c0:eo K d.aI.a0
  c1:eo K d.aI.a1
  c2:eo K d.aI.a2
  lg:d.log.length≤2000
  op:∀ o∈d.log,0≤o.bc∧o.bc < 3∧o.cz.length≤100
  ls:d.lost.length≤Z
  dv:aMP d.dev
theorem xz.mono {U B K N Z U' B' K' N' Z':Nat}{d:aw}(h:xz U B K N Z d)(h1:U≤U')(h2:B≤B')(h3:K≤K')(h4:N≤N')(h5:Z≤Z'):xz U' B' K' N' Z' d :=
  ⟨h.bk.mono h1 h2,Nat.le_trans h.ln h4,h.c0.mono h3,h.c1.mono h3,h.c2.mono h3,h.lg,h.op,Nat.le_trans h.ls h5,h.dv⟩
theorem oH {K:Nat}{c:Bool}{a b:ag}(ha:eo K a)(hb:eo K b):eo K (ag.cc c a b):=by
  cases c with
  | true=>exact ha
  | false=>exact hb
section
variable {U B K N Z:Nat} (d:aw) (c:cH) (h:xz U B K N Z d) (hU:U≤8000) (hB:B≤800000) (hN:N≤800) (hZ:Z≤800000) (h0:0≤c.device) (h6:c.device < 6)
include h hU hB hN hZ h0 h6
end
theorem aHN (l:List Act)(hl:l.length≤9223372036854775807):Ok (w6 l) (fun r=>r=true→l.length≤60∧∀ a∈l,a.cj.length≤8):=by
  unfold w6
  have hloop:Ok (Dl l false 0) (dP (fun a=>a.1=l∧∀ x∈l,x.cj.length≤8) (fun b=>b.2=false)):=by
    refine cQ (fun x:List Act×Bool×Int=>x.1=l∧0≤x.2.2∧x.2.2≤(l.length:Int)∧∀ (j:Nat) a,(j:Int) < x.2.2→l[j]?=some a→a.cj.length≤8) (fun x=>l.length - x.2.2.toNat) ?_ _ _ ⟨rfl,by dsimp only;omega,by dsimp only;omega,fun j a h=>by dsimp only at h;omega⟩ (by dsimp only;omega)
    rintro ⟨l',b,i⟩ ⟨h1,h2,h3,h4⟩
    dsimp only at h1 h2 h3 h4
    subst h1
    unfold BT IB
    dsimp only
    refine az (fun hi=>?_) (fun hi=>dW ⟨rfl,fun x hx=>?_⟩)
    · have hw:aF (i+1)=i+1:=bF (by omega)
      have he:l'[i.toNat]?=some (l'[i.toNat]'(by omega)):=List.getElem?_eq_getElem _
      generalize (l'[i.toNat]'(by omega))=e at he
      simp only [he,bG]
      refine dk h2 (az (fun _=>ez rfl) fun h8=>dk h2 (az (fun _=>ez rfl) fun h22=>?_))
      have hin:Ok (D2 l' b i 0) (dP (fun a=>a.1=l'∧a.2.2=i) (fun c=>c.2.1=false)):=by
        refine cQ (fun x:List Act×Bool×Int×Int=>x.1=l'∧x.2.2.1=i∧0≤x.2.2.2∧x.2.2.2≤(e.ops.length:Int)) (fun x=>e.ops.length - x.2.2.2.toNat) ?_ _ _ ⟨rfl,rfl,by dsimp only;omega,by dsimp only;omega⟩ (by dsimp only;omega)
        rintro ⟨l1,b1,i1,k⟩ ⟨g1,g2,g3,g4⟩
        dsimp only at g1 g2 g3 g4
        subst g1;subst g2
        unfold BH Im
        dsimp only
        simp only [he,bG]
        refine dk h2 (az (fun hk=>?_) (fun _=>dW ⟨rfl,rfl⟩))
        have hwk:aF (k+1)=k+1:=bF (by omega)
        refine dk h2 (dk g3 (bw fun o _=>?_))
        unfold DO
        rw [bG]
        refine bo (fun _=>ez rfl) (fun _=>cF ?_)
        dsimp only
        exact ⟨⟨rfl,rfl,by omega,by omega⟩,by omega⟩
      refine aT hin fun y hy=>eG hy (fun a ha=>?_) (fun c hc=>ez hc)
      obtain ⟨a1,a2,a3⟩:=a
      obtain ⟨g1,g2⟩:=ha
      dsimp only at g1 g2
      subst g1;subst g2
      dsimp only
      have hin2:Ok (Cv a1 a2 a3 0) (dP (fun a=>a.1=a1∧a.2.2=a3) (fun c=>c.2.1=false)):=by
        refine cQ (fun x:List Act×Bool×Int×Int=>x.1=a1∧x.2.2.1=a3∧0≤x.2.2.2∧x.2.2.2≤(e.cj.length:Int)) (fun x=>e.cj.length - x.2.2.2.toNat) ?_ _ _ ⟨rfl,rfl,by dsimp only;omega,by dsimp only;omega⟩ (by dsimp only;omega)
        rintro ⟨l1,b1,i1,k⟩ ⟨g1,g2,g3,g4⟩
        dsimp only at g1 g2 g3 g4
        subst g1;subst g2
        unfold AZ Gn
        dsimp only
        simp only [he,bG]
        refine dk h2 (az (fun hk=>?_) (fun _=>dW ⟨rfl,rfl⟩))
        have hwk:aF (k+1)=k+1:=bF (by omega)
        refine dk h2 (dk g3 (bw fun o _=>az (fun _=>ez rfl) (fun _=>cF ?_)))
        dsimp only
        exact ⟨⟨rfl,rfl,by omega,by omega⟩,by omega⟩
      refine aT hin2 fun y hy=>eG hy (fun a ha=>cF ?_) (fun c hc=>ez hc)
      obtain ⟨p1,p2,p3⟩:=a
      obtain ⟨g1,g2⟩:=ha
      dsimp only at g1 g2
      subst g1;subst g2
      dsimp only
      refine ⟨⟨rfl,by omega,by omega,fun j a hj ha=>?_⟩,by omega⟩
      by_cases hji:(j:Int) < p3
      · exact h4 j a hji ha
      · have:j=p3.toNat:=by omega
        subst this
        rw [he] at ha;cases ha;omega
    · obtain ⟨j,hj,rfl⟩:=List.getElem_of_mem hx
      exact h4 j _ (by omega) (List.getElem?_eq_getElem hj)
  refine aT hloop fun y hy=>eG hy (fun a ha=>aR fun hd=>⟨?_,ha.2⟩) (fun b hb=>aR fun h=>by rw [hb] at h;cases h)
  have:=of_decide_eq_true hd
  rw [ha.1] at this
  omega
def oT:aw:=aw.mk (aG.mk [bP.mk cV 0 0 20 10 10 10,bP.mk cX 1 (-30) 30 0 30 30] [Range.mk 0 40] [] []) (gQ.mk (ag.mk [] [] [] [] [] []) (ag.mk [] [] [] [] [] []) (ag.mk [] [] [] [] [] [])) [] (eP.mk (Device.mk 0 0 (aU.mk 0 0 (aH.mk 0 0 0 0 [] [] []))) (Device.mk 0 0 (aU.mk 0 0 (aH.mk 0 0 0 0 [] [] []))) (Device.mk 0 0 (aU.mk 0 0 (aH.mk 0 0 0 0 [] [] []))) (Device.mk 0 0 (aU.mk 0 0 (aH.mk 0 0 0 0 [] [] []))) (Device.mk 0 0 (aU.mk 0 0 (aH.mk 0 0 0 0 [] [] []))) (Device.mk 0 0 (aU.mk 0 0 (aH.mk 0 0 0 0 [] [] [])))) [] 0
theorem aEE:Bj=some oT:=by kernel_rfl
theorem rC (a b:Int):Ok (gZ a b) (fun _=>True):=by
  unfold gZ lX
  simp only [bG]
  repeat' first
    | refine az (fun hc=>?_) (fun hc=>?_)
    | refine fv (fun hc=>?_) (fun hc=>?_)
    | refine aR ?_
  all_goals trivial
theorem wK (a b:ByteArray):Ok (gY a b) (fun _=>True):=by
  unfold gY tI
  simp only [bG]
  repeat' first
    | refine bo (fun hc=>?_) (fun hc=>?_)
    | refine aR ?_
  all_goals trivial
theorem rO (l:List Int)(hl:l.length≤1000):Ok (iC l) (fun _=>True):=by
  unfold iC
  refine aT (P:=dP (fun _=>True) (fun _=>True)) ?_ fun y hy=>eG hy (fun _ _=>aR trivial) (fun _ _=>aR trivial)
  refine cQ (fun xx=>xx.2.1=0∧xx.2.2.1=l∧xx.2.2.2.1=(l.length:Int)∧0≤xx.2.2.2.2∧xx.2.2.2.2≤(l.length:Int)) (fun xx=>((l.length:Int) - xx.2.2.2.2).toNat) ?_ _ _ ⟨rfl,rfl,rfl,by dsimp only;omega,by dsimp only;omega⟩ (by dsimp only;omega)
  rintro ⟨a_,b_,l_,n_,k_⟩ ⟨h1,h2,h3,h4,h5⟩
  dsimp only at h1 h2 h3 h4 h5
  subst h1;subst h2;subst h3
  unfold AB Hj
  dsimp only
  refine az (fun hi=>?_) (fun _=>dW trivial)
  have hw:aF (k_+1)=k_+1:=bF (by omega)
  repeat' first
    | refine al ?_
    | refine bw fun e he=>?_
    | refine fv (fun hc=>?_) (fun hc=>?_)
    | refine cF ?_
    | refine ez ?_
  all_goals first | trivial | (dsimp only;exact ⟨⟨rfl,rfl,rfl,by omega,by omega⟩,by omega⟩)
theorem TM (a b:fg):Ok (ox a b) (fun _=>True):=by
  unfold ox
  repeat' first
    | refine aT (rC _ _) fun y hy=>?_
    | refine aT (rO _ (by simp)) fun y hy=>?_
    | refine aR ?_
  trivial
theorem aDP (a b:aL):Ok (n5 a b) (fun _=>True):=by
  unfold n5
  repeat' first
    | refine aT (rC _ _) fun y hy=>?_
    | refine aT (rO _ (by simp)) fun y hy=>?_
    | refine aR ?_
  trivial
theorem o7 (a b:aL):Ok (j8 a b) (fun _=>True):=by
  unfold j8
  repeat' first
    | refine aT (rC _ _) fun y hy=>?_
    | refine aT (rO _ (by simp)) fun y hy=>?_
    | refine aR ?_
  trivial
theorem QL (l:List aL)(p:fg)(hl:l.length≤1000000):Ok (pW l p) (fun y=>0≤y.1∧y.1≤(l.length:Int)∧(y.2=true→y.1 < (l.length:Int))):=by
  unfold pW m6
  refine aT (P:=fun y=>y.1=l∧0≤y.2.1∧y.2.1≤(l.length:Int)) ?_ fun y hy=>?_
  · refine cQ (fun xx=>xx.1=l∧0≤xx.2.1∧xx.2.1≤(l.length:Int)) (fun xx=>((l.length:Int) - xx.2.1).toNat) ?_ _ _ ⟨rfl,by dsimp only;omega,by dsimp only;omega⟩ (by dsimp only;omega)
    rintro ⟨l_,k_,p_⟩ ⟨h1,h2,h3⟩
    dsimp only at h1 h2 h3
    subst h1
    unfold Am Hl
    dsimp only
    unfold m6
    simp only [bG]
    refine az (fun hi=>?_) (fun _=>dg ⟨rfl,h2,h3⟩)
    have hw:aF (k_+1)=k_+1:=bF (by omega)
    repeat' first
      | refine al ?_
      | refine bw fun e he=>?_
      | refine aT (TM _ _) fun y hy=>?_
      | refine az (fun hc=>?_) (fun hc=>?_)
      | refine cF ?_
      | refine dg ?_
    · dsimp only;exact ⟨⟨rfl,by omega,by omega⟩,by omega⟩
    · exact ⟨rfl,h2,h3⟩
  · obtain ⟨l',i,q⟩:=y
    obtain ⟨h1,h2,h3⟩:=hy
    dsimp only at h1 h2 h3
    subst h1
    dsimp only
    simp only [bG]
    repeat' first
      | refine al ?_
      | refine bw fun e he=>?_
      | refine aT (TM _ _) fun y hy=>?_
      | refine az (fun hc=>?_) (fun hc=>?_)
      | refine aR ?_
    · dsimp only;exact ⟨h2,h3,fun _=>by omega⟩
    · dsimp only;exact ⟨h2,h3,by simp⟩
theorem aG1 (l:List aL)(a b:Int)(hl:l.length≤1000000):Ok (uz l a b) (fun _=>True):=by
  unfold uz
  refine aT (QL l _ hl) fun y hy=>bo (fun _=>aR trivial) fun h=>?_
  have:=hy.2.2 (by cases h2:y.2 with | true=>rfl | false=>rw [h2] at h;cases h)
  repeat' first
    | refine al ?_
    | refine bw fun e he=>?_
    | refine aR ?_
  trivial
theorem Cw (a b:Nat):Nat.min a b=min a b:=rfl
theorem aFZ (l:List aL)(e:aL)(hl:l.length≤1000000):Ok (laid l [e]) (fun y=>y.length≤l.length+1):=by
  unfold laid
  have h1:([e].length:Int)=1:=rfl
  have hcp:((l.take (Nat.min l.length ((List.replicate (((l.length:Int)).toNat) (aL.mk 0 0 0)).length)))++(((List.replicate (((l.length:Int)).toNat) (aL.mk 0 0 0)).take ((List.replicate (((l.length:Int)).toNat) (aL.mk 0 0 0)).length)).drop (Nat.min l.length ((List.replicate (((l.length:Int)).toNat) (aL.mk 0 0 0)).length))))=l:=by
    rw [List.length_replicate,Cw,Int.toNat_natCast,Nat.min_self,List.take_length,List.drop_eq_nil_of_le (by simp),List.append_nil]
  rw [hcp,h1,bF (n:=(l.length:Int)+1) (by omega)]
  refine al (al (cw (by omega) ?_))
  refine aT (P:=fun y=>y.length≤l.length+1) ?_ fun y hy=>cw (by simp only [List.nil_append];omega) (aR (by simpa using hy))
  refine cQ (fun xx=>xx.2.1=[e]∧xx.2.2.1=1∧0≤xx.2.2.2∧xx.2.2.2≤1∧(xx.1.length:Int)≤l.length+xx.2.2.2) (fun xx=>(1 - xx.2.2.2).toNat) ?_ _ _ ⟨rfl,rfl,by dsimp only;omega,by dsimp only;omega,by dsimp only;omega⟩ (by dsimp only;omega)
  rintro ⟨m_,l_,n_,k_⟩ ⟨h1,h2,h3,h4,h5⟩
  dsimp only at h1 h2 h3 h4 h5
  subst h1;subst h2
  unfold AJ Gs
  dsimp only
  refine az (fun hi=>?_) (fun _=>dg (by omega))
  have hw:aF (k_+1)=k_+1:=bF (by omega)
  unfold m6
  simp only [bG]
  refine al (aT (lz (by simp only [List.length_singleton];omega)) fun e0 _=>aT (QL m_ _ (by omega)) fun r hr=>?_)
  obtain ⟨r1,r2,r3⟩:=hr
  have hwr:aF (r.1+1)=r.1+1:=bF (by omega)
  refine bo (fun hc=>?_) (fun hc=>?_)
  · have:=r3 hc
    repeat' first
      | refine al ?_
      | refine bw fun e he=>?_
      | refine cF ?_
    dsimp only
    exact ⟨⟨rfl,rfl,by omega,by omega,by simp only [List.length_set];omega⟩,by omega⟩
  · have hA:(m_++[aL.mk 0 0 0]).length=m_.length+1:=by simp
    generalize m_++[aL.mk 0 0 0]=A at hA
    rw [hwr,List.take_length,hA,Int.toNat_natCast,← hA,List.take_length]
    have hB:((A.take (r.1+1).toNat++(A.drop r.1.toNat).take (Nat.min (A.drop r.1.toNat).length (A.length - (r.1+1).toNat)))++A.drop ((r.1+1).toNat+Nat.min (A.drop r.1.toNat).length (A.length - (r.1+1).toNat))).length=A.length:=by
      simp only [Cw,List.length_append,List.length_take,List.length_drop];omega
    generalize (A.take (r.1+1).toNat++(A.drop r.1.toNat).take (Nat.min (A.drop r.1.toNat).length (A.length - (r.1+1).toNat)))++A.drop ((r.1+1).toNat+Nat.min (A.drop r.1.toNat).length (A.length - (r.1+1).toNat))=C at hB
    repeat' first
      | refine al ?_
      | refine cw (by omega) ?_
      | refine bw fun e he=>?_
      | refine cF ?_
    dsimp only
    exact ⟨⟨rfl,rfl,by omega,by omega,by simp only [List.length_set];omega⟩,by omega⟩
theorem aFS (l:List aL)(e:aL)(hl:l.length≤1000000):Ok (uO l e) (fun y=>y.1.length≤l.length+1):=by
  unfold uO B0
  refine bo (fun _=>aR (Nat.zero_le _)) fun _=>aT (P:=fun _=>True) (az (fun _=>aT (aG1 l _ _ hl) fun _ _=>aR trivial) (fun _=>aR trivial)) fun _ _=>bo (fun _=>aR (Nat.zero_le _)) fun _=>aT (aFZ l e hl) fun y hy=>aR hy
theorem qA {α:Type}{l:List α}{k:Nat}{e:α}(h:l[k]?=some e):l.set k e=l:=by
  obtain ⟨h1,h2⟩:=List.getElem?_eq_some_iff.1 h
  rw [← h2,List.set_getElem_self]
theorem jv {α:Type}{o:Option α}{x:α}(h:Ok o (fun y=>y=x)):o=some x:=by
  obtain ⟨y,h1,h2⟩:=h
  rw [h1,h2]
def kg (l:aH):Prop:=l.aW.length≤1000000∧l.ids.length≤1000000∧l.used.length≤1000000
theorem jQ (l:aH)(h:kg l):iA l=some l:=by
  unfold iA
  rw [mg (n:=l.aW.length) (by have:=h.1;omega),mg (n:=l.ids.length) (by have:=h.2.1;omega),mg (n:=l.used.length) (by have:=h.2.2;omega)]
  rfl
theorem np (l:aH)(h:kg l):gJ l=some l:=jQ l h
structure yZ (b:aG):Prop where
  cn:b.af.length≤1000000
  fr:b.free.length≤1000000
  ln:b.aK.length≤1000000
  bd:b.bB.length≤1000000
  ls:∀ l∈b.aK,kg l
theorem P5 (b:aG)(h:yZ b):vZ b=some b:=by
  obtain ⟨h1,h2,h3,h4,h5⟩:=h
  refine jv ?_
  unfold vZ
  refine cw (by omega) (cw (by omega) (cw (by omega) (cw (by omega) ?_)))
  refine aT (P:=fun y=>y.1=b) ?_ fun y hy=>aR hy
  refine cQ (fun xx=>xx.1=(b.aK.length:Int)∧xx.2.2.1=b∧0≤xx.2.1∧xx.2.1≤(b.aK.length:Int)) (fun xx=>((b.aK.length:Int) - xx.2.1).toNat) ?_ _ _ ⟨rfl,rfl,by dsimp only;omega,by dsimp only;omega⟩ (by dsimp only;omega)
  rintro ⟨n_,k_,b_,p_⟩ ⟨h1,h2,h3,h4⟩
  dsimp only at h1 h2 h3 h4
  subst h1;subst h2
  unfold B1 IC
  dsimp only
  refine az (fun hi=>?_) (fun _=>dg rfl)
  have hw:aF (k_+1)=k_+1:=bF (by omega)
  refine al (al (bw fun e he=>?_))
  rw [jQ e (h5 e he.1),bG]
  refine al (al (bw fun _ _=>cF ?_))
  dsimp only
  rw [qA he.2]
  exact ⟨⟨rfl,rfl,by omega,by omega⟩,by omega⟩
theorem qo (b:aG)(h:yZ b):gE b=some b:=P5 b h
theorem aIU (l:List Op)(h:l.length≤1000000)(hd:∀ o∈l,o.cz.length≤1000000):vk l=some l:=by
  refine jv ?_
  unfold vk
  refine cw (by omega) ?_
  refine aT (P:=fun y=>y=l) ?_ fun y hy=>aR hy
  refine cQ (fun xx=>xx.2.1=(l.length:Int)∧xx.1=l∧0≤xx.2.2∧xx.2.2≤(l.length:Int)) (fun xx=>((l.length:Int) - xx.2.2).toNat) ?_ _ _ ⟨rfl,rfl,by dsimp only;omega,by dsimp only;omega⟩ (by dsimp only;omega)
  rintro ⟨l_,n_,k_⟩ ⟨h1,h2,h3,h4⟩
  dsimp only at h1 h2 h3 h4
  subst h1;subst h2
  unfold BP I7
  dsimp only
  refine az (fun hi=>?_) (fun _=>dg rfl)
  have hw:aF (k_+1)=k_+1:=bF (by omega)
  refine al (al (bw fun e he=>cw (by have:=hd e he.1;omega) (al (al (bw fun e' he'=>cF ?_)))))
  have:=he.2.symm.trans he'.2
  cases this
  dsimp only
  rw [show Op.mk e.aP e.bc e.cW e.kind e.key e.text e.n e.time e.cz=e from rfl,qA he.2]
  exact ⟨⟨rfl,rfl,by omega,by omega⟩,by omega⟩
structure E9 (c:ag):Prop where
  v:c.v.length≤1000000
  cB:c.cB.length≤1000000
  bp:c.bp.length≤1000000
  gone:c.gone.length≤1000000
  bJ:c.bJ.length≤1000000
  binds:c.binds.length≤1000000
theorem Ov (c:ag)(h:E9 c):eg c=some c:=by
  obtain ⟨h1,h2,h3,h4,h5,h6⟩:=h
  refine jv ?_
  unfold eg
  exact cw (by omega) (cw (by omega) (cw (by omega) (cw (by omega) (cw (by omega) (cw (by omega) (aR rfl))))))
theorem eo.f {K:Nat}{c:ag}(h:eo K c)(hK:K≤10000):E9 c:=by
  obtain ⟨h1,h2,h3,h4,h5,h6⟩:=h
  constructor<;>omega
def kZ (o:Op):Prop:=o.cz.length≤100∧o.key.size≤1000∧o.text.size≤1000
def RS (x:Range):Prop:=0≤x.from_∧x.from_ < x.bU∧x.bU≤1000
def lq (a b:Range):Prop:=a.bU < b.from_
def SR (l:List Range):Prop:=(∀ x∈l,RS x)∧l.Pairwise lq
theorem C0:SR []:=⟨(fun x h=>by cases h),.nil⟩
theorem PV:∀ (l:List Range) (lo:Nat),(∀ x∈l,(lo:Int)≤x.from_∧x.from_ < x.bU∧x.bU≤1000)→l.Pairwise lq→l.length≤1000 - lo
  | [],lo,_,_=>Nat.zero_le _
  | x::r,lo,h,hp=>by
    obtain ⟨h1,h2,h3⟩:=h x (by simp)
    obtain ⟨p1,p2⟩:=List.pairwise_cons.1 hp
    have:=PV r (lo+1) (fun y hy=>by
      have:=p1 y hy;unfold lq at this
      have:=h y (by simp [hy])
      omega) p2
    simp only [List.length_cons]
    omega
theorem SR.len {l:List Range}(h:SR l):l.length≤1000:=PV l 0 (fun x hx=>h.1 x hx) h.2
def In (l:List Range)(x:Int):Prop:=∃ r∈l,r.from_≤x∧x < r.bU
theorem In.nil {x:Int}(h:In [] x):False:=by obtain ⟨r,h,_⟩:=h;cases h
theorem In.dO {a b:List Range}{x:Int}(h:In (a++b) x):In a x∨In b x:=by
  obtain ⟨r,h,h2⟩:=h
  rcases List.mem_append.1 h with h | h
  · exact .inl ⟨r,h,h2⟩
  · exact .inr ⟨r,h,h2⟩
theorem In.drop {a:List Range}{k:Nat}{x:Int}(h:In (a.drop k) x):In a x:=by
  obtain ⟨r,h,h2⟩:=h
  exact ⟨r,List.mem_of_mem_drop h,h2⟩
theorem qO {α:Type}{P:α→Prop}{l:List α}{k:Nat}{e:α}(h:∀ x∈l.take k,P x)(he:l[k]?=some e)(hp:P e):∀ x∈l.take (k+1),P x:=by
  obtain ⟨h1,h2⟩:=List.getElem?_eq_some_iff.1 he
  rw [List.take_succ_eq_append_getElem h1,h2]
  exact ll h hp
theorem wM {α:Type}{R:α→α→Prop}{l:List α}{k:Nat}{x:α}(h:l.Pairwise R)(h1:∀ y∈l.take k,R y x)(h2:∀ y∈l.drop k,R x y):(l.take k++[x]++l.drop k).Pairwise R:=by
  have h3:=h
  rw [← List.take_append_drop k l] at h3
  obtain ⟨p1,p2,p3⟩:=List.pairwise_append.1 h3
  refine List.pairwise_append.2 ⟨List.pairwise_append.2 ⟨p1,List.pairwise_singleton _ _,fun y hy z hz=>by rw [List.mem_singleton.1 hz];exact h1 y hy⟩,p2,fun y hy z hz=>?_⟩
  rcases List.mem_append.1 hy with hy | hy
  · exact p3 y hy z hz
  · rw [List.mem_singleton.1 hy];exact h2 z hz
theorem vq {α:Type}{l:List α}{k:Nat}{x y:α}:y∈l.take k++[x]++l.drop k↔y∈l∨y=x:=by
  have h:y∈l↔y∈l.take k∨y∈l.drop k:=by rw [← List.mem_append,List.take_append_drop]
  rw [h];simp only [List.mem_append,List.mem_singleton]
  constructor
  · rintro ((h | h) | h)
    · exact .inl (.inl h)
    · exact .inr h
    · exact .inl (.inr h)
  · rintro ((h | h) | h)
    · exact .inl (.inl h)
    · exact .inr h
    · exact .inl (.inr h)
theorem mh {a b:ByteArray}:cA a b=true↔a=b:=by
  unfold cA
  refine ⟨fun h=>?_,fun h=>by rw [h];exact beq_self_eq_true _⟩
  have h:=eq_of_beq h
  cases a;cases b
  rw [Array.toList_inj] at h
  cases h;rfl
def sm {α:Type}(f:α→Int):List α→Int
  | []=>0
  | x::r=>f x+sm f r
theorem lE {α:Type}(f:α→Int):∀ (a b:List α),sm f (a++b)=sm f a+sm f b
  | [],b=>by simp [sm]
  | x::r,b=>by simp only [List.cons_append,sm,lE f r b];omega
theorem oM {α:Type}(f:α→Int){x e:α}:∀ {l:List α} {k:Nat},l[k]?=some e→sm f (l.set k x)=sm f l - f e+f x
  | [],k,h=>by simp at h
  | y::r,0,h=>by simp at h;subst h;simp only [List.set_cons_zero,sm];omega
  | y::r,k+1,h=>by simp at h;simp only [List.set_cons_succ,sm,oM f h];omega
theorem P2 {α:Type}(f:α→Int)(l:List α)(k:Nat)(x:α):sm f (l.take k++[x]++l.drop k)=sm f l+f x:=by
  have h:=lE f (l.take k) (l.drop k)
  rw [List.take_append_drop] at h
  rw [lE,lE]
  simp only [sm];omega
theorem aF0 {α:Type}(f:α→Int){l:List α}{k:Nat}{e:α}(h:l[k]?=some e):sm f (l.take k++l.drop (k+1))=sm f l - f e:=by
  have h2:=lE f (l.take k) (l.drop k)
  rw [List.take_append_drop] at h2
  obtain ⟨h3,h4⟩:=List.getElem?_eq_some_iff.1 h
  rw [List.drop_eq_getElem_cons h3,h4] at h2
  rw [lE]
  simp only [sm] at h2;omega
theorem jg {α:Type}{f:α→Int}:∀ {l:List α},(∀ x∈l,0≤f x)→0≤sm f l
  | [],_=>Int.le_refl 0
  | x::r,h=>by have:=h x (by simp);have:=jg (l:=r) (fun y hy=>h y (by simp [hy]));simp only [sm];omega
theorem qp {α:Type}{f:α→Int}:∀ {l:List α},(∀ x∈l,0≤f x)→∀ x∈l,f x≤sm f l
  | y::r,h,x,hx=>by
    have h1:=h y (by simp)
    have h2:=jg (l:=r) (fun y hy=>h y (by simp [hy]))
    rcases List.mem_cons.1 hx with rfl | hx
    · simp only [sm];omega
    · have:=qp (l:=r) (fun y hy=>h y (by simp [hy])) x hx
      simp only [sm];omega
def sv (d:Bool)(k:ByteArray)(s:Slice):Int:=cond (cA s.key k) (cond d (s.bj - s.dy) (s.cE - s.eO)) 0
def cv (d:Bool)(k:ByteArray)(c:bP):Int:=cond (cA c.key k) (cond d c.bj c.cE) 0
def lv (d:Bool)(k:ByteArray)(l:aH):Int:=sm (sv d k) l.aW
def Rt (d:Bool)(k:ByteArray)(b:aG):Int:=sm (cv d k) b.af+sm (lv d k) b.aK
def gD (k:ByteArray):Int:=cond (cA k cV) 10 (cond (cA k cX) 30 0)
def sx (s:Slice):Prop:=0≤s.dy∧s.dy≤s.bj∧s.bj≤1000∧0≤s.eO∧s.eO≤s.cE∧s.cE≤1000
def SL (l:List Slice):Prop:=l.map (·.key)=[cV,cX].take l.length∧∀ s∈l,sx s
theorem SL.len {l:List Slice}(h:SL l):l.length≤2:=by
  have:=congrArg List.length h.1
  rw [List.length_map,List.length_take] at this
  simp at this;omega
theorem SL.key {l:List Slice}(h:SL l):∀ s∈l,s.key=cV∨s.key=cX:=by
  intro s hs
  have:=List.mem_map_of_mem (f:=fun s:Slice=>s.key) hs
  rw [h.1] at this
  have:=List.mem_of_mem_take this
  simpa using this
theorem SL.ky {l:List Slice}(h:SL l):∀ s∈l,s.key.size≤1000:=by
  intro s hs
  rcases h.key s hs with h | h<;>rw [h]<;>decide
theorem xE {d:Bool}{k:ByteArray}{s:Slice}(h:sx s):0≤sv d k s:=by
  obtain ⟨h1,h2,h3,h4,h5,h6⟩:=h
  unfold sv
  cases cA s.key k<;>cases d<;>simp only [cond_true,cond_false]<;>omega
structure jL (U:Nat) (l:aH):Prop where
  sl:SL l.aW
  ids:SR l.ids
  used:l.used.length≤U
  up:l.used.Pairwise (· < ·)
  am:∀ n∈l.used,In l.ids n
  dv:0≤l.device∧l.device≤5
theorem jL.lv {U:Nat}{l:aH}{d:Bool}{k:ByteArray}(h:jL U l):0≤lv d k l:=jg fun s hs=>xE (h.sl.2 s hs)
theorem jL.mono {U V:Nat}{l:aH}(h:jL U l)(hu:U≤V):jL V l:=⟨h.sl,h.ids,Nat.le_trans h.used hu,h.up,h.am,h.dv⟩
theorem jL.f {U:Nat}{l:aH}(h:jL U l)(hU:U≤100000):kg l:=by
  have h1:=h.sl.len
  have h2:=h.used
  have h3:=h.ids.len
  exact ⟨by omega,by omega,by omega⟩
def ck (c:bP):ByteArray×Int×Int×Int×Int:=(c.key,c.bc,c.lo,c.hi,c.start)
def Ea:List (ByteArray×Int×Int×Int×Int):=[(cV,0,0,20,10),(cX,1,-30,30,0)]
def gj (l:List bP):Prop:=l.map ck=Ea∧∀ c∈l,0≤c.bj∧0≤c.cE∧c.bj≤30∧c.cE≤30
theorem gj.len {l:List bP}(h:gj l):l.length=2:=by
  have:=congrArg List.length h.1
  rw [List.length_map] at this
  exact this
structure ef (U B:Nat) (b:aG):Prop where
  cn:gj b.af
  free:SR b.free
  ln:b.aK.length≤1000
  ls:∀ l∈b.aK,jL U l
  bd:b.bB.length≤B
  od:b.aK.Pairwise (fun l m=>l.device < m.device)
  bs:b.bB.Pairwise (· < ·)
  a1:∀ l∈b.aK,∀ x,In b.free x→In l.ids x→False
  a2:b.aK.Pairwise (fun l m=>∀ x,In l.ids x→In m.ids x→False)
  a3:∀ n∈b.bB,In b.free n→False
  a4:∀ n∈b.bB,∀ l∈b.aK,In l.ids n→False
  rt:∀ d k,Rt d k b≤gD k
def BS (b:aG)(n:Int):Prop:=n∈b.bB∨∃ l∈b.aK,n∈l.used
theorem ef.cl {U B:Nat}{b:aG}(h:ef U B b):b.af.length≤10:=by have:=h.cn.len;omega
theorem ef.mono {U V B C:Nat}{b:aG}(h:ef U B b)(hu:U≤V)(hb:B≤C):ef V C b:=⟨h.cn,h.free,h.ln,fun l hl=>(h.ls l hl).mono hu,Nat.le_trans h.bd hb,h.od,h.bs,h.a1,h.a2,h.a3,h.a4,h.rt⟩
theorem ef.f {U B:Nat}{b:aG}(h:ef U B b)(hU:U≤100000)(hB:B≤1000000):yZ b:=by
  have h1:=h.cl
  have h2:=h.free.len
  have h3:=h.ln
  have h4:=h.bd
  exact ⟨by omega,by omega,by omega,by omega,fun l hl=>(h.ls l hl).f hU⟩
structure fj (r:aU):Prop where
  sl:r.aE.aW.length≤10
  id:r.aE.ids.length≤1000
  us:r.aE.used.length≤1000
structure DvG (v:eP):Prop where
  h0:fj v.a0.aB
  h1:fj v.a1.aB
  h2:fj v.a2.aB
  h3:fj v.a3.aB
  h4:fj v.a4.aB
  h5:fj v.a5.aB
def cs (k:ByteArray)(c:ag):Int:=sm (fun s:Sum=>cond (cA s.key k) s.n 0) c.bJ
def fM (c:ag):Prop:=c.bJ.map (·.key)=[]∨c.bJ.map (·.key)=[cV]∨c.bJ.map (·.key)=[cX]∨c.bJ.map (·.key)=[cV,cX]
def eU (v e:Int)(o:Op):Bool:=o.aP.device == v && o.aP.aA == e
structure dV (U B K N Z:Nat) (d:aw):Prop where
  bk:ef U B d.book
  ln:d.book.aK.length≤N
  c0:eo K d.aI.a0
  c1:eo K d.aI.a1
  c2:eo K d.aI.a2
  lg:d.log.length≤2000
  op:∀ o∈d.log,o.cz.length≤100
  ls:d.lost.length≤Z
  dv:DvG d.dev
structure dp (d:aw):Prop where
  s0:fM d.aI.a0
  s1:fM d.aI.a1
  s2:fM d.aI.a2
  cn:∀ k,cs k d.aI.a0+cs k d.aI.a1+cs k d.aI.a2=Rt false k d.book - Rt true k d.book
  cb:∀ k c,c=d.aI.a0∨c=d.aI.a1∨c=d.aI.a2→Rt false k d.book - gD k≤cs k c∧cs k c≤gD k - Rt true k d.book
  bi:∀ o∈d.log,o.kind=5→BS d.book o.n
  nd:d.log.Pairwise (fun o p=>o.kind=5→p.kind=5→o.n≠p.n)
  sq:∀ (k:Nat) o,d.log[k]?=some o→o.aP.seq=1+(((d.log.take k).filter (eU o.aP.device o.aP.aA)).length:Int)
  ok:∀ o∈d.log,js o=some 0∧kZ o
theorem dV.mono {U B K N Z U' B' K' N' Z':Nat}{d:aw}(h:dV U B K N Z d)(h1:U≤U')(h2:B≤B')(h3:K≤K')(h4:N≤N')(h5:Z≤Z'):dV U' B' K' N' Z' d :=
  ⟨h.bk.mono h1 h2,Nat.le_trans h.ln h4,h.c0.mono h3,h.c1.mono h3,h.c2.mono h3,h.lg,h.op,Nat.le_trans h.ls h5,h.dv⟩
theorem dh (e n:Int):fj (aU.mk e n (aH.mk 0 0 0 0 [] [] [])):=⟨Nat.zero_le _,Nat.zero_le _,Nat.zero_le _⟩
theorem fj.f {r:aU}(h:fj r):kg r.aE:=by
  obtain ⟨h1,h2,h3⟩:=h
  exact ⟨by omega,by omega,by omega⟩
theorem aFY {U B K N Z:Nat}(d:aw)(h:dV U B K N Z d)(hU:U≤100000)(hB:B≤1000000)(hK:K≤10000)(hZ:Z≤1000000):eJ d=some d:=by
  have hls:=h.ls
  have hlg:=h.lg
  have hv:=h.dv
  obtain ⟨a1,a2,a3,a4,a5,a6⟩:=h.c0.f hK
  obtain ⟨b1,b2,b3,b4,b5,b6⟩:=h.c1.f hK
  obtain ⟨c1,c2,c3,c4,c5,c6⟩:=h.c2.f hK
  refine jv ?_
  unfold eJ
  rw [P5 d.book (h.bk.f hU hB),aIU d.log (by omega) (fun o ho=>by have:=h.op o ho;omega),jQ _ hv.h0.f,jQ _ hv.h1.f,jQ _ hv.h2.f,jQ _ hv.h3.f,jQ _ hv.h4.f,jQ _ hv.h5.f]
  simp only [bG]
  repeat' refine cw (by omega) ?_
  exact aR rfl
theorem jr (a b c:Int):Ok (ib a b c) (fun y=>y=true→b≤a∧a≤c):=by
  unfold ib
  refine aR ?_
  by_cases h:a≥b
  · rw [decide_eq_true h];exact fun h2=>⟨h,of_decide_eq_true h2⟩
  · rw [decide_eq_false h];exact fun h=>by cases h
theorem ga (a b c:Int):Ok (j9 a b c) (fun y=>y=true→b≤a∧a≤c):=jr a b c
theorem qa (l:List aL)(v e:Int)(h:l.length≤1000000):Ok (jo l v e) (fun _=>True):=by
  unfold jo
  exact cw (by omega) (aR trivial)
theorem qg (l:List Op)(v e:Int)(h:l.length≤1000000):jk l v e=some (iR (fun o:Op=>o.aP.device == v && o.aP.aA == e) (fun o=>o.aP.seq) l):=by
  unfold jk
  rw [mg (by omega)]
  rfl
theorem KY (b:aG)(s:ByteArray)(hl:b.af.length≤1000000):Ok (nP b s) (fun r=>r < 0∧(∀ c∈b.af,cA c.key s=false)∨0≤r∧r < (b.af.length:Int)∧∃ c,b.af[r.toNat]?=some c∧c.key=s):=by
  unfold nP
  refine aT (P:=dP (fun _=>∀ c∈b.af,cA c.key s=false) (fun y=>0≤y.1∧y.1 < (b.af.length:Int)∧∃ c,b.af[y.1.toNat]?=some c∧c.key=s)) ?_ fun y hy=>eG hy (fun _ h=>aR (.inl ⟨by omega,h⟩)) (fun _ hb=>aR (.inr hb))
  refine cQ (fun xx=>xx.1=b.af∧xx.2.2.1=(b.af.length:Int)∧xx.2.2.2.2=s∧0≤xx.2.2.2.1∧xx.2.2.2.1≤(b.af.length:Int)∧(∀ c∈b.af.take xx.2.2.2.1.toNat,cA c.key s=false)) (fun xx=>((b.af.length:Int) - xx.2.2.2.1).toNat) ?_ _ _ ⟨rfl,rfl,rfl,by dsimp only;omega,by dsimp only;omega,by simp⟩ (by dsimp only;omega)
  rintro ⟨l_,a_,n_,k_,s_⟩ ⟨h1,h2,h3,h4,h5,h6⟩
  dsimp only at h1 h2 h3 h4 h5 h6
  subst h1;subst h2;subst h3
  unfold AI H2
  dsimp only
  refine az (fun hi=>?_) (fun _=>dW (by rwa [List.take_of_length_le (by omega)] at h6))
  have hw:aF (k_+1)=k_+1:=bF (by omega)
  refine al (bw fun e he=>bo (fun hc=>ez ⟨h4,hi,e,he.2,mh.1 hc⟩) (fun hc=>cF ?_))
  dsimp only
  refine ⟨⟨rfl,rfl,rfl,by omega,by omega,?_⟩,by omega⟩
  rw [hw,show (k_+1).toNat=k_.toNat+1 from by omega]
  exact qO h6 he.2 hc
def iZ (l:List aH)(v e:Int):Int:=match l.findIdx? (fun x=>x.device == v && x.aA == e) with
  | some k=>(k:Int)
  | none => -1
theorem E1 (b:aG)(v e:Int)(hl:b.aK.length≤1000000):nh b v e=some (iZ b.aK v e):=by
  refine jv ?_
  unfold nh
  refine aT (P:=dP (fun _=>iZ b.aK v e = -1) (fun y=>y.1=iZ b.aK v e)) ?_ fun y hy=>eG hy (fun _ ha=>aR ha.symm) (fun _ hb=>aR hb)
  refine cQ (fun xx=>xx.1=b.aK∧xx.2.2.1=(b.aK.length:Int)∧xx.2.2.2.2.1=v∧xx.2.2.2.2.2=e∧0≤xx.2.2.2.1∧xx.2.2.2.1≤(b.aK.length:Int)∧∀ (j:Nat) q,(j:Int) < xx.2.2.2.1→b.aK[j]?=some q→(q.device == v && q.aA == e)=false) (fun xx=>((b.aK.length:Int) - xx.2.2.2.1).toNat) ?_ _ _ ⟨rfl,rfl,rfl,rfl,by dsimp only;omega,by dsimp only;omega,fun j q h=>by dsimp only at h;omega⟩ (by dsimp only;omega)
  rintro ⟨l_,a_,n_,k_,v_,e_⟩ ⟨h1,h2,h3,h4,h5,h6,h7⟩
  dsimp only at h1 h2 h3 h4 h5 h6 h7
  subst h1;subst h2;subst h3;subst h4
  unfold yh Ey
  dsimp only
  refine az (fun hi=>?_) (fun hi=>dW ?_)
  · have hw:aF (k_+1)=k_+1:=bF (by omega)
    refine al (bw fun x hx=>bo (fun hc=>ez ?_) (fun hc=>cF ?_))
    · have hlt:k_.toNat < b.aK.length:=by omega
      have hs:b.aK.findIdx? (fun x=>x.device == v_ && x.aA == e_)=some k_.toNat:=by
        refine List.findIdx?_eq_some_iff_getElem.2 ⟨hlt,?_,fun j hj=>?_⟩
        · have:=hx.2;rw [List.getElem?_eq_getElem hlt] at this;cases this
          revert hc;cases (b.aK[k_.toNat].device == v_)<;>simp
        · have:=h7 j b.aK[j] (by omega) (List.getElem?_eq_getElem (by omega));simpa using this
      dsimp only
      unfold iZ;rw [hs];dsimp only;omega
    · dsimp only
      refine ⟨⟨rfl,rfl,rfl,rfl,by omega,by omega,fun j x' hj hx'=>?_⟩,by omega⟩
      by_cases hji:(j:Int) < k_
      · exact h7 j x' hji hx'
      · have:j=k_.toNat:=by omega
        subst this
        rw [hx.2] at hx';cases hx'
        revert hc;cases (x.device == v_)<;>simp
  · have hs:b.aK.findIdx? (fun x=>x.device == v_ && x.aA == e_)=none:=by
      refine List.findIdx?_eq_none_iff.2 fun e he=>?_
      obtain ⟨j,hj,rfl⟩:=List.getElem_of_mem he
      have:=h7 j b.aK[j] (by omega) (List.getElem?_eq_getElem hj);simpa using this
    unfold iZ;rw [hs]
theorem Co {l:List aH}{v e:Int}(h:0≤iZ l v e):iZ l v e < (l.length:Int)∧∃ x,l[(iZ l v e).toNat]?=some x∧x.device=v∧x.aA=e:=by
  unfold iZ at h ⊢
  split
  · rename_i k hk
    obtain ⟨h1,h2,_⟩:=List.findIdx?_eq_some_iff_getElem.1 hk
    refine ⟨by omega,l[k],?_,by simpa using h2⟩
    rw [Int.toNat_natCast]
    exact List.getElem?_eq_getElem h1
  · rename_i hk
    rw [hk] at h
    simp at h
theorem Cs {U B:Nat}(b:aG)(v e:Int)(h:ef U B b)(hU:U≤100000):Ok (nY b v e) (fun y=>(y.2=false→y.1=aH.mk 0 0 0 0 [] [] [])∧(y.2=true→0≤iZ b.aK v e∧b.aK[(iZ b.aK v e).toNat]?=some y.1∧y.1∈b.aK∧y.1.device=v∧y.1.aA=e)):=by
  unfold nY
  rw [E1 b v e (by have:=h.ln;omega),bG]
  refine az (fun _=>aR ⟨fun _=>rfl,fun h=>by cases h⟩) (fun hneg=>?_)
  obtain ⟨a1,x,a2,a3,a4⟩:=Co (l:=b.aK) (v:=v) (e:=e) (by omega)
  refine al (bw fun l hl=>?_)
  have:=hl.2.symm.trans a2
  cases this
  rw [np x ((h.ls x hl.1).f hU),bG]
  exact aR ⟨fun h=>by simp at h,fun _=>⟨by omega,hl.2,hl.1,a3,a4⟩⟩
theorem wT (l:List Range)(hl:l.length≤1000000):lc l=some l:=by
  refine jv ?_
  unfold lc
  have hcp:((l.take (Nat.min l.length ((List.replicate (((l.length:Int)).toNat) (Range.mk 0 0)).length)))++(((List.replicate (((l.length:Int)).toNat) (Range.mk 0 0)).take ((List.replicate (((l.length:Int)).toNat) (Range.mk 0 0)).length)).drop (Nat.min l.length ((List.replicate (((l.length:Int)).toNat) (Range.mk 0 0)).length))))=l:=by
    rw [List.length_replicate,Cw,Int.toNat_natCast,Nat.min_self,List.take_length,List.drop_eq_nil_of_le (by simp),List.append_nil]
  rw [hcp]
  exact al (cw (by omega) (aR rfl))
theorem aGX (l:List Range)(hl:l.length≤1000000):Ok (uk l) (fun _=>True):=by
  unfold uk
  refine aT (P:=fun _=>True) ?_ fun y hy=>aR trivial
  refine cQ (fun xx=>xx.2.1=l∧xx.2.2.1=(l.length:Int)∧0≤xx.2.2.2∧xx.2.2.2≤(l.length:Int)) (fun xx=>((l.length:Int) - xx.2.2.2).toNat) ?_ _ _ ⟨rfl,rfl,by dsimp only;omega,by dsimp only;omega⟩ (by dsimp only;omega)
  rintro ⟨m_,l_,n_,k_⟩ ⟨h1,h2,h3,h4⟩
  dsimp only at h1 h2 h3 h4
  subst h1;subst h2
  unfold AC Ha
  dsimp only
  refine az (fun hi=>?_) (fun _=>dg trivial)
  have hw:aF (k_+1)=k_+1:=bF (by omega)
  repeat' first
    | refine al ?_
    | refine bw fun e he=>?_
    | refine cF ?_
  dsimp only;exact ⟨⟨rfl,rfl,by omega,by omega⟩,by omega⟩
theorem RK (l:List Range)(n:Int)(hl:l.length≤1000000):Ok (pf l n) (fun y=>if y=true then In l n else ¬ In l n):=by
  unfold pf
  refine aT (P:=dP (fun _=>¬ In l n) (fun y=>y=true∧In l n)) ?_ fun y hy=>eG hy (fun _ h=>aR (by simpa using h)) (fun b h=>aR (by rw [h.1];simpa using h.2))
  refine cQ (fun xx=>xx.1=n∧xx.2.2.1=l∧xx.2.2.2.1=(l.length:Int)∧0≤xx.2.2.2.2∧xx.2.2.2.2≤(l.length:Int)∧¬ In (l.take xx.2.2.2.2.toNat) n) (fun xx=>((l.length:Int) - xx.2.2.2.2).toNat) ?_ _ _ ⟨rfl,rfl,rfl,by dsimp only;omega,by dsimp only;omega,by (intro h;obtain ⟨r,h,_⟩:=h;simp at h)⟩ (by dsimp only;omega)
  rintro ⟨a_,b_,l_,n_,k_⟩ ⟨h1,h2,h3,h4,h5,h6⟩
  dsimp only at h1 h2 h3 h4 h5 h6
  subst h1;subst h2;subst h3
  unfold Aj H6
  dsimp only
  refine az (fun hi=>?_) (fun hi=>dW ?_)
  · have hw:aF (k_+1)=k_+1:=bF (by omega)
    refine al (bw fun e he=>bo (fun hc=>ez ⟨rfl,?_⟩) (fun hc=>cF ?_))
    · by_cases h:a_≥e.from_
      · rw [decide_eq_true h] at hc;exact ⟨e,he.1,h,of_decide_eq_true hc⟩
      · rw [decide_eq_false h] at hc;cases hc
    · dsimp only
      refine ⟨⟨rfl,rfl,rfl,by omega,by omega,?_⟩,by omega⟩
      rw [hw,show (k_+1).toNat=k_.toNat+1 from by omega,List.take_succ_eq_append_getElem (by omega)]
      intro h
      rcases h.dO with h | h
      · exact h6 h
      · obtain ⟨r,hr,h1,h2⟩:=h
        have h3:=he.2
        rw [List.getElem?_eq_getElem (by omega)] at h3
        cases h3
        rw [List.mem_singleton.1 hr] at h1 h2
        rw [decide_eq_true h1,decide_eq_true h2] at hc;cases hc
  · rwa [List.take_of_length_le (by omega)] at h6
structure AP (a l:List Range) (k:Nat):Prop where
  sr:SR a
  lt:∀ z∈a,∀ w∈l.drop k,lq z w
theorem AP.nil {l:List Range}{k:Nat}:AP [] l k:=⟨C0,(fun z h=>by cases h)⟩
theorem AP.skip {a l:List Range}{k:Nat}(h:AP a l k):AP a l (k+1):=⟨h.sr,fun z hz w hw=>h.lt z hz w (by
  have:l.drop (k+1)=(l.drop k).drop 1:=by rw [List.drop_drop]
  rw [this] at hw
  exact List.mem_of_mem_drop hw)⟩
theorem jA {α:Type}{l:List α}{k:Nat}{e:α}(he:l[k]?=some e):l.drop k=e::l.drop (k+1):=by
  obtain ⟨h1,h2⟩:=List.getElem?_eq_some_iff.1 he
  rw [List.drop_eq_getElem_cons h1,h2]
theorem SR.next {l:List Range}{k:Nat}{e:Range}(h:SR l)(he:l[k]?=some e):∀ w∈l.drop (k+1),lq e w:=by
  have:=h.2.sublist (List.drop_sublist k l)
  rw [jA he] at this
  exact (List.pairwise_cons.1 this).1
theorem AP.EP {a l ps:List Range}{k:Nat}{e:Range}(h:AP a l k)(hl:SR l)(he:l[k]?=some e)(hp:∀ p∈ps,e.from_≤p.from_∧p.from_ < p.bU∧p.bU≤e.bU)(hw:ps.Pairwise lq):AP (a++ps) l (k+1):=by
  have hm:e∈l.drop k:=by rw [jA he];simp
  have hr:=hl.1 e (List.mem_of_mem_drop hm)
  refine ⟨⟨fun x hx=>?_,List.pairwise_append.2 ⟨h.sr.2,hw,fun z hz p hp'=>?_⟩⟩,fun z hz w hw'=>?_⟩
  · rcases List.mem_append.1 hx with hx | hx
    · exact h.sr.1 x hx
    · have:=hp x hx;unfold RS at hr ⊢;omega
  · have h1:=h.lt z hz e hm
    have:=hp p hp'
    unfold lq at h1 ⊢;omega
  · rcases List.mem_append.1 hz with hz | hz
    · exact h.skip.lt z hz w hw'
    · have h1:=hl.next he w hw'
      have:=hp z hz
      unfold lq at h1 ⊢;omega
theorem AP.add {a l:List Range}{k:Nat}{e p:Range}(h:AP a l k)(hl:SR l)(he:l[k]?=some e)(h1:e.from_≤p.from_)(h2:p.from_ < p.bU)(h3:p.bU≤e.bU):AP (a++[p]) l (k+1) :=
  h.EP hl he (fun q hq=>by rw [List.mem_singleton.1 hq];exact ⟨h1,h2,h3⟩) (List.pairwise_singleton _ _)
def Sb (a l:List Range):Prop:=∀ x,In a x→In l x
def Dj (a b:List Range):Prop:=∀ x,In a x→In b x→False
theorem In.one {p:Range}{x:Int}:In [p] x↔p.from_≤x∧x < p.bU:=⟨fun ⟨r,h,h2⟩=>by rw [List.mem_singleton.1 h] at h2;exact h2,fun h=>⟨p,by simp,h⟩⟩
theorem Sb.nil {l:List Range}:Sb [] l:=fun x h=>h.nil.elim
theorem Sb.dO {a b l:List Range}(h:Sb a l)(h2:Sb b l):Sb (a++b) l:=fun x hx=>hx.dO.elim (h x) (h2 x)
theorem Sb.one {p e:Range}{l:List Range}(he:e∈l)(h1:e.from_≤p.from_)(h2:p.bU≤e.bU):Sb [p] l:=fun x hx=>by
  obtain ⟨a,b⟩:=In.one.1 hx
  exact ⟨e,he,by omega,by omega⟩
theorem AP.off {a l:List Range}{k:Nat}{e:Range}{x:Int}(h:AP a l k)(he:l[k]?=some e)(hx:In a x):x < e.from_:=by
  obtain ⟨z,hz,_,h2⟩:=hx
  have:=h.lt z hz e (by rw [jA he];simp)
  unfold lq at this;omega
theorem CJ {a b l ps qs:List Range}{k:Nat}{e:Range}(ha:AP a l k)(hb:AP b l k)(he:l[k]?=some e)(h:Dj a b)(hp:∀ x,In ps x→e.from_≤x)(hq:∀ x,In qs x→e.from_≤x)(hd:Dj ps qs):Dj (a++ps) (b++qs):=fun x h1 h2=>by
  rcases h1.dO with h1 | h1<;>rcases h2.dO with h2 | h2
  · exact h x h1 h2
  · have:=ha.off he h1;have:=hq x h2;omega
  · have:=hb.off he h2;have:=hp x h1;omega
  · exact hd x h1 h2
theorem aF7 (l:List Range)(n:Int)(hv:SR l)(hn:n≤100000):Ok (pQ l n) (fun y=>y.2.2=0→SR y.1∧SR y.2.1∧Sb y.1 l∧Sb y.2.1 l∧Dj y.1 y.2.1):=by
  have hll:=hv.len
  unfold pQ
  refine az (fun _=>aR (fun h=>by cases h)) fun hn0=>aT (aGX l (by omega)) fun r0 _=>az (fun _=>aR (fun h=>by cases h)) fun _=>?_
  refine aT (P:=fun y=>SR y.1∧SR y.2∧Sb y.1 l∧Sb y.2 l∧Dj y.1 y.2) ?_ fun y hy=>?_
  · refine cQ (fun xx=>xx.2.2.2.1=l∧xx.2.2.2.2.1=(l.length:Int)∧0≤xx.1∧xx.1≤100000∧0≤xx.2.2.2.2.2∧xx.2.2.2.2.2≤(l.length:Int)∧AP xx.2.1 l xx.2.2.2.2.2.toNat∧AP xx.2.2.1 l xx.2.2.2.2.2.toNat∧Sb xx.2.1 l∧Sb xx.2.2.1 l∧Dj xx.2.1 xx.2.2.1) (fun xx=>((l.length:Int) - xx.2.2.2.2.2).toNat) ?_ _ _ ⟨rfl,rfl,by dsimp only;omega,by dsimp only;omega,by dsimp only;omega,by dsimp only;omega,.nil,.nil,.nil,.nil,(fun x h=>h.nil.elim)⟩ (by dsimp only;omega)
    rintro ⟨n_,a_,b_,l_,m_,k_⟩ ⟨h1,h2,h3,h4,h5,h6,h7,h8,h9,h10,h11⟩
    dsimp only at h1 h2 h3 h4 h5 h6 h7 h8 h9 h10 h11
    subst h1;subst h2
    unfold AL G8
    dsimp only
    refine az (fun hi=>?_) (fun hi=>dg ⟨h7.sr,h8.sr,h9,h10,h11⟩)
    have hw:aF (k_+1)=k_+1:=bF (by omega)
    have ht:(k_+1).toNat=k_.toNat+1:=by omega
    refine al (bw fun e he=>?_)
    obtain ⟨e1,e2,e3⟩:=hv.1 e he.1
    have hL7:=h7.sr.len
    have hL8:=h8.sr.len
    have hk:min2 n_ (aF (e.bU - e.from_))=min n_ (e.bU - e.from_):=by rw [bF (by omega)];unfold min2;split<;>omega
    simp only [hk]
    have hk1:0≤min n_ (e.bU - e.from_):=by omega
    have hk2:min n_ (e.bU - e.from_)≤e.bU - e.from_:=by omega
    have hk3:min n_ (e.bU - e.from_)≤n_:=by omega
    generalize min n_ (e.bU - e.from_)=q at hk1 hk2 hk3 ⊢
    have hwf:aF (e.from_+q)=e.from_+q:=bF (by omega)
    have hwn:aF (n_ - q)=n_ - q:=bF (by omega)
    rw [hwf,hwn,hw]
    have s1:Sb [Range.mk e.from_ (e.from_+q)] l_:=.one he.1 (Int.le_refl _) (by dsimp only;omega)
    have s2:Sb [Range.mk (e.from_+q) e.bU] l_:=.one he.1 (by dsimp only;omega) (Int.le_refl _)
    have p1:∀ x,In [Range.mk e.from_ (e.from_+q)] x→e.from_≤x:=fun x h=>(In.one.1 h).1
    have p2:∀ x,In [Range.mk (e.from_+q) e.bU] x→e.from_≤x:=fun x h=>by have:=(In.one.1 h).1;dsimp only at this;omega
    have n0:∀ x,In [] x→e.from_≤x:=fun x h=>h.nil.elim
    have d1:Dj [Range.mk e.from_ (e.from_+q)] [Range.mk (e.from_+q) e.bU]:=fun x h h'=>by have:=(In.one.1 h).2;have:=(In.one.1 h').1;dsimp only at *;omega
    have j1:=CJ h7 h8 he.2 h11 p1 p2 d1
    have j2:=CJ h7 h8 he.2 h11 p1 n0 (fun x _ h=>h.nil)
    have j3:=CJ h7 h8 he.2 h11 n0 p2 (fun x h=>h.nil.elim)
    rw [List.append_nil] at j2 j3
    repeat' first
      | refine al ?_
      | refine cw (by simp only [List.length_append,List.length_cons,List.length_nil]<;>omega) ?_
      | refine az (fun hc=>?_) (fun hc=>?_)
      | refine cF ?_
    all_goals dsimp only
    all_goals rw [ht]
    · exact ⟨⟨rfl,rfl,by omega,by omega,by omega,by omega,h7.add hv he.2 (by dsimp only;omega) (by dsimp only;omega) (by dsimp only;omega),h8.add hv he.2 (by dsimp only;omega) (by dsimp only;omega) (by dsimp only;omega),h9.dO s1,h10.dO s2,j1⟩,by omega⟩
    · exact ⟨⟨rfl,rfl,by omega,by omega,by omega,by omega,h7.add hv he.2 (by dsimp only;omega) (by dsimp only;omega) (by dsimp only;omega),h8.skip,h9.dO s1,h10,j2⟩,by omega⟩
    · exact ⟨⟨rfl,rfl,by omega,by omega,by omega,by omega,h7.skip,h8.add hv he.2 (by dsimp only;omega) (by dsimp only;omega) (by dsimp only;omega),h9,h10.dO s2,j3⟩,by omega⟩
  · rw [wT y.1 (by have:=hy.1.len;omega),bG,wT y.2 (by have:=hy.2.1.len;omega),bG]
    exact aR fun _=>hy
theorem SH (l:List Range)(r:Range)(hv:SR l)(hr:RS r):Ok (n7 l r) (fun y=>SR y∧∀ x,In y x→In l x∨r.from_≤x∧x < r.bU):=by
  have hl:=hv.len
  have hr':=hr
  obtain ⟨hr1,hr2,hr3⟩:=hr
  unfold n7
  refine bo (fun hc=>?_) (fun _=>?_)
  · exfalso
    rw [decide_eq_false (by omega),decide_eq_false (by omega),decide_eq_false (by omega)] at hc
    cases hc
  refine aT (P:=fun y=>y.1=l∧y.2.2.2=r∧0≤y.2.2.1∧y.2.2.1≤(l.length:Int)∧AP y.2.1 l y.2.2.1.toNat∧(∀ z∈y.2.1,lq z r)∧Sb y.2.1 l∧∀ w∈l.drop y.2.2.1.toNat,r.from_≤w.bU) ?_ fun y hy=>?_
  · refine cQ (fun xx=>xx.1=l∧xx.2.2.2=r∧0≤xx.2.2.1∧xx.2.2.1≤(l.length:Int)∧AP xx.2.1 l xx.2.2.1.toNat∧(∀ z∈xx.2.1,lq z r)∧Sb xx.2.1 l) (fun xx=>((l.length:Int) - xx.2.2.1).toNat) ?_ _ _ ⟨rfl,rfl,by dsimp only;omega,by dsimp only;omega,.nil,by simp,.nil⟩ (by dsimp only;omega)
    rintro ⟨l_,a_,k_,r_⟩ ⟨h1,h2,h3,h4,h5,h6,h7⟩
    dsimp only at h1 h2 h3 h4 h5 h6 h7
    subst h1;subst h2
    unfold Al HU
    dsimp only
    refine az (fun hi=>?_) (fun hi=>dg ⟨rfl,rfl,h3,h4,h5,h6,h7,fun w hw=>by dsimp only at hw;rw [List.drop_eq_nil_of_le (by omega)] at hw;cases hw⟩)
    have hw:aF (k_+1)=k_+1:=bF (by omega)
    have ht:(k_+1).toNat=k_.toNat+1:=by omega
    refine al (bw fun e he=>az (fun hlt=>?_) (fun hnl=>dg ⟨rfl,rfl,h3,h4,h5,h6,h7,fun w hw=>by
      dsimp only at hw
      rw [jA he.2] at hw
      rcases List.mem_cons.1 hw with rfl | hw
      · omega
      · have:=hv.next he.2 w hw;have:=(hv.1 w (List.mem_of_mem_drop hw)).2.1;unfold lq at *;omega⟩))
    refine al (bw fun e' he'=>cw (by have:=h5.sr.len;simp only [List.length_append,List.length_cons,List.length_nil]<;>omega) (cF ?_))
    have:=he.2.symm.trans he'.2
    cases this
    dsimp only
    rw [hw,ht]
    exact ⟨⟨rfl,rfl,by omega,by omega,h5.add hv he.2 (Int.le_refl _) (hv.1 e he.1).2.1 (Int.le_refl _),ll h6 hlt,h7.dO (.one he.1 (Int.le_refl _) (Int.le_refl _))⟩,by omega⟩
  obtain ⟨l',a,k,r'⟩:=y
  obtain ⟨h1,h2,h3,h4,h5,h7,hsb,hto⟩:=hy
  dsimp only at h1 h2 h3 h4 h5 h7 hsb hto
  subst h1;subst h2
  dsimp only
  refine aT (P:=fun y=>y.1=l'∧y.2.1=a∧k≤y.2.2.1∧y.2.2.1≤(l'.length:Int)∧RS y.2.2.2∧AP a l' y.2.2.1.toNat∧(∀ z∈a,lq z y.2.2.2)∧(∀ w∈l'.drop y.2.2.1.toNat,lq y.2.2.2 w)∧∀ x,y.2.2.2.from_≤x→x < y.2.2.2.bU→In l' x∨r'.from_≤x∧x < r'.bU) ?_ fun y hy=>?_
  · refine cQ (fun xx=>xx.1=l'∧xx.2.1=a∧k≤xx.2.2.1∧xx.2.2.1≤(l'.length:Int)∧RS xx.2.2.2∧AP a l' xx.2.2.1.toNat∧(∀ z∈a,lq z xx.2.2.2)∧xx.2.2.2.from_≤r'.from_∧(∀ x,xx.2.2.2.from_≤x→x < xx.2.2.2.bU→In l' x∨r'.from_≤x∧x < r'.bU)) (fun xx=>((l'.length:Int) - xx.2.2.1).toNat) ?_ _ _ ⟨rfl,rfl,by dsimp only;omega,by dsimp only;omega,hr',h5,h7,Int.le_refl _,(fun x q1 q2=>.inr ⟨q1,q2⟩)⟩ (by dsimp only;omega)
    rintro ⟨l_,a_,k_,r_⟩ ⟨h1,h2,h3,h4,h5,h6,h7,h8,h9⟩
    dsimp only at h1 h2 h3 h4 h5 h6 h7 h8 h9
    subst h1;subst h2
    unfold AD Hi
    dsimp only
    refine az (fun hi=>?_) (fun hi=>dg ⟨rfl,rfl,by omega,by omega,by assumption,by assumption,by assumption,?_,by assumption⟩)
    · have hw:aF (k_+1)=k_+1:=bF (by omega)
      have ht:(k_+1).toNat=k_.toNat+1:=by omega
      refine al (bw fun e he=>az (fun _=>?_) (fun hg=>dg ⟨rfl,rfl,by omega,by omega,by assumption,by assumption,by assumption,?_,by assumption⟩))
      · refine al (bw fun e1 he1=>al (bw fun e2 he2=>cF ?_))
        have:=he.2.symm.trans he1.2
        cases this
        have:=he.2.symm.trans he2.2
        cases this
        obtain ⟨q1,q2,q3⟩:=hv.1 e he.1
        have g:RS r_:=by assumption
        obtain ⟨g1,g2,g3⟩:=g
        have hap:AP a_ l_ k_.toNat:=by assumption
        have hz:∀ z∈a_,lq z r_:=by assumption
        have hfr:r_.from_≤r'.from_:=by assumption
        have hin:∀ x,r_.from_≤x→x < r_.bU→In l_ x∨r'.from_≤x∧x < r'.bU:=by assumption
        have hkk:k≤k_:=by assumption
        have hte:r'.from_≤e.bU:=hto e (by
          have:e∈l_.drop k_.toNat:=by rw [jA he.2];simp
          rw [show k_.toNat=k.toNat+(k_.toNat - k.toNat) from by omega,← List.drop_drop] at this
          exact List.mem_of_mem_drop this)
        dsimp only
        rw [hw,ht]
        refine ⟨⟨rfl,rfl,by omega,by omega,?_,hap.skip,fun z hz'=>?_,by unfold min2;split<;>omega,fun x w1 w2=>?_⟩,by omega⟩
        · unfold RS min2 max2
          dsimp only
          split<;>split<;>omega
        · have w1:=hz z hz'
          have w2:=hap.lt z hz' e (by rw [jA he.2];simp)
          unfold lq min2 at *
          dsimp only
          split<;>omega
        · by_cases hx:r_.from_≤x∧x < r_.bU
          · exact hin x hx.1 hx.2
          · refine .inl ⟨e,he.1,?_⟩
            unfold min2 max2 at *
            constructor<;>(split at w1<;>split at w2<;>omega)
      · intro w hw
        dsimp only at hw ⊢
        rw [jA he.2] at hw
        have q:=hv.1 e he.1
        rcases List.mem_cons.1 hw with rfl | hw
        · unfold lq;omega
        · have:=hv.next he.2 w hw
          unfold lq RS at *;omega
    · intro w hw
      dsimp only at hw
      rw [List.drop_eq_nil_of_le (by omega)] at hw
      cases hw
  obtain ⟨l2,a2,k2,r2⟩:=y
  obtain ⟨f1,f2,f3,f4,f5,f6,f7,f8,f9⟩:=hy
  dsimp only at f1 f2 f3 f4 f5 f6 f7 f8 f9
  subst f1;subst f2
  dsimp only
  rw [Int.toNat_natCast,List.take_length,Int.toNat_natCast,List.take_length]
  have hG:SR (a2++[r2]++l2.drop k2.toNat):=by
    refine ⟨fun x hx=>?_,List.pairwise_append.2 ⟨List.pairwise_append.2 ⟨f6.sr.2,List.pairwise_singleton _ _,fun z hz p hp=>by rw [List.mem_singleton.1 hp];exact f7 z hz⟩,hv.2.sublist (List.drop_sublist _ _),fun z hz w hw=>?_⟩⟩
    · rcases List.mem_append.1 hx with hx | hx
      · exact ll f6.sr.1 f5 x hx
      · exact hv.1 x (List.mem_of_mem_drop hx)
    · rcases List.mem_append.1 hz with hz | hz
      · exact f6.lt z hz w hw
      · rw [List.mem_singleton.1 hz];exact f8 w hw
  have hL:=hG.len
  have hL2:=f6.sr.len
  rw [wT _ (by omega)]
  simp only [bG]
  repeat' first
    | refine al ?_
    | refine cw (by omega) ?_
    | refine cw (by simp only [List.length_append,List.length_cons,List.length_nil]<;>omega) ?_
    | refine dk (by simp only []<;>omega) ?_
    | refine aR ?_
  refine ⟨hG,fun x hx=>?_⟩
  rcases hx.dO with hx | hx
  · rcases hx.dO with hx | hx
    · exact .inl (hsb x hx)
    · exact f9 x (In.one.1 hx).1 (In.one.1 hx).2
  · exact .inl hx.drop
theorem OU (n:Int)(a l:List Range)(p q:Int)(ps:List Range)(hl:a.length≤1000000)(hp:ps.length≤2):vo n a l p q ps (ps.length:Int) 0=some (n,a++ps.filter (fun r=>decide (r.from_ < r.bU)),l,p,q,ps):=by
  refine jv ?_
  refine cQ (fun xx=>xx.1=n∧xx.2.2.1=l∧xx.2.2.2.1=p∧xx.2.2.2.2.1=q∧xx.2.2.2.2.2.1=ps∧xx.2.2.2.2.2.2.1=(ps.length:Int)∧0≤xx.2.2.2.2.2.2.2∧xx.2.2.2.2.2.2.2≤(ps.length:Int)∧xx.2.1++(ps.drop xx.2.2.2.2.2.2.2.toNat).filter (fun r=>decide (r.from_ < r.bU))=a++ps.filter (fun r=>decide (r.from_ < r.bU))∧(xx.2.1.length:Int)≤a.length+xx.2.2.2.2.2.2.2) (fun xx=>((ps.length:Int) - xx.2.2.2.2.2.2.2).toNat) ?_ _ _ ⟨rfl,rfl,rfl,rfl,rfl,rfl,by dsimp only;omega,by dsimp only;omega,rfl,by dsimp only;omega⟩ (by dsimp only;omega)
  rintro ⟨n_,a_,l_,p_,q_,s_,m_,k_⟩ ⟨h1,h2,h3,h4,h5,h6,h7,h8,h9,h10⟩
  dsimp only at h1 h2 h3 h4 h5 h6 h7 h8 h9 h10
  subst h1;subst h2;subst h3;subst h4;subst h5;subst h6
  unfold zS Fy
  dsimp only
  have hw:aF (k_+1)=k_+1:=bF (by omega)
  have ht:(k_+1).toNat=k_.toNat+1:=by omega
  refine az (fun hi=>?_) (fun hi=>dg ?_)
  · refine al (al (bw fun e he=>?_))
    rw [jA he.2] at h9
    refine az (fun hc=>cw (by simp only [List.length_append,List.length_cons,List.length_nil]<;>omega) (cF ?_)) (fun hc=>cF ?_)
    · rw [List.filter_cons_of_pos (by simpa using hc)] at h9
      dsimp only
      rw [hw,ht,List.append_assoc]
      exact ⟨⟨rfl,rfl,rfl,rfl,rfl,rfl,by omega,by omega,h9,by simp only [List.length_append,List.length_cons,List.length_nil]<;>omega⟩,by omega⟩
    · rw [List.filter_cons_of_neg (by simpa using hc)] at h9
      dsimp only
      rw [hw,ht]
      exact ⟨⟨rfl,rfl,rfl,rfl,rfl,rfl,by omega,by omega,h9,by omega⟩,by omega⟩
  · rw [List.drop_eq_nil_of_le (by omega)] at h9
    rw [← h9]
    simp
theorem aF8 (l:List Range)(n:Int)(hv:SR l):Ok (uT l n) (fun y=>if y.2=true then SR y.1∧Sb y.1 l∧¬ In y.1 n else ¬ In l n):=by
  have hll:=hv.len
  unfold uT
  refine aT (RK l n (by omega)) fun b hb=>bo (fun hc=>aR (by cases b<;>simp at hc hb ⊢;exact hb)) fun _=>?_
  refine aT (P:=fun y=>SR y∧Sb y l∧¬ In y n) ?_ fun y hy=>by rw [wT y (by have:=hy.1.len;omega),bG];exact aR (by simpa using hy)
  refine cQ (fun xx=>xx.2.2.1=l∧xx.1=n∧xx.2.2.2.1=(l.length:Int)∧0≤xx.2.2.2.2∧xx.2.2.2.2≤(l.length:Int)∧AP xx.2.1 l xx.2.2.2.2.toNat∧Sb xx.2.1 l∧¬ In xx.2.1 n) (fun xx=>((l.length:Int) - xx.2.2.2.2).toNat) ?_ _ _ ⟨rfl,rfl,rfl,by dsimp only;omega,by dsimp only;omega,.nil,.nil,In.nil⟩ (by dsimp only;omega)
  rintro ⟨n_,a_,l_,m_,k_⟩ ⟨h1,h2,h3,h4,h5,h6,h7,h8⟩
  dsimp only at h1 h2 h3 h4 h5 h6 h7 h8
  subst h1;subst h2;subst h3
  unfold AV Gu
  dsimp only
  have hw:aF (k_+1)=k_+1:=bF (by omega)
  have ht:(k_+1).toNat=k_.toNat+1:=by omega
  have hL:=h6.sr.len
  refine az (fun hi=>?_) (fun hi=>dg ⟨h6.sr,h7,h8⟩)
  refine al (bw fun e he=>?_)
  obtain ⟨e1,e2,e3⟩:=hv.1 e he.1
  refine bo (fun hc=>?_) (fun hc=>?_)
  · have hin:e.from_≤n_∧n_ < e.bU:=by
      by_cases h:n_≥e.from_
      · rw [decide_eq_true h] at hc;exact ⟨h,of_decide_eq_true hc⟩
      · rw [decide_eq_false h] at hc;cases hc
    have hwn:aF (n_+1)=n_+1:=bF (by omega)
    rw [OU _ _ _ _ _ [Range.mk e.from_ n_,Range.mk (aF (n_+1)) e.bU] (by omega) (by simp),bG]
    refine cF ?_
    dsimp only
    rw [hw,ht,hwn]
    have hps:∀ p∈[Range.mk e.from_ n_,Range.mk (n_+1) e.bU],e.from_≤p.from_∧p.bU≤e.bU∧¬ (p.from_≤n_∧n_ < p.bU):=fun p hp=>by
      rcases List.mem_cons.1 hp with rfl | hp
      · dsimp only;omega
      · have:=List.mem_singleton.1 hp;subst this;dsimp only;omega
    refine ⟨⟨rfl,rfl,rfl,by omega,by omega,h6.EP hv he.2 (fun p hp=>?_) (List.Pairwise.filter _ ?_),h7.dO fun x hx=>?_,fun hx=>?_⟩,by omega⟩
    · obtain ⟨p1,p2⟩:=List.mem_filter.1 hp
      have p2:=of_decide_eq_true p2
      rcases List.mem_cons.1 p1 with rfl | p1
      · dsimp only at *;omega
      · have:=List.mem_singleton.1 p1;subst this;dsimp only at *;omega
    · refine List.pairwise_cons.2 ⟨fun q hq=>?_,List.pairwise_singleton _ _⟩
      rw [List.mem_singleton.1 hq];unfold lq;dsimp only;omega
    · obtain ⟨p,hp,w1,w2⟩:=hx
      have:=hps p (List.mem_filter.1 hp).1
      exact ⟨e,he.1,by omega,by omega⟩
    · rcases hx.dO with hx | ⟨p,hp,w1,w2⟩
      · exact h8 hx
      · exact (hps p (List.mem_filter.1 hp).1).2.2 ⟨w1,w2⟩
  · have hno:¬ (e.from_≤n_∧n_ < e.bU):=fun h=>by rw [decide_eq_true h.1,decide_eq_true h.2] at hc;cases hc
    rw [OU _ _ _ _ _ [e] (by omega) (by simp),bG]
    refine cF ?_
    dsimp only
    rw [hw,ht]
    refine ⟨⟨rfl,rfl,rfl,by omega,by omega,h6.EP hv he.2 (fun p hp=>?_) (List.Pairwise.filter _ (List.pairwise_singleton _ _)),h7.dO fun x hx=>?_,fun hx=>?_⟩,by omega⟩
    · obtain ⟨p1,p2⟩:=List.mem_filter.1 hp
      rw [List.mem_singleton.1 p1];omega
    · obtain ⟨p,hp,w⟩:=hx
      have:=List.mem_singleton.1 (List.mem_filter.1 hp).1;subst this
      exact ⟨p,he.1,w⟩
    · rcases hx.dO with hx | ⟨p,hp,w⟩
      · exact h8 hx
      · have:=List.mem_singleton.1 (List.mem_filter.1 hp).1;subst this
        exact hno w
theorem aF3 (a b:Int):ub a b=some (decide (a < b)):=by
  unfold ub lX
  rw [bG,bne_self_eq_false]
  rfl
theorem aJC (a b:Int)(h1:0≤a)(h2:a < b)(h3:b≤1000000):aF (IntKind.u64.wrap (aF (a+b)) / 2)=(a+b) / 2:=by
  rw [bF (n:=a+b) (by omega),show IntKind.u64.wrap (a+b)=a+b from by unfold IntKind.wrap;simp [IntKind.bits,IntKind.signed];omega,bF (by omega)]
theorem TC (l:List Int)(n:Int)(hl:l.length≤1000000)(hs:l.Pairwise (· < ·)):Ok (pM l n) (fun y=>0≤y.1∧y.1≤(l.length:Int)∧if y.2=true then n∈l else (∀ x∈l.take y.1.toNat,x < n)∧∀ x∈l.drop y.1.toNat,n < x):=by
  have hlt:∀ (i j:Nat) a b,l[i]?=some a→l[j]?=some b→i < j→a < b:=fun i j a b ha hb hij=>by
    obtain ⟨h1,h2⟩:=List.getElem?_eq_some_iff.1 ha
    obtain ⟨h3,h4⟩:=List.getElem?_eq_some_iff.1 hb
    rw [← h2,← h4]
    exact List.pairwise_iff_getElem.1 hs i j h1 h3 hij
  unfold pM
  refine aT (P:=fun y=>y.1=l∧y.2.1=n∧y.2.2.1=(l.length:Int)∧0≤y.2.2.2∧y.2.2.2≤(l.length:Int)∧(∀ (j:Nat) x,(j:Int) < y.2.2.2→l[j]?=some x→x < n)∧∀ (j:Nat) x,y.2.2.2≤(j:Int)→l[j]?=some x→n≤x) ?_ fun y hy=>?_
  · refine cQ (fun xx=>xx.1=l∧xx.2.1=n∧xx.2.2.1=(l.length:Int)∧0≤xx.2.2.2.1∧xx.2.2.2.1≤xx.2.2.2.2∧xx.2.2.2.2≤(l.length:Int)∧(∀ (j:Nat) x,(j:Int) < xx.2.2.2.1→l[j]?=some x→x < n)∧(∀ (j:Nat) x,xx.2.2.2.2≤(j:Int)→l[j]?=some x→n≤x)) (fun xx=>(xx.2.2.2.2 - xx.2.2.2.1).toNat) ?_ _ _ ⟨rfl,rfl,rfl,by dsimp only;omega,by dsimp only;omega,by dsimp only;omega,(fun j x h=>by dsimp only at h;omega),(fun j x h h2=>by dsimp only at h;have:=(List.getElem?_eq_some_iff.1 h2).1;omega)⟩ (by dsimp only;omega)
    rintro ⟨l_,a_,n_,i_,j_⟩ ⟨h1,h2,h3,h4,h5,h6,h7,h8⟩
    dsimp only at h1 h2 h3 h4 h5 h6 h7 h8
    subst h1;subst h2;subst h3
    unfold Ag H4
    dsimp only
    refine az (fun hi=>?_) (fun hi=>dg ⟨rfl,rfl,rfl,h4,by dsimp only;omega,h7,fun j x hj hx=>h8 j x (by dsimp only at hj;omega) hx⟩)
    rw [aJC i_ j_ h4 hi (by omega)]
    have hw:aF ((i_+j_) / 2+1)=(i_+j_) / 2+1:=bF (by omega)
    refine al (bw fun e he=>?_)
    rw [aF3,bG]
    refine cF ?_
    dsimp only
    by_cases hc:e < a_
    · rw [decide_eq_true hc];simp only [cond_true]
      refine ⟨⟨trivial,trivial,trivial,by omega,by omega,by omega,fun j x hj hx=>?_,h8⟩,by omega⟩
      by_cases hj2:j=((i_+j_) / 2).toNat
      · subst hj2;rw [he.2] at hx;cases hx;exact hc
      · have:=hlt _ _ _ _ hx he.2 (by omega);omega
    · rw [decide_eq_false hc];simp only [cond_false]
      refine ⟨⟨trivial,trivial,trivial,by omega,by omega,by omega,h7,fun j x hj hx=>?_⟩,by omega⟩
      by_cases hj2:j=((i_+j_) / 2).toNat
      · subst hj2;rw [he.2] at hx;cases hx;omega
      · have:=hlt _ _ _ _ he.2 hx (by omega);omega
  · obtain ⟨l',a,m,k⟩:=y
    obtain ⟨h1,h2,h3,h4,h5,h6,h7⟩:=hy
    dsimp only at h1 h2 h3 h4 h5 h6 h7
    subst h1;subst h2;subst h3
    dsimp only
    have ht:∀ x∈l'.take k.toNat,x < a:=fun x hx=>by
      obtain ⟨j,hj,rfl⟩:=List.getElem_of_mem hx
      rw [List.length_take] at hj
      rw [List.getElem_take]
      exact h6 j _ (by omega) (List.getElem?_eq_getElem (by omega))
    refine az (fun hk=>?_) (fun hk=>aR ⟨h4,h5,?_⟩)
    · refine dk h4 (bw fun e he=>de (fun heq=>aR ⟨h4,h5,by simpa [← heq] using he.1⟩) (fun hne=>dk h4 (bw fun e2 _=>?_)))
      have hd:∀ x∈l'.drop k.toNat,a < x:=fun x hx=>by
        have h0:=h7 k.toNat e (by omega) he.2
        rw [jA he.2] at hx
        rcases List.mem_cons.1 hx with rfl | hx
        · omega
        · obtain ⟨j,hj,rfl⟩:=List.getElem_of_mem hx
          rw [List.length_drop] at hj
          rw [List.getElem_drop]
          have:=hlt _ _ _ _ he.2 (List.getElem?_eq_getElem (l:=l') (i:=k.toNat+1+j) (by omega)) (by omega)
          omega
      simp only [tJ,bG,bne_self_eq_false,cond_false]
      exact aR ⟨h4,h5,by simpa using ⟨ht,hd⟩⟩
    · have:l'.drop k.toNat=[]:=List.drop_eq_nil_of_le (by omega)
      simp only [this]
      simpa using ht
structure WG (b:aG) (l:aH) (w:Want) (b':aG) (l':aH):Prop where
  ls:b'.aK=b.aK
  bd:b'.bB=b.bB
  cn:gj b'.af
  fr:SR b'.free
  id:SR l'.ids
  sl:w.key=cr∧l'.aW=l.aW∨w.key≠cr∧∃ s,l'.aW=l.aW++[s]∧s.key=w.key∧sx s
  us:l'.used=l.used
  dv:l'.device=l.device
  fs:Sb b'.free b.free
  is_:∀ x,In l'.ids x→In l.ids x∨In b.free x
  dj:Dj b.free l.ids→Dj b'.free l'.ids
  rt:∀ d k,sm (cv d k) b'.af+sm (sv d k) l'.aW=sm (cv d k) b.af+sm (sv d k) l.aW
theorem PP {l:List bP}{i:Nat}{c:bP}(h:gj l)(hc:l[i]?=some c){u v:Int}(h1:0≤u∧u≤30)(h2:0≤v∧v≤30):gj (l.set i (bP.mk c.key c.bc c.lo c.hi c.start u v)):=by
  refine ⟨?_,fun x hx=>?_⟩
  · rw [List.map_set,← h.1]
    exact qA (by rw [List.getElem?_map,hc];rfl)
  · rcases List.mem_or_eq_of_mem_set hx with hx | hx
    · exact h.2 x hx
    · rw [hx];exact ⟨h1.1,h2.1,h1.2,h2.2⟩
theorem aFI (r:Int)(t:List Range)(b:aG)(l:aH)(w:Want)(ht:SR t)(hi:SR l.ids) :
    Ok (wD r t (t.length:Int) 0 b l w) (fun y=>y.1=r∧y.2.1=b∧y.2.2.2=w∧SR y.2.2.1.ids∧y.2.2.1.aW=l.aW∧y.2.2.1.used=l.used∧y.2.2.1.device=l.device∧∀ x,In y.2.2.1.ids x→In l.ids x∨In t x):=by
  have htl:=ht.len
  refine cQ (fun xx=>xx.1=r∧xx.2.1=t∧xx.2.2.1=(t.length:Int)∧xx.2.2.2.2.1=b∧xx.2.2.2.2.2.2=w∧0≤xx.2.2.2.1∧xx.2.2.2.1≤(t.length:Int)∧SR xx.2.2.2.2.2.1.ids∧xx.2.2.2.2.2.1.aW=l.aW∧xx.2.2.2.2.2.1.used=l.used∧xx.2.2.2.2.2.1.device=l.device∧(∀ x,In xx.2.2.2.2.2.1.ids x→In l.ids x∨In t x)) (fun xx=>((t.length:Int) - xx.2.2.2.1).toNat) ?_ _ _ ⟨rfl,rfl,rfl,rfl,rfl,by dsimp only;omega,by dsimp only;omega,hi,rfl,rfl,rfl,(fun x h=>.inl h)⟩ (by dsimp only;omega)
  rintro ⟨r_,l_,n_,k_,b_,x_,w_⟩ ⟨h1,h2,h3,h4,h5,h6,h7,h8,h9,h10,h11,h12⟩
  dsimp only at h1 h2 h3 h4 h5 h6 h7 h8 h9 h10 h11 h12
  subst h1;subst h2;subst h3;subst h4;subst h5
  unfold zM Fo
  dsimp only
  have hw:aF (k_+1)=k_+1:=bF (by omega)
  refine az (fun hi=>?_) (fun hi=>dg ⟨rfl,rfl,rfl,h8,h9,h10,h11,h12⟩)
  refine al (bw fun e he=>aT (SH x_.ids e h8 (ht.1 e he.1)) fun y hy=>cF ?_)
  dsimp only
  exact ⟨⟨rfl,rfl,rfl,rfl,rfl,by omega,by omega,hy.1,h9,h10,h11,fun x hx=>(hy.2 x hx).elim (h12 x) fun h=>.inr ⟨e,he.1,h⟩⟩,by omega⟩
theorem aFQ (b:aG)(l:aH)(w:Want)(hcn:gj b.af)(hf:SR b.free)(hi:SR l.ids)(hsl:l.aW.length≤1000) :
    Ok (l8 w b l) (fun y=>y.1=0→WG b l w y.2.1 y.2.2):=by
  have hcl:=hcn.len
  unfold l8
  refine aT (KY b w.key (by omega)) fun r0 hr=>aT (jr _ _ _) fun r1 h1=>bo (fun _=>aR (fun h=>by cases h)) fun k1=>aT (jr _ _ _) fun r2 h2=>bo (fun _=>aR (fun h=>by cases h)) fun k2=>aT (jr _ _ _) fun r3 h3=>bo (fun _=>aR (fun h=>by cases h)) fun h4=>?_
  have hids:=(h3 (by cases r3 with | true=>rfl | false=>cases h4)).2
  have hup:=h1 (by cases r1 with | true=>rfl | false=>cases k1)
  have hdn:=h2 (by cases r2 with | true=>rfl | false=>cases k2)
  refine bo (fun _=>aR (fun h=>by cases h)) fun hc=>bo (fun _=>aR (fun h=>by cases h)) fun _=>?_
  have hr0:(!cA w.key cr)=true→0≤r0∧r0 < (b.af.length:Int)∧∃ c,b.af[r0.toNat]?=some c∧c.key=w.key:=fun hk=>by
    rcases hr with ⟨hr,_⟩ | hr
    · rw [decide_eq_true hr,hk] at hc;cases hc
    · exact hr
  refine bo (fun hk=>dk (hr0 hk).1 (dk (hr0 hk).2.1 (aT (lz (by have:=hr0 hk;omega)) fun e4 he4=>az (fun _=>aR (fun h=>by cases h)) fun hu=>dk (hr0 hk).1 (dk (hr0 hk).2.1 (aT (lz (by have:=hr0 hk;omega)) fun e5 he5=>az (fun _=>aR (fun h=>by cases h)) fun hd=>?_))))) (fun hk=>?_)
  case' refine_1 =>
    have hR:(!cA w.key cr)=true→0≤r0∧r0 < (b.af.length:Int)∧∃ c,b.af[r0.toNat]?=some c∧c.key=w.key∧w.bj≤c.bj∧w.cE≤c.cE:=fun _=>by
      obtain ⟨q1,q2,c,q3,q4⟩:=hr0 hk
      have:=q3.symm.trans he4.2;cases this
      have:=q3.symm.trans he5.2;cases this
      exact ⟨q1,q2,_,q3,q4,by omega,by omega⟩
  case' refine_2 =>
    have hR:(!cA w.key cr)=true→0≤r0∧r0 < (b.af.length:Int)∧∃ c,b.af[r0.toNat]?=some c∧c.key=w.key∧w.bj≤c.bj∧w.cE≤c.cE:=fun h=>by rw [hk] at h;cases h
  all_goals
    refine aT (aF7 b.free w.ids hf (by omega)) fun y hy=>fv (fun hne=>aR (fun h=>absurd h hne)) fun hz=>?_
    obtain ⟨t1,t2,t3,t4,t5⟩:=hy hz
    refine aT (aFI r0 y.1 _ l w t1 hi) fun z hz=>?_
    obtain ⟨z1,z2,z3,z4⟩:=z
    obtain ⟨q1,q2,q3,q4,q5,q6,q7,q8⟩:=hz
    dsimp only at q1 q2 q3 q4 q5 q6 q7 q8
    subst q1;subst q2;subst q3
    dsimp only
    have hin:∀ x,In z3.ids x→In l.ids x∨In b.free x:=fun x hx=>(q8 x hx).imp id (t3 x)
    have hdj:Dj b.free l.ids→Dj y.2.1 z3.ids:=fun h x w1 w2=>by
      rcases q8 x w2 with w2 | w2
      · exact h x (t4 x w1) w2
      · exact t5 x w2 w1
    refine bo (fun hk2=>?_) (fun hk2=>aR fun _=>⟨rfl,rfl,hcn,t2,q4,.inl ⟨mh.1 (by simpa using hk2),q5⟩,q6,q7,t4,hin,hdj,fun d k=>by dsimp only;rw [q5]⟩)
    obtain ⟨i1,i2,c,c1,c2,c3,c4⟩:=hR hk2
    have hs5:z3.aW.length=l.aW.length:=by rw [q5]
    obtain ⟨p1,p2,p3,p4⟩:=hcn.2 c (List.mem_of_getElem? c1)
    have hi0:z1.toNat < b.af.length:=by omega
    have w1:aF (c.bj - z4.bj)=c.bj - z4.bj:=bF (by omega)
    have w2:aF (c.cE - z4.cE)=c.cE - z4.cE:=bF (by omega)
    rw [c1]
    simp only [bG,w1,List.getElem?_set_self hi0,w2,List.set_set]
    repeat' first
      | refine al ?_
      | refine cw (by simp only [List.length_append,List.length_cons,List.length_nil]<;>omega) ?_
      | refine dk (by simp only [List.length_set]<;>omega) ?_
      | refine aR ?_
    refine fun _=>⟨rfl,rfl,PP hcn c1 (by omega) (by omega),t2,q4,.inr ⟨(fun h=>by rw [mh.2 h] at hk2;cases hk2),Slice.mk z4.key z4.bj z4.cE 0 0,by dsimp only;rw [q5],rfl,by unfold sx;dsimp only;omega⟩,q6,q7,t4,hin,hdj,fun d k=>?_⟩
    dsimp only
    rw [oM _ c1,q5,lE]
    simp only [sm,cv,sv,c2]
    cases cA z4.key k<;>cases d<;>simp only [cond_true,cond_false]<;>omega
def lU (w:List Want):Prop:=w.length≤3∧w.map (·.key)=[cV,cX,cr].take w.length
theorem lU.at {w:List Want}(h:lU w){k:Nat}{x:Want}(hx:w[k]?=some x):[cV,cX,cr][k]?=some x.key:=by
  have h1:=(List.getElem?_eq_some_iff.1 hx).1
  have h2:(w.map (·.key))[k]?=some x.key:=by rw [List.getElem?_map,hx];rfl
  rw [h.2,List.getElem?_take,if_pos h1] at h2
  exact h2
theorem aFF {U B:Nat}(b:aG)(v e u:Int)(w:List Want)(h:ef U B b)(hU:U≤100000)(hB:B≤1000000)(hn:b.aK.length≤900)(hw:lU w) :
    Ok (tm b v e u w) (fun y=>y.2.2=0→ef U B y.1∧y.1.aK.length=b.aK.length+1∧jL 0 y.2.1∧(∀ d k,Rt d k y.1=Rt d k b)∧∀ n,BS b n→BS y.1 n):=by
  have hown:=qo b (h.f hU hB)
  have hwl:=hw.1
  unfold tm
  simp only [hown,bG]
  refine aT (jr _ _ _) fun r1 h1=>bo (fun _=>aR (fun h=>by cases h)) fun hc1=>aT (jr _ _ _) fun r2 _=>bo (fun _=>aR (fun h=>by cases h)) fun _=>aT (jr _ _ _) fun r3 _=>bo (fun _=>aR (fun h=>by cases h)) fun _=>?_
  have hv:=h1 (by cases r1 with | true=>rfl | false=>cases hc1)
  clear h1
  have hs:Ok (Ak b.aK 0 (b.aK.length:Int) 0 v) (dP (fun a=>a.2=v∧∀ l∈b.aK,l.device≠v) (fun c=>0≤c.1)):=by
    refine cQ (fun xx=>xx.1=b.aK∧xx.2.2.1=(b.aK.length:Int)∧xx.2.2.2.2=v∧0≤xx.2.2.2.1∧xx.2.2.2.1≤(b.aK.length:Int)∧(∀ l∈b.aK.take xx.2.2.2.1.toNat,l.device≠v)) (fun xx=>((b.aK.length:Int) - xx.2.2.2.1).toNat) ?_ _ _ ⟨rfl,rfl,rfl,by dsimp only;omega,by dsimp only;omega,by simp⟩ (by dsimp only;omega)
    rintro ⟨l_,a_,n_,k_,v_⟩ ⟨h1,h2,h3,h4,h5,h6⟩
    dsimp only at h1 h2 h3 h4 h5 h6
    subst h1;subst h2;subst h3
    unfold yk Er
    dsimp only
    refine az (fun hi=>?_) (fun _=>dW ⟨rfl,by rwa [List.take_of_length_le (by omega)] at h6⟩)
    have hw:aF (k_+1)=k_+1:=bF (by omega)
    refine al (bw fun e he=>de (fun _=>ez h4) (fun hne=>cF ?_))
    dsimp only
    refine ⟨⟨rfl,rfl,rfl,by omega,by omega,?_⟩,by omega⟩
    rw [hw,show (k_+1).toNat=k_.toNat+1 from by omega]
    exact qO h6 he.2 hne
  refine aT hs fun y hy=>eG hy (fun a ha=>?_) (fun c hc=>az (fun _=>aR (fun h=>by cases h)) fun hn=>absurd hc hn)
  obtain ⟨ha,hnv⟩:=ha
  rw [ha]
  have hloop:Ok (wN w 0 w (w.length:Int) 0 b v (aG.mk [] [] [] []) (aH.mk 0 0 0 0 [] [] []) b (aH.mk v e u (-1) [] [] []))
      (dP (fun a=>a.2.2.1=v∧a.2.2.2.2.2.1.aK=b.aK∧a.2.2.2.2.2.1.bB=b.bB∧gj a.2.2.2.2.2.1.af∧SR a.2.2.2.2.2.1.free∧SR a.2.2.2.2.2.2.ids∧SL a.2.2.2.2.2.2.aW∧a.2.2.2.2.2.2.used=[]∧a.2.2.2.2.2.2.device=v∧Sb a.2.2.2.2.2.1.free b.free∧Sb a.2.2.2.2.2.2.ids b.free∧Dj a.2.2.2.2.2.1.free a.2.2.2.2.2.2.ids∧∀ d k,sm (cv d k) a.2.2.2.2.2.1.af+sm (sv d k) a.2.2.2.2.2.2.aW=sm (cv d k) b.af) (fun c=>c.1≠0)):=by
    refine cQ (fun xx=>xx.1=w∧xx.2.2.1=w∧xx.2.2.2.1=(w.length:Int)∧xx.2.2.2.2.2.1=b∧xx.2.2.2.2.2.2.1=v∧0≤xx.2.2.2.2.1∧xx.2.2.2.2.1≤(w.length:Int)∧xx.2.2.2.2.2.2.2.2.2.1.aK=b.aK∧xx.2.2.2.2.2.2.2.2.2.1.bB=b.bB∧gj xx.2.2.2.2.2.2.2.2.2.1.af∧SR xx.2.2.2.2.2.2.2.2.2.1.free∧SR xx.2.2.2.2.2.2.2.2.2.2.ids∧(SL xx.2.2.2.2.2.2.2.2.2.2.aW∧(xx.2.2.2.2.2.2.2.2.2.2.aW.length:Int)=min xx.2.2.2.2.1 2)∧xx.2.2.2.2.2.2.2.2.2.2.used=[]∧xx.2.2.2.2.2.2.2.2.2.2.device=v∧Sb xx.2.2.2.2.2.2.2.2.2.1.free b.free∧Sb xx.2.2.2.2.2.2.2.2.2.2.ids b.free∧Dj xx.2.2.2.2.2.2.2.2.2.1.free xx.2.2.2.2.2.2.2.2.2.2.ids∧(∀ d k,sm (cv d k) xx.2.2.2.2.2.2.2.2.2.1.af+sm (sv d k) xx.2.2.2.2.2.2.2.2.2.2.aW=sm (cv d k) b.af)) (fun xx=>((w.length:Int) - xx.2.2.2.2.1).toNat) ?_ _ _ ⟨rfl,rfl,rfl,rfl,rfl,by dsimp only;omega,by dsimp only;omega,rfl,rfl,h.cn,h.free,C0,⟨⟨rfl,by simp⟩,rfl⟩,rfl,rfl,(fun x h=>h),.nil,(fun x _ h=>h.nil),(fun d k=>Int.add_zero _)⟩ (by dsimp only;omega)
    rintro ⟨l_,p_,m_,n_,k_,b_,v_,c_,x_,d_,y_⟩ ⟨h1,h2,h3,h4,h5,h6,h7,h8,h9,h10,h11,h12,h13,h14,h15,h16,h17,h18,h19⟩
    dsimp only at h1 h2 h3 h4 h5 h6 h7 h8 h9 h10 h11 h12 h13 h14 h15 h16 h17 h18 h19
    subst h1;subst h2;subst h3;subst h4;subst h5
    unfold AU Hd
    dsimp only
    refine az (fun hi=>?_) (fun hi=>dW ⟨rfl,h8,h9,h10,h11,h12,h13.1,h14,h15,h16,h17,h18,h19⟩)
    have hwk:aF (k_+1)=k_+1:=bF (by omega)
    simp only [hown,bG]
    refine al (bw fun x hx=>?_)
    have hs2:∀ l:List Want,l.length≤1000→Ok (Cy l 0 (l.length:Int) 0 x) (dP (fun a=>a.2=x) (fun c=>0≤c.1)):=by
      intro l hl
      refine cQ (fun xx=>xx.1=l∧xx.2.2.1=(l.length:Int)∧xx.2.2.2.2=x∧0≤xx.2.2.2.1∧xx.2.2.2.1≤(l.length:Int)) (fun xx=>((l.length:Int) - xx.2.2.2.1).toNat) ?_ _ _ ⟨rfl,rfl,rfl,by dsimp only;omega,by dsimp only;omega⟩ (by dsimp only;omega)
      rintro ⟨l_,a_,n_,k_,x_⟩ ⟨h1,h2,h3,h4,h5⟩
      dsimp only at h1 h2 h3 h4 h5
      subst h1;subst h2;subst h3
      unfold Af G9
      dsimp only
      refine az (fun hi=>?_) (fun _=>dW rfl)
      have hw:aF (k_+1)=k_+1:=bF (by omega)
      repeat' first
        | refine al ?_
        | refine bw fun e he=>?_
        | refine bo (fun hc=>?_) (fun hc=>?_)
        | refine cF ?_
        | refine ez ?_
      · dsimp only;assumption
      · dsimp only;exact ⟨⟨rfl,rfl,rfl,by omega,by omega⟩,by omega⟩
    obtain ⟨hsl,hsn⟩:=h13
    have hky:=hw.at hx.2
    have hfin:∀ b' l',WG d_ y_ x b' l'→SL l'.aW∧(l'.aW.length:Int)=min (k_+1) 2:=fun b' l' g=>by
      rcases g.sl with ⟨g1,g2⟩ | ⟨g1,s,g2,g3,g4⟩
      · rw [g2]
        refine ⟨hsl,?_⟩
        by_cases h2:k_ < 2
        · exfalso
          rw [g1] at hky
          have:k_.toNat=0∨k_.toNat=1:=by omega
          rcases this with h | h<;>rw [h] at hky<;>revert hky<;>decide
        · omega
      · have h2:k_ < 2:=by
          apply Decidable.byContradiction
          intro hh
          have:k_.toNat=2:=by omega
          rw [this] at hky
          have hky:cr=x.key:=Option.some.inj hky
          exact g1 hky.symm
        rw [g2]
        refine ⟨⟨?_,ll hsl.2 g4⟩,by rw [List.length_append,List.length_singleton];omega⟩
        have hsk:y_.aW.length=k_.toNat:=by omega
        rw [List.map_append,hsl.1,List.length_append,hsk,List.map_singleton,List.length_singleton,g3]
        have:k_.toNat=0∨k_.toNat=1:=by omega
        rcases this with h | h<;>rw [h] at hky ⊢
        · have hky:cV=x.key:=Option.some.inj hky
          rw [← hky];rfl
        · have hky:cX=x.key:=Option.some.inj hky
          rw [← hky];rfl
    refine aT (jr _ _ _) fun r1 _=>bo (fun _=>?_) fun _=>aT (jr _ _ _) fun r2 _=>bo (fun _=>?_) fun _=>aT (jr _ _ _) fun r3 _=>bo (fun _=>al (al (aT (hs2 (m_.take k_.toNat) (by simp only [List.length_take]<;>omega)) fun y hy=>eG hy (fun a ha=>?_) (fun c hc=>az (fun _=>ez (by simp)) fun hn=>absurd hc hn)))) (fun _=>?_)
    all_goals
      try rw [ha]
      refine aT (aFQ d_ y_ x h10 h11 h12 (by have:=hsl.len;omega)) fun y hy=>fv (fun hne=>ez hne) fun hz=>cF ?_
      have hg:=hy hz
      have hg2:=hfin _ _ hg
      obtain ⟨k1,k2,k3,k4,k5,k6,k7,k8,k9,k10,k11,k12⟩:=hg
      dsimp only
      exact ⟨⟨rfl,rfl,rfl,rfl,rfl,by omega,by omega,k1.trans h8,k2.trans h9,k3,k4,k5,by rw [hwk];exact hg2,k7.trans h14,k8.trans h15,fun x hx=>h16 x (k9 x hx),fun x hx=>(k10 x hx).elim (h17 x) (h16 x),k11 h18,fun d k=>(k12 d k).trans (h19 d k)⟩,by omega⟩
  refine aT hloop fun y hy=>eG hy (fun a ha=>?_) (fun c hc=>aR (fun hz=>absurd hz hc))
  obtain ⟨a1,a2,a3,a4,a5,bk,l⟩:=a
  obtain ⟨g4,g5,g6,g7,g8,g9,g10,g11,g12,g13,g14,g15,g16⟩:=ha
  dsimp only at g4 g5 g6 g7 g8 g9 g10 g11 g12 g13 g14 g15 g16
  dsimp only
  subst g4
  have hx:bk.aK.length≤900:=by rw [g5];exact hn
  have hloop2:Ok (vt 0 a3 a4 a5 bk l) (fun y=>0≤y.1∧y.1≤(bk.aK.length:Int)∧y.2.2.2.2.1=bk∧y.2.2.2.2.2=l∧(∀ l∈bk.aK.take y.1.toNat,l.device < a3)∧∀ l∈bk.aK.drop y.1.toNat,a3 < l.device):=by
    refine cQ (fun xx=>0≤xx.1∧xx.1≤(bk.aK.length:Int)∧xx.2.2.2.2.1=bk∧xx.2.2.2.2.2=l∧xx.2.1=a3∧(∀ l∈bk.aK.take xx.1.toNat,l.device < a3)) (fun xx=>((bk.aK.length:Int) - xx.1).toNat) ?_ _ _ ⟨by dsimp only;omega,by dsimp only;omega,rfl,rfl,rfl,by simp⟩ (by dsimp only;omega)
    rintro ⟨k_,v_,p_,q_,x_,l_⟩ ⟨h1,h2,h3,h4,h5,h6⟩
    dsimp only at h1 h2 h3 h4 h5 h6
    subst h3;subst h4;subst h5
    unfold zT GU
    dsimp only
    refine az (fun hi=>?_) (fun _=>dg ⟨h1,h2,rfl,rfl,h6,fun l hl=>by dsimp only at hl;rw [List.drop_eq_nil_of_le (by omega)] at hl;cases hl⟩)
    have hw:aF (k_+1)=k_+1:=bF (by omega)
    refine al (al (bw fun e he=>az (fun hlt=>cF ?_) (fun hge=>dg ⟨h1,h2,rfl,rfl,h6,fun l hl=>?_⟩)))
    · dsimp only
      refine ⟨⟨by omega,by omega,rfl,rfl,rfl,?_⟩,by omega⟩
      rw [hw,show (k_+1).toNat=k_.toNat+1 from by omega]
      exact qO h6 he.2 hlt
    · dsimp only at hl
      have hne:=hnv e (by rw [← g5];exact he.1)
      rw [jA he.2] at hl
      rcases List.mem_cons.1 hl with rfl | hl
      · omega
      · have hp:x_.aK.Pairwise (fun l m=>l.device < m.device):=by rw [g5];exact h.od
        have:=hp.sublist (List.drop_sublist k_.toNat x_.aK)
        rw [jA he.2] at this
        have:=(List.pairwise_cons.1 this).1 l hl
        omega
  refine aT hloop2 fun z hz=>?_
  obtain ⟨k,z2,z3,z4,z5,z6⟩:=z
  obtain ⟨f1,f2,f3,f4,f5,f6⟩:=hz
  dsimp only at f1 f2 f3 f4 f5 f6
  subst f3;subst f4
  dsimp only
  have hlease:jL 0 z6:=⟨g10,g9,by rw [g11];simp,by rw [g11];exact .nil,(by rw [g11];intro n hn;cases hn),by rw [g12];exact hv⟩
  rw [np z6 (hlease.f (by omega)),bG,List.take_length]
  have hlen:(z5.aK.take k.toNat++[z6]++z5.aK.drop k.toNat).length=b.aK.length+1:=by
    rw [List.length_append,List.length_append,List.length_take,List.length_drop,List.length_singleton,← g5];omega
  have hrt:∀ d k',Rt d k' (aG.mk z5.af z5.free (z5.aK.take k.toNat++[z6]++z5.aK.drop k.toNat) z5.bB)=Rt d k' b:=fun d k'=>by
    unfold Rt
    dsimp only
    have:=g16 d k'
    rw [P2,g5]
    show _+(_+sm (sv d k') z6.aW)=_
    omega
  have hbk:ef U B (aG.mk z5.af z5.free (z5.aK.take k.toNat++[z6]++z5.aK.drop k.toNat) z5.bB):=by
    have hm:∀ y,y∈z5.aK.take k.toNat++[z6]++z5.aK.drop k.toNat→y∈b.aK∨y=z6:=fun y hy=>by rw [← g5];exact vq.1 hy
    refine ⟨g7,g8,by dsimp only;omega,fun y hy=>?_,by dsimp only;rw [g6];exact h.bd,wM (by rw [g5];exact h.od) (fun y hy=>by rw [g12];exact f5 y hy) (fun y hy=>by rw [g12];exact f6 y hy),by dsimp only;rw [g6];exact h.bs,fun y hy x q1 q2=>?_,wM (by rw [g5];exact h.a2) (fun y hy x q1 q2=>?_) (fun y hy x q1 q2=>?_),fun n hn q=>?_,fun n hn y hy q=>?_,fun d k'=>by rw [hrt];exact h.rt d k'⟩
    · rcases hm y hy with hy | hy
      · exact h.ls y hy
      · rw [hy];exact hlease.mono (Nat.zero_le _)
    · rcases hm y hy with hy | hy
      · exact h.a1 y hy x (g13 x q1) q2
      · rw [hy] at q2;exact g15 x q1 q2
    · exact h.a1 y (by rw [← g5];exact List.mem_of_mem_take hy) x (g14 x q2) q1
    · exact h.a1 y (by rw [← g5];exact List.mem_of_mem_drop hy) x (g14 x q1) q2
    · dsimp only at hn q;rw [g6] at hn;exact h.a3 n hn (g13 n q)
    · dsimp only at hn;rw [g6] at hn
      rcases hm y hy with hy | hy
      · exact h.a4 n hn y hy q
      · rw [hy] at q;exact h.a3 n hn (g14 n q)
  rw [qo _ (hbk.f hU hB),bG]
  exact al (al (cw (by omega) (aR fun _=>⟨hbk,hlen,hlease,hrt,fun n hn=>by
    rcases hn with hn | ⟨l,hl,hn⟩
    · exact .inl (by dsimp only;rw [g6];exact hn)
    · exact .inr ⟨l,vq.2 (.inl (by rw [g5];exact hl)),hn⟩⟩)))
theorem mem_set {α:Type}{P:α→Prop}{l:List α}{k:Nat}{x:α}(h:∀ z∈l,P z)(hx:P x):∀ z∈l.set k x,P z:=by
  intro z hz
  rcases List.mem_or_eq_of_mem_set hz with hz | hz
  · exact h z hz
  · rw [hz];exact hx
theorem PJ {α:Type}{R:α→α→Prop}{l:List α}{i:Nat}{m x:α}(h:l.Pairwise R)(hm:l[i]?=some m)(h1:∀ y,R m y→R x y)(h2:∀ y,R y m→R y x):(l.set i x).Pairwise R:=by
  induction l generalizing i with
  | nil=>exact h
  | cons a r ih =>
    obtain ⟨p1,p2⟩:=List.pairwise_cons.1 h
    cases i with
    | zero =>
      simp at hm;subst hm
      exact List.pairwise_cons.2 ⟨fun y hy=>h1 y (p1 y hy),p2⟩
    | succ i =>
      simp at hm
      refine List.pairwise_cons.2 ⟨fun y hy=>?_,ih p2 hm⟩
      rcases List.mem_or_eq_of_mem_set hy with hy | hy
      · exact p1 y hy
      · rw [hy];exact h2 a (p1 m (List.mem_of_getElem? hm))
theorem aKW {α:Type}{R:α→α→Prop}{l:List α}{i:Nat}{m:α}(h:l.Pairwise R)(hm:l[i]?=some m):(∀ y∈l.take i,R y m)∧∀ y∈l.drop (i+1),R m y:=by
  have h3:=h
  rw [← List.take_append_drop i l,jA hm] at h3
  obtain ⟨p1,p2,p3⟩:=List.pairwise_append.1 h3
  exact ⟨fun y hy=>p3 y hy m (by simp),(List.pairwise_cons.1 p2).1⟩
def ov (d:Bool)(k:ByteArray)(o:Op):Int:=cond (o.kind == 4 && cA o.key k) (cond d (max o.n 0) (max (-o.n) 0)) 0
theorem qq (d:Bool)(k:ByteArray)(o:Op):0≤ov d k o:=by
  unfold ov
  cases o.kind == 4 && cA o.key k<;>cases d<;>simp only [cond_true,cond_false]<;>omega
structure SG (l:aH) (o:Op) (m:aH):Prop where
  dv:m.device=l.device
  ep:m.aA=l.aA
  ids:m.ids=l.ids
  sl:SL m.aW
  rt:∀ d k,lv d k m=lv d k l - ov d k o
  key:o.kind=4→o.key=cV∨o.key=cX
  ul:m.used.length≤l.used.length+1
  up:m.used.Pairwise (· < ·)
  um:∀ n,n∈m.used↔n∈l.used∨o.kind=5∧n=o.n
  am:o.kind=5→In l.ids o.n∧o.n ∉ l.used
theorem DS {d:Bool}{k:ByteArray}{o:Op}(h:o.kind≠4):ov d k o=0:=by
  unfold ov;rw [show (o.kind == 4)=false from beq_false_of_ne h,Bool.false_and];rfl
theorem aEt (l:aH)(o:Op)(h:kg l)(h2:l.used.length≤900000)(hk:SL l.aW)(hu:l.used.Pairwise (· < ·))(hn:o.kind=4 → -1099511627776≤o.n∧o.n≤1099511627776) :
    Ok (tj l o) (fun y=>y.2=0→SG l o y.1):=by
  have hl:=np l h
  obtain ⟨f1,f2,f3⟩:=h
  unfold tj
  simp only [hl,bG]
  refine de (fun k4=>?_) (fun k4=>de (fun k5=>?_) (fun k5=>aR (fun _=>⟨rfl,rfl,rfl,hk,fun d k=>by rw [DS k4];show lv d k l=lv d k l - 0;omega,fun h=>absurd h k4,Nat.le_succ _,hu,fun n=>⟨.inl,fun h=>h.elim id fun h=>absurd h.1 k5⟩,fun h=>absurd h k5⟩)))
  · have hn:=hn k4
    refine aT (P:=dP (fun _=>True) (fun c=>0≤c.1∧c.1 < (l.aW.length:Int)∧c.2.2=l.aW∧c.2.1=o∧∃ e,l.aW[c.1.toNat]?=some e∧e.key=o.key)) ?_ fun y hy=>eG hy (fun _ _=>aR (fun h=>by cases h)) (fun c hc=>?_)
    · refine cQ (fun xx=>xx.1=l.aW∧xx.2.2.1=(l.aW.length:Int)∧0≤xx.2.2.2.1∧xx.2.2.2.1≤(l.aW.length:Int)∧xx.2.2.2.2=o) (fun xx=>((l.aW.length:Int) - xx.2.2.2.1).toNat) ?_ _ _ ⟨rfl,rfl,by dsimp only;omega,by dsimp only;omega,rfl⟩ (by dsimp only;omega)
      rintro ⟨l_,a_,n_,k_,o_⟩ ⟨h1,h2,h3,h4,h5⟩
      dsimp only at h1 h2 h3 h4 h5
      subst h1;subst h2;subst h5
      unfold Ad Gz
      dsimp only
      refine az (fun hi=>?_) (fun _=>dW trivial)
      have hw:aF (k_+1)=k_+1:=bF (by omega)
      refine al (al (bw fun e he=>bo (fun hc=>ez ⟨h3,hi,rfl,rfl,e,he.2,mh.1 hc⟩) (fun _=>cF ?_)))
      dsimp only;exact ⟨⟨rfl,rfl,by omega,by omega,rfl⟩,by omega⟩
    · obtain ⟨i,o',s⟩:=c
      obtain ⟨c1,c2,c3,c4,e,c5,c6⟩:=hc
      dsimp only at c1 c2 c3 c4 c5
      subst c3;subst c4
      have hes:=hk.2 e (List.mem_of_getElem? c5)
      obtain ⟨e1,e2,e3,e4,e5,e6⟩:=hes
      have hi0:i.toNat < l.aW.length:=by omega
      have w1:aF (e.bj - e.dy)=e.bj - e.dy:=bF (by omega)
      have w2:aF (e.cE - e.eO)=e.cE - e.eO:=bF (by omega)
      have w3:aF (0 - o'.n) = - o'.n:=by rw [bF (by omega)];omega
      have m1:max2 o'.n 0=max o'.n 0:=by unfold max2;split<;>omega
      have m2:max2 (-o'.n) 0=max (-o'.n) 0:=by unfold max2;split<;>omega
      dsimp only
      rw [c5]
      simp only [bG,w1,w2,w3,m1,m2,List.getElem?_set_self hi0,List.set_set]
      refine az (fun h=>absurd c1 (by omega)) fun _=>al (al (az (fun _=>aR (fun h=>by cases h)) fun q1=>az (fun _=>aR (fun h=>by cases h)) fun q2=>?_))
      have w4:aF (e.dy+max o'.n 0)=e.dy+max o'.n 0:=bF (by omega)
      have w5:aF (e.eO+max (-o'.n) 0)=e.eO+max (-o'.n) 0:=bF (by omega)
      rw [w4,w5,np (aH.mk l.device l.aA l.bN l.last (l.aW.set i.toNat (Slice.mk e.key e.bj e.cE (e.dy+max o'.n 0) (e.eO+max (-o'.n) 0))) l.ids l.used) ⟨by dsimp only;simp only [List.length_set];exact f1,f2,f3⟩,bG]
      refine aR fun _=>⟨rfl,rfl,rfl,⟨?_,fun x hx=>?_⟩,fun d k=>?_,fun _=>by rw [← c6];exact hk.key e (List.mem_of_getElem? c5),Nat.le_succ _,hu,fun n=>⟨.inl,fun h=>h.elim id fun h=>by rw [k4] at h;exact absurd h.1 (by decide)⟩,fun h=>by rw [k4] at h;exact absurd h (by decide)⟩
      · dsimp only
        rw [List.length_set,← hk.1,List.map_set]
        exact qA (by rw [List.getElem?_map,c5];rfl)
      · rcases List.mem_or_eq_of_mem_set hx with hx | hx
        · exact hk.2 x hx
        · rw [hx];unfold sx;dsimp only;omega
      · unfold lv ov
        dsimp only
        rw [oM _ c5,k4,show ((4:Int) == 4)=true from rfl,Bool.true_and]
        unfold sv
        dsimp only
        rw [c6]
        cases cA o'.key k<;>cases d<;>simp only [cond_true,cond_false]<;>omega
  · refine aT (RK _ _ f2) fun b hb=>bo (fun _=>aR (fun h=>by cases h)) fun hc=>aT (TC _ _ f3 hu) fun r hr=>bo (fun _=>aR (fun h=>by cases h)) fun hf=>?_
    obtain ⟨r1,r2,r3⟩:=hr
    rw [if_neg (by rw [hf];decide)] at r3
    have hlen:(l.used.take r.1.toNat++[o.n]++(l.used.take l.used.length).drop r.1.toNat).length=l.used.length+1:=by
      rw [List.take_length];simp only [List.length_append,List.length_cons,List.length_nil,List.length_take,List.length_drop]<;>omega
    rw [List.take_length] at hlen ⊢
    rw [np (aH.mk l.device l.aA l.bN l.last l.aW l.ids (l.used.take r.1.toNat++[o.n]++l.used.drop r.1.toNat)) ⟨f1,f2,by dsimp only;omega⟩,bG]
    have hin:In l.ids o.n:=by cases b<;>simp at hb hc;exact hb
    refine dk r1 (dk r2 (cw (by omega) (aR fun _=>⟨rfl,rfl,rfl,hk,fun d k=>by rw [DS k4];show lv d k l=lv d k l - 0;omega,fun h=>absurd h k4,by dsimp only;omega,wM hu r3.1 r3.2,fun n=>?_,fun _=>⟨hin,fun hm=>?_⟩⟩)))
    · rw [vq];exact ⟨fun h=>h.imp id fun h=>⟨k5,h⟩,fun h=>h.imp id fun h=>h.2⟩
    · rw [← List.take_append_drop r.1.toNat l.used] at hm
      rcases List.mem_append.1 hm with hm | hm
      · have:=r3.1 _ hm;omega
      · have:=r3.2 _ hm;omega
theorem Px {U B V:Nat}(b:aG)(l m:aH)(e:Bool→ByteArray→Int)(h:ef U B b)(hl:jL V l)(hUV:U≤V)(hV:V≤100000)(hB:B≤1000000)
    (h0:0≤iZ b.aK l.device l.aA) (hm:b.aK[(iZ b.aK l.device l.aA).toNat]?=some m) (hd:l.device=m.device) (hi:l.ids=m.ids) (hr:∀ d k,lv d k l=lv d k m - e d k) (he:∀ d k,0≤e d k) (hu:∀ n∈m.used,n∈l.used) :
    Ok (pg b l) (fun y=>ef V B y.1∧y.1.aK.length=b.aK.length∧(∀ d k,Rt d k y.1=Rt d k b - e d k)∧(∀ n,BS b n→BS y.1 n)∧∀ n∈l.used,BS y.1 n):=by
  have hln:=h.ln
  unfold pg
  rw [qo b (h.f (by omega) hB),bG,E1 b _ _ (by omega),bG,np l (hl.f hV)]
  refine az (fun _=>absurd h0 (by omega)) fun hneg=>?_
  obtain ⟨a1,_⟩:=Co (l:=b.aK) (v:=l.device) (e:=l.aA) (by omega)
  rw [bG]
  generalize (iZ b.aK l.device l.aA)=i at *
  have hmm:=List.mem_of_getElem? hm
  have hx0:∀ x,x∈b.aK.set i.toNat l→x∈b.aK∨x=l:=fun x hx=>List.mem_or_eq_of_mem_set hx
  have hlm:l∈b.aK.set i.toNat l:=List.mem_set (by omega) _
  have hrt:∀ d k,Rt d k (aG.mk b.af b.free (b.aK.set i.toNat l) b.bB)=Rt d k b - e d k:=fun d k=>by
    unfold Rt
    dsimp only
    rw [oM _ hm,hr];omega
  refine al (al (bw fun _ _=>aR ⟨⟨h.cn,h.free,by dsimp only;rw [List.length_set];exact hln,fun x hx=>?_,h.bd,PJ h.od hm (fun y hy=>by rw [hd];exact hy) (fun y hy=>by rw [hd];exact hy),h.bs,fun x hx n q1 q2=>?_,PJ h.a2 hm (fun y hy=>by rw [hi];exact hy) (fun y hy=>by rw [hi];exact hy),h.a3,fun n hn x hx q=>?_,fun d k=>by rw [hrt];have:=h.rt d k;have:=he d k;omega⟩,List.length_set,hrt,fun n hn=>?_,fun n hn=>.inr ⟨l,hlm,hn⟩⟩))
  · rcases hx0 x hx with hx | hx
    · exact (h.ls x hx).mono hUV
    · rw [hx];exact hl
  · rcases hx0 x hx with hx | hx
    · exact h.a1 x hx n q1 q2
    · rw [hx,hi] at q2;exact h.a1 m hmm n q1 q2
  · rcases hx0 x hx with hx | hx
    · exact h.a4 n hn x hx q
    · rw [hx,hi] at q;exact h.a4 n hn m hmm q
  · rcases hn with hn | ⟨x,hx,hn⟩
    · exact .inl hn
    · obtain ⟨j,hj,rfl⟩:=List.getElem_of_mem hx
      by_cases hji:i.toNat=j
      · subst hji
        rw [List.getElem?_eq_getElem hj] at hm
        cases hm
        exact .inr ⟨l,hlm,hu n hn⟩
      · exact .inr ⟨b.aK[j],List.mem_of_getElem? (by rw [List.getElem?_set_ne hji,List.getElem?_eq_getElem hj]),hn⟩
theorem Ci (k:ByteArray):gD k≤30:=by
  unfold gD
  cases cA k cV<;>cases cA k cX<;>simp only [cond_true,cond_false]<;>omega
theorem gj.has {l:List bP}(h:gj l){k:ByteArray}(hk:k=cV∨k=cX)(hn:∀ c∈l,cA c.key k=false):False:=by
  have hm:k∈(l.map ck).map (·.1):=by rw [h.1];rcases hk with rfl | rfl<;>simp [Ea]
  rw [List.map_map] at hm
  obtain ⟨c,hc,hk⟩:=List.mem_map.1 hm
  have:=hn c hc
  rw [← hk] at this
  have h2:cA c.key ((fun x:ByteArray×Int×Int×Int×Int=>x.1) (ck c))=true:=mh.2 rfl
  simp only [Function.comp] at this
  rw [h2] at this;cases this
theorem DM {l:List bP}(h:gj l){d:Bool}{k:ByteArray}:∀ c∈l,0≤cv d k c:=fun c hc=>by
  obtain ⟨h1,h2,_,_⟩:=h.2 c hc
  unfold cv
  cases cA c.key k<;>cases d<;>simp only [cond_true,cond_false]<;>omega
theorem PA {U B:Nat}(b:aG)(v e:Int)(h:ef U B b)(hU:U≤10000)(hB:B≤900000) :
    Ok (pL b v e) (fun y=>ef U (B+U) y.1∧y.1.aK.length≤b.aK.length∧(∀ d k,Rt d k y.1=Rt d k b)∧∀ n,BS b n→BS y.1 n):=by
  have hln:=h.ln
  have hcn:=h.cn.len
  have hbd:=h.bd
  unfold pL
  rw [qo b (h.f (by omega) (by omega)),bG,E1 b _ _ (by omega),bG]
  refine az (fun _=>aR ⟨h.mono (Nat.le_refl _) (Nat.le_add_right _ _),Nat.le_refl _,fun _ _=>rfl,fun _ h=>h⟩) fun hneg=>?_
  obtain ⟨a1,_⟩:=Co (l:=b.aK) (v:=v) (e:=e) (by omega)
  generalize iZ b.aK v e=i at *
  refine al (al (bw fun l hl=>?_))
  have hls:=h.ls l hl.1
  have hsl:=hls.sl.len
  have hus:=hls.used
  have hsum:∀ d k,sm (cv d k) b.af+lv d k l≤30:=fun d k=>by
    have h1:=h.rt d k
    have h2:=Ci k
    have h3:=qp (f:=lv d k) (fun x hx=>(h.ls x hx).lv) l hl.1
    unfold Rt at h1;omega
  refine aT (P:=fun y=>y.1=i∧y.2.1.free=b.free∧y.2.1.aK=b.aK∧y.2.1.bB=b.bB∧gj y.2.1.af∧y.2.2.2=l∧∀ d k,sm (cv d k) y.2.1.af=sm (cv d k) b.af+lv d k l) ?_ fun z hz=>?_
  · refine cQ (fun xx=>xx.1=i∧xx.2.1=l.aW∧xx.2.2.1=(l.aW.length:Int)∧0≤xx.2.2.2.1∧xx.2.2.2.1≤(l.aW.length:Int)∧xx.2.2.2.2.1.free=b.free∧xx.2.2.2.2.1.aK=b.aK∧xx.2.2.2.2.1.bB=b.bB∧gj xx.2.2.2.2.1.af∧xx.2.2.2.2.2.2=l∧(∀ d k,sm (cv d k) xx.2.2.2.2.1.af+sm (sv d k) (l.aW.drop xx.2.2.2.1.toNat)=sm (cv d k) b.af+lv d k l)) (fun xx=>((l.aW.length:Int) - xx.2.2.2.1).toNat) ?_ _ _ ⟨rfl,rfl,rfl,by dsimp only;omega,by dsimp only;omega,rfl,rfl,rfl,h.cn,rfl,(fun d k=>rfl)⟩ (by dsimp only;omega)
    rintro ⟨i_,l_,n_,k_,b_,c_,e_⟩ ⟨h1,h2,h3,h4,h5,h6,h7,h8,h9,h10,h11⟩
    dsimp only at h1 h2 h3 h4 h5 h6 h7 h8 h9 h10 h11
    subst h1;subst h2;subst h3;subst h10
    unfold AY Gx
    dsimp only
    refine az (fun hi'=>?_) (fun hi'=>dg ⟨rfl,h6,h7,h8,h9,rfl,fun d k=>by
      have:=h11 d k
      rw [List.drop_eq_nil_of_le (by omega)] at this
      simp only [sm] at this
      dsimp only;omega⟩)
    have hw:aF (k_+1)=k_+1:=bF (by omega)
    have hcl:=h9.len
    refine al (bw fun s hs=>aT (KY b_ s.key (by omega)) fun r hr=>az (fun hge=>?_) (fun hlt=>?_))
    · rcases hr with hr | ⟨hr,hr2,c,c1,c2⟩
      · omega
      obtain ⟨e1,e2,e3,e4,e5,e6⟩:=hls.sl.2 s hs.1
      obtain ⟨p1,p2,p3,p4⟩:=h9.2 c (List.mem_of_getElem? c1)
      have hi0:r.toNat < b_.af.length:=by omega
      have w1:aF (s.bj - s.dy)=s.bj - s.dy:=bF (by omega)
      have w2:aF (s.cE - s.eO)=s.cE - s.eO:=bF (by omega)
      have w3:aF (c.bj+(s.bj - s.dy))=c.bj+(s.bj - s.dy):=bF (by omega)
      have w4:aF (c.cE+(s.cE - s.eO))=c.cE+(s.cE - s.eO):=bF (by omega)
      have hdr:=jA hs.2
      have hsd:∀ d k,0≤sm (sv d k) (e_.aW.drop (k_.toNat+1)):=fun d k=>jg fun x hx=>xE (hls.sl.2 x (List.mem_of_mem_drop hx))
      have hst:∀ d k,sm (cv d k) b_.af+(sv d k s+sm (sv d k) (e_.aW.drop (k_.toNat+1)))=sm (cv d k) b.af+lv d k e_:=fun d k=>by
        have:=h11 d k
        rw [hdr] at this
        exact this
      have hb:∀ d,cv d c.key c+sv d c.key s≤30:=fun d=>by
        have q1:=qp (DM h9 (d:=d) (k:=c.key)) c (List.mem_of_getElem? c1)
        have q2:=hst d c.key
        have q3:=hsd d c.key
        have q4:=hsum d c.key
        omega
      have hb1:=hb true
      have hb2:=hb false
      have hkk:cA c.key c.key=true:=mh.2 rfl
      simp only [cv,sv,← c2,hkk,cond_true,cond_false] at hb1 hb2
      rw [c1]
      simp only [bG,w1,w2,List.getElem?_set_self hi0,w3,w4,List.set_set]
      repeat' first
        | refine al ?_
        | refine dk (by simp only [List.length_set]<;>omega) ?_
        | refine cF ?_
      dsimp only
      refine ⟨⟨rfl,rfl,rfl,by omega,by omega,h6,h7,h8,PP h9 c1 (by omega) (by omega),rfl,fun d k=>?_⟩,by omega⟩
      have:=hst d k
      rw [hw,show (k_+1).toNat=k_.toNat+1 from by omega,oM _ c1]
      rw [← this]
      simp only [cv,sv,c2]
      cases cA s.key k<;>cases d<;>simp only [cond_true,cond_false]<;>omega
    · exfalso
      rcases hr with ⟨_,hr⟩ | hr
      · exact h9.has (hls.sl.key s hs.1) hr
      · omega
  obtain ⟨z1,bz,z3,z4⟩:=z
  obtain ⟨g1,g2,g3,g4,g5,g6,g7⟩:=hz
  dsimp only at g1 g2 g3 g4 g5 g6 g7
  subst g1;subst g6
  dsimp only
  refine aT (P:=fun y=>y.1=z1∧SR y.2.1∧y.2.2.1.free=b.free∧y.2.2.1.aK=b.aK∧y.2.2.1.bB.length≤B+U∧y.2.2.1.af=bz.af∧Sb y.2.1 z4.ids∧(∀ n∈z4.used,¬ In y.2.1 n)∧y.2.2.1.bB.Pairwise (· < ·)∧∀ n,n∈y.2.2.1.bB↔n∈b.bB∨n∈z4.used) ?_ fun q hq=>?_
  · refine cQ (fun xx=>xx.1=z1∧SR xx.2.1∧xx.2.2.1=z4.used∧xx.2.2.2.1=(z4.used.length:Int)∧0≤xx.2.2.2.2.1∧xx.2.2.2.2.1≤(z4.used.length:Int)∧xx.2.2.2.2.2.1.free=b.free∧xx.2.2.2.2.2.1.aK=b.aK∧(xx.2.2.2.2.2.1.bB.length:Int)≤B+xx.2.2.2.2.1∧xx.2.2.2.2.2.1.af=bz.af∧Sb xx.2.1 z4.ids∧(∀ n∈z4.used.take xx.2.2.2.2.1.toNat,¬ In xx.2.1 n)∧xx.2.2.2.2.2.1.bB.Pairwise (· < ·)∧(∀ n,n∈xx.2.2.2.2.2.1.bB↔n∈b.bB∨n∈z4.used.take xx.2.2.2.2.1.toNat)) (fun xx=>((z4.used.length:Int) - xx.2.2.2.2.1).toNat) ?_ _ _ ⟨rfl,hls.ids,rfl,rfl,by dsimp only;omega,by dsimp only;omega,g2,g3,by dsimp only;rw [g4];omega,rfl,(fun x h=>h),by simp,by dsimp only;rw [g4];exact h.bs,by dsimp only;rw [g4];simp⟩ (by dsimp only;omega)
    rintro ⟨i_,l_,m_,n_,k_,b_,c_⟩ ⟨h1,h2,h3,h4,h5,h6,h7,h8,h9,h10,h11,h12,h13,h14⟩
    dsimp only at h1 h2 h3 h4 h5 h6 h7 h8 h9 h10 h11 h12 h13 h14
    subst h1;subst h3;subst h4
    unfold zm GJ
    dsimp only
    refine az (fun hi'=>?_) (fun hi'=>dg ⟨rfl,h2,h7,h8,by dsimp only;omega,h10,h11,by rwa [List.take_of_length_le (by omega)] at h12,h13,by rwa [List.take_of_length_le (by omega)] at h14⟩)
    have hw:aF (k_+1)=k_+1:=bF (by omega)
    have ht:(k_+1).toNat=k_.toNat+1:=by omega
    refine al (bw fun s hs=>aT (aF8 l_ s h2) fun r hr=>aT (TC _ _ (by omega) h13) fun t ht'=>?_)
    have hsr:SR (cond r.2 r.1 l_)∧Sb (cond r.2 r.1 l_) l_∧¬ In (cond r.2 r.1 l_) s:=by
      cases hr2:r.2 with
      | true=>rw [if_pos hr2] at hr;exact hr
      | false=>rw [if_neg (by rw [hr2];decide)] at hr;exact ⟨h2,fun x h=>h,hr⟩
    have hin:∀ n∈z4.used.take (k_.toNat+1),¬ In (cond r.2 r.1 l_) n:=qO (fun n hn q=>h12 n hn (hsr.2.1 n q)) hs.2 hsr.2.2
    have hmem:∀ n,n∈z4.used.take (k_.toNat+1)↔n∈z4.used.take k_.toNat∨n=s:=fun n=>by
      obtain ⟨q1,q2⟩:=List.getElem?_eq_some_iff.1 hs.2
      rw [List.take_succ_eq_append_getElem q1,q2,List.mem_append,List.mem_singleton]
    obtain ⟨t1,t2,t3⟩:=ht'
    refine bo (fun hc=>?_) (fun hc=>cF ?_)
    · rw [if_neg (by cases h:t.2<;>simp [h] at hc ⊢)] at t3
      have hlen:(b_.bB.take t.1.toNat++[s]++(b_.bB.take b_.bB.length).drop t.1.toNat).length=b_.bB.length+1:=by
        rw [List.take_length];simp only [List.length_append,List.length_cons,List.length_nil,List.length_take,List.length_drop]<;>omega
      rw [List.take_length] at hlen ⊢
      refine dk t1 (dk t2 (cw (by omega) (cF ?_)))
      dsimp only
      rw [hw,ht]
      refine ⟨⟨rfl,hsr.1,rfl,rfl,by omega,by omega,h7,h8,by omega,h10,fun x hx=>h11 x (hsr.2.1 x hx),hin,wM h13 t3.1 t3.2,fun n=>?_⟩,by omega⟩
      rw [vq,h14,hmem,or_assoc]
    · rw [if_pos (by cases h:t.2<;>simp [h] at hc ⊢)] at t3
      dsimp only
      rw [hw,ht]
      refine ⟨⟨rfl,hsr.1,rfl,rfl,by omega,by omega,h7,h8,by omega,h10,fun x hx=>h11 x (hsr.2.1 x hx),hin,h13,fun n=>?_⟩,by omega⟩
      rw [hmem,← or_assoc,← h14]
      exact ⟨.inl,fun h=>h.elim id fun h=>by rw [h];exact t3⟩
  obtain ⟨q1,lq',bq,q4⟩:=q
  obtain ⟨e1,e2,e3,e4,e5,e6,e7,e8,e9,e10⟩:=hq
  dsimp only at e1 e2 e3 e4 e5 e6 e7 e8 e9 e10
  subst e1
  dsimp only
  have hle:=e2.len
  refine aT (P:=fun y=>y.1=q1∧SR y.2.1.free∧y.2.1.aK=b.aK∧y.2.1.bB=bq.bB∧y.2.1.af=bz.af∧∀ x,In y.2.1.free x→In b.free x∨In lq' x) ?_ fun y hy=>?_
  · refine cQ (fun xx=>xx.1=q1∧xx.2.1=lq'∧xx.2.2.1=(lq'.length:Int)∧0≤xx.2.2.2.1∧xx.2.2.2.1≤(lq'.length:Int)∧SR xx.2.2.2.2.1.free∧xx.2.2.2.2.1.aK=b.aK∧xx.2.2.2.2.1.bB=bq.bB∧xx.2.2.2.2.1.af=bz.af∧(∀ x,In xx.2.2.2.2.1.free x→In b.free x∨In lq' x)) (fun xx=>((lq'.length:Int) - xx.2.2.2.1).toNat) ?_ _ _ ⟨rfl,rfl,rfl,by dsimp only;omega,by dsimp only;omega,by dsimp only;rw [e3];exact h.free,e4,rfl,e6,(fun x hx=>by dsimp only at hx;rw [e3] at hx;exact .inl hx)⟩ (by dsimp only;omega)
    rintro ⟨i_,l_,n_,k_,b_,c_⟩ ⟨h1,h2,h3,h4,h5,h6,h7,h8,h9,h10⟩
    dsimp only at h1 h2 h3 h4 h5 h6 h7 h8 h9 h10
    subst h1;subst h2;subst h3
    unfold zb GF
    dsimp only
    refine az (fun hi'=>?_) (fun _=>dg ⟨rfl,h6,h7,h8,h9,h10⟩)
    have hw:aF (k_+1)=k_+1:=bF (by omega)
    refine al (bw fun s hs=>aT (SH b_.free s h6 (e2.1 s hs.1)) fun t ht=>cF ?_)
    dsimp only
    exact ⟨⟨rfl,rfl,rfl,by omega,by omega,ht.1,h7,h8,h9,fun x hx=>(ht.2 x hx).elim (h10 x) fun h=>.inr ⟨s,hs.1,h⟩⟩,by omega⟩
  obtain ⟨y1,by_,y3⟩:=y
  obtain ⟨d1,d2,d3,d4,d5,d6⟩:=hy
  dsimp only at d1 d2 d3 d4 d5 d6
  subst d1
  dsimp only
  have hw:aF (y1+1)=y1+1:=bF (by omega)
  have ht:(y1+1).toNat=y1.toNat+1:=by omega
  have hleases:by_.aK.length=b.aK.length:=by rw [d3]
  rw [hw,List.take_length,ht,d3]
  have hrest:∀ x,x∈b.aK.take y1.toNat++b.aK.drop (y1.toNat+1)→x∈b.aK:=fun x hx=>by
    rcases List.mem_append.1 hx with hx | hx
    · exact List.mem_of_mem_take hx
    · exact List.mem_of_mem_drop hx
  have hoff:∀ m∈b.aK.take y1.toNat++b.aK.drop (y1.toNat+1),∀ x,In m.ids x→In z4.ids x→False:=fun m hm x w1 w2=>by
    obtain ⟨p1,p2⟩:=aKW h.a2 hl.2
    rcases List.mem_append.1 hm with hm | hm
    · exact p1 m hm x w1 w2
    · exact p2 m hm x w2 w1
  have hsub:(b.aK.take y1.toNat++b.aK.drop (y1.toNat+1)).Sublist b.aK:=by
    have:=List.Sublist.append (List.Sublist.refl (b.aK.take y1.toNat)) (List.drop_sublist 1 (b.aK.drop y1.toNat))
    rw [List.drop_drop,List.take_append_drop] at this
    exact this
  have hbm:∀ n,n∈by_.bB↔n∈b.bB∨n∈z4.used:=by rw [d4];exact e10
  have hrt:∀ d k,Rt d k (aG.mk by_.af by_.free (b.aK.take y1.toNat++b.aK.drop (y1.toNat+1)) by_.bB)=Rt d k b:=fun d k=>by
    unfold Rt
    dsimp only
    rw [aF0 _ hl.2,d5,g7];omega
  have hbk:ef U (B+U) (aG.mk by_.af by_.free (b.aK.take y1.toNat++b.aK.drop (y1.toNat+1)) by_.bB):=by
    refine ⟨by dsimp only;rw [d5];exact g5,d2,by dsimp only;simp only [List.length_append,List.length_take,List.length_drop]<;>omega,fun x hx=>h.ls x (hrest x hx),by dsimp only;rw [d4];exact e5,h.od.sublist hsub,by dsimp only;rw [d4];exact e9,fun m hm x w1 w2=>?_,h.a2.sublist hsub,fun n hn w=>?_,fun n hn m hm w=>?_,fun d k=>by rw [hrt];exact h.rt d k⟩
    · rcases d6 x w1 with w1 | w1
      · exact h.a1 m (hrest m hm) x w1 w2
      · exact hoff m hm x w2 (e7 x w1)
    · rcases (hbm n).1 hn with hn | hn<;>rcases d6 n w with w | w
      · exact h.a3 n hn w
      · exact h.a4 n hn z4 hl.1 (e7 n w)
      · exact h.a1 z4 hl.1 n w (hls.am n hn)
      · exact e8 n hn w
    · rcases (hbm n).1 hn with hn | hn
      · exact h.a4 n hn m (hrest m hm) w
      · exact hoff m hm n w (hls.am n hn)
  rw [qo _ (hbk.f (by omega) (by omega)),bG]
  refine al (al (al (cw (by omega) (aR ⟨hbk,?_,hrt,fun n hn=>?_⟩))))
  · dsimp only
    simp only [List.length_append,List.length_take,List.length_drop]<;>omega
  · rcases hn with hn | ⟨m,hm,hn⟩
    · exact .inl ((hbm n).2 (.inl hn))
    · obtain ⟨j,hj,rfl⟩:=List.getElem_of_mem hm
      by_cases hji:j=y1.toNat
      · subst hji
        have:=hl.2
        rw [List.getElem?_eq_getElem hj] at this
        cases this
        exact .inl ((hbm n).2 (.inr hn))
      · refine .inr ⟨b.aK[j],?_,hn⟩
        by_cases hlt:j < y1.toNat
        · exact List.mem_append.2 (.inl (List.mem_take_iff_getElem.2 ⟨j,by omega,rfl⟩))
        · exact List.mem_append.2 (.inr (List.mem_drop_iff_getElem.2 ⟨j - (y1.toNat+1),by omega,by congr 1;omega⟩))
theorem PM (s:ByteArray)(hs:s.size≤1000):Ok (m9 s) (fun _=>True):=by
  unfold m9
  refine aT (P:=dP (fun _=>True) (fun _=>True)) ?_ fun y hy=>eG hy (fun _ _=>aR trivial) (fun _ _=>aR trivial)
  refine cQ (fun xx=>xx.1=s∧xx.2.2.1=(s.size:Int)∧0≤xx.2.2.2∧xx.2.2.2≤(s.size:Int)) (fun xx=>((s.size:Int) - xx.2.2.2).toNat) ?_ _ _ ⟨rfl,rfl,by dsimp only;omega,by dsimp only;omega⟩ (by dsimp only;omega)
  rintro ⟨s_,b_,n_,k_⟩ ⟨h1,h2,h3,h4⟩
  dsimp only at h1 h2 h3 h4
  subst h1;subst h2
  unfold uC zn
  dsimp only
  refine az (fun hi=>?_) (fun _=>dW trivial)
  have hw:aF (k_+1)=k_+1:=bF (by omega)
  repeat' first
    | refine al ?_
    | refine az (fun hc=>?_) (fun hc=>?_)
    | refine cF ?_
    | refine ez ?_
  all_goals first | trivial | (dsimp only;exact ⟨⟨rfl,rfl,by omega,by omega⟩,by omega⟩)
theorem aF2 (l:List aL):Ok (nq l) (fun y=>y=0→l.length≤8):=by
  unfold nq
  refine az (fun _=>aR (fun h=>by cases h)) fun hl=>?_
  refine aT (P:=dP (fun _=>True) (fun _=>True)) ?_ fun y hy=>eG hy (fun _ _=>aR (fun _=>by omega)) (fun _ _=>aR (fun _=>by omega))
  refine cQ (fun xx=>xx.1=l∧xx.2.2.1=(l.length:Int)∧0≤xx.2.2.2∧xx.2.2.2≤(l.length:Int)) (fun xx=>((l.length:Int) - xx.2.2.2).toNat) ?_ _ _ ⟨rfl,rfl,by dsimp only;omega,by dsimp only;omega⟩ (by dsimp only;omega)
  rintro ⟨l_,a_,n_,k_⟩ ⟨h1,h2,h3,h4⟩
  dsimp only at h1 h2 h3 h4
  subst h1;subst h2
  unfold uW zq
  dsimp only
  refine az (fun hi=>?_) (fun _=>dW trivial)
  have hw:aF (k_+1)=k_+1:=bF (by omega)
  have hw1:aF (k_ - 1)=k_ - 1:=bF (by omega)
  repeat' first
    | refine al ?_
    | refine bw fun e he=>?_
    | refine aT (aDP _ _) fun y hy=>?_
    | refine az (fun hc=>?_) (fun hc=>?_)
    | refine cF ?_
    | refine ez ?_
  all_goals first | trivial | (dsimp only;exact ⟨⟨rfl,rfl,by omega,by omega⟩,by omega⟩)
theorem aFi (o:Op):Ok (nk o) (fun y=>y=0→o.kind=4 → -1099511627776≤o.n∧o.n≤1099511627776):=by
  unfold nk
  refine de (fun h=>lx (P:=fun _=>True) ?_ fun _ _ _ h4=>by omega) (fun _=>bo (fun h=>lx (P:=fun _=>True) ?_ fun _ _ _ h4=>by rw [h4] at h;cases h) (fun _=>de (fun _=>bo (fun _=>aR (fun h=>by cases h)) fun _=>bo (fun _=>aR (fun h=>by cases h)) fun _=>aT (ga _ _ _) fun r hr=>bo (fun _=>aR (fun h=>by cases h)) fun hc=>aR fun _ _=>hr (by cases r<;>simp at hc ⊢)) (fun h=>lx (P:=fun _=>True) ?_ fun _ _ _ h4=>absurd h4 h)))
  all_goals
    repeat' first
      | refine aT (aF2 _) fun y hy=>?_
      | refine aT (ga _ _ _) fun y hy=>?_
      | refine az (fun hc=>?_) (fun hc=>?_)
      | refine bo (fun hc=>?_) (fun hc=>?_)
      | refine aR ?_
    all_goals trivial
theorem O4 (o:Op)(hk:o.key.size≤1000)(ht:o.text.size≤1000):Ok (js o) (fun y=>y=0→0≤o.bc∧o.bc≤2∧1≤o.aP.seq∧o.aP.seq≤1073741824∧(o.kind=4 → -1099511627776≤o.n∧o.n≤1099511627776)):=by
  unfold js
  refine aT (ga _ _ _) fun r1 _=>bo (fun _=>aR (fun h=>by cases h)) fun _=>aT (ga _ _ _) fun r2 _=>bo (fun _=>aR (fun h=>by cases h)) fun _=>aT (ga _ _ _) fun r3 h3=>bo (fun _=>aR (fun h=>by cases h)) fun c3=>aT (ga _ _ _) fun r4 h4=>bo (fun _=>aR (fun h=>by cases h)) fun c4=>?_
  have k3:=h3 (by cases r3 with | true=>rfl | false=>cases c3)
  have k4:=h4 (by cases r4 with | true=>rfl | false=>cases c4)
  refine aT (ga _ _ _) fun r5 _=>bo (fun _=>aR (fun h=>by cases h)) fun _=>aT (ga _ _ _) fun r6 _=>bo (fun _=>aR (fun h=>by cases h)) fun _=>aT (ga _ _ _) fun r7 _=>bo (fun _=>aR (fun h=>by cases h)) fun _=>aT (PM _ hk) fun r8 _=>bo (fun _=>aR (fun h=>by cases h)) fun _=>aT (PM _ ht) fun r9 _=>bo (fun _=>aR (fun h=>by cases h)) fun _=>aT (aFi _) fun r10 hr=>aR fun hz=>⟨k4.1,k4.2,k3.1,k3.2,hr hz⟩
theorem aFH (l:List Want)(hl:l.length≤1000000):Ok (kw l) lU:=by
  unfold kw
  refine aT (P:=lU) ?_ fun y hy=>aR hy
  refine cQ (fun xx=>xx.1=l∧0≤xx.2.2∧xx.2.2≤3∧(xx.2.1.length:Int)=xx.2.2∧xx.2.2≤(l.length:Int)∧xx.2.1.map (·.key)=[cV,cX,cr].take xx.2.1.length) (fun xx=>((l.length:Int) - xx.2.2).toNat) ?_ _ _ ⟨rfl,by dsimp only;omega,by dsimp only;omega,rfl,by dsimp only;omega,rfl⟩ (by dsimp only;omega)
  rintro ⟨l_,m_,k_⟩ ⟨h1,h2,h3,h4,h5,h6⟩
  dsimp only at h1 h2 h3 h4 h5 h6
  subst h1
  unfold At IM
  dsimp only
  have h33:([cV,cX,cr].length:Int)=3:=rfl
  have h34:[cV,cX,cr].length=3:=rfl
  refine bo (fun hc=>?_) (fun _=>dg ⟨by omega,h6⟩)
  by_cases hi:k_ < (l_.length:Int)
  · rw [decide_eq_true hi,cond_true] at hc
    have hi3:k_ < 3:=of_decide_eq_true hc
    have hw:aF (k_+1)=k_+1:=bF (by omega)
    refine al (al (bw fun e he=>?_))
    have hke:∀ w:Want,w.key=e→(m_++[w]).map (·.key)=[cV,cX,cr].take (m_.length+1):=fun w hw=>by
      obtain ⟨q1,q2⟩:=List.getElem?_eq_some_iff.1 he.2
      have hm:m_.length=k_.toNat:=by omega
      rw [List.map_append,h6,hm,List.take_succ_eq_append_getElem q1,q2,List.map_singleton,hw]
    repeat' first
      | refine al ?_
      | refine cw (by simp only [List.length_append,List.length_cons,List.length_nil]<;>omega) ?_
      | refine bw fun e he=>?_
      | refine aT (Z3 (by omega) (by omega)) fun y hy=>?_
      | refine az (fun hc=>?_) (fun hc=>?_)
      | refine cF ?_
    all_goals (dsimp only;rw [List.length_append,List.length_singleton];exact ⟨⟨rfl,by omega,by omega,by omega,by omega,hke _ rfl⟩,by omega⟩)
  · rw [decide_eq_false hi,cond_false] at hc;cases hc
theorem aF6 (o:Op):Ok (wZ o) kZ:=by
  unfold wZ
  have h33:([cV,cX,sb].length:Int)=3:=rfl
  have h34:[cV,cX,sb].length=3:=rfl
  have h43:([cr,sw,qe,ql].length:Int)=4:=rfl
  have h44:[cr,sw,qe,ql].length=4:=rfl
  refine aT (iv (by omega) (by omega)) fun r0 h0=>aT (iv (by omega) (by omega)) fun r1 h1=>aT (iv (by omega) (by omega)) fun r2 h2=>aT (iv (by omega) (by omega)) fun r3 h3=>aT (iv (by omega) (by omega)) fun r4 h4=>aT (iv (by omega) (by omega)) fun r5 h5=>aT (iv (by omega) (by omega)) fun r6 h6=>aT (iv (by omega) (by omega)) fun r7 h7=>?_
  refine al (al (bw fun e8 he8=>aT (iv (by omega) (by omega)) fun r9 h9=>al (al (bw fun e10 he10=>?_))))
  have hs8:∀ e∈[cV,cX,sb],e.size≤1000:=by decide
  have hs10:∀ e∈[cr,sw,qe,ql],e.size≤1000:=by decide
  have hk8:=hs8 e8 he8.1
  have hk10:=hs10 e10 he10.1
  refine aT (P:=fun y=>y.1.length≤8∧y.2.1.key.size≤1000∧y.2.1.text.size≤1000) ?_ fun y hy8=>?_
  · refine cQ (fun x=>0≤x.2.1∧x.2.1≤8∧(x.1.length:Int)≤x.2.1∧x.2.2.1.key.size≤1000∧x.2.2.1.text.size≤1000) (fun x=>8 - x.2.1.toNat) ?_ _ _ ⟨by dsimp only;omega,by dsimp only;omega,by simp,hk8,hk10⟩ (by dsimp only;omega)
    rintro ⟨l,i,o1,o2⟩ ⟨g1,g2,g3,g4,g5⟩
    dsimp only at g1 g2 g3 g4 g5
    unfold BU IH
    dsimp only
    refine bo (fun hc=>?_) (fun _=>dg ⟨by dsimp only;omega,g4,g5⟩)
    by_cases hi:i < (o1.cz.length:Int)
    · by_cases hi8:i < 8
      · clear hc
        have hw:aF (i+1)=i+1:=bF (by omega)
        refine al (bw fun e0 _=>aT (iv (by omega) (by omega)) fun q1 _=>al (bw fun e2 _=>aT (iv (by omega) (by omega)) fun q3 _=>al (bw fun e4 _=>aT (iv (by omega) (by omega)) fun q5 _=>?_)))
        refine aT (P:=fun y=>y.1=l∧y.2.1=i∧0≤y.2.2.1∧y.2.2.1≤(l.length:Int)∧y.2.2.2.1=o1) ?_ fun y hy=>?_
        · refine cQ (fun x=>x.1=l∧x.2.1=i∧0≤x.2.2.1∧x.2.2.1≤(l.length:Int)∧x.2.2.2.1=o1) (fun x=>l.length - x.2.2.1.toNat) ?_ _ _ ⟨rfl,rfl,by dsimp only;omega,by dsimp only;omega,rfl⟩ (by dsimp only;omega)
          rintro ⟨l',i',k,p1,p2,p3⟩ ⟨f1,f2,f3,f4,f5⟩
          dsimp only at f1 f2 f3 f4 f5
          subst f1;subst f2;subst f5
          unfold AQ H3
          dsimp only
          refine az (fun hk=>?_) (fun _=>dg ⟨rfl,rfl,f3,f4,rfl⟩)
          have hwk:aF (k+1)=k+1:=bF (by omega)
          refine al (bw fun e _=>aT (Z1 _ _) fun _ _=>bo (fun _=>cF ?_) (fun _=>dg ⟨rfl,rfl,f3,f4,rfl⟩))
          dsimp only
          exact ⟨⟨rfl,rfl,by omega,by omega,rfl⟩,by omega⟩
        · obtain ⟨y1,y2,k,y3,y4⟩:=y
          obtain ⟨f1,f2,f3,f4,f5⟩:=hy
          dsimp only at f1 f2 f3 f4 f5
          subst f1;subst f2;subst f5
          dsimp only
          refine az (fun hk=>?_) (fun hk=>?_)
          · refine al (bw fun e _=>bo (fun _=>cF ?_) fun _=>?_)
            · dsimp only
              exact ⟨⟨by omega,by omega,by omega,g4,g5⟩,by omega⟩
            · refine al (al (cw (by simp only [List.length_take,List.nil_append]<;>omega) (cw (by simp only [List.length_append,List.length_cons,List.length_nil,List.length_take,List.nil_append]<;>omega) (al (al (al (cw (by simp only [List.length_append,List.length_cons,List.length_nil,List.length_take,List.length_drop,List.nil_append]<;>omega) (cF ?_))))))))
              dsimp only
              simp only [List.length_append,List.length_cons,List.length_nil,List.length_take,List.length_drop,List.nil_append]
              exact ⟨⟨by omega,by omega,by omega,g4,g5⟩,by omega⟩
          · refine al (al (cw (by simp only [List.length_take,List.nil_append]<;>omega) (cw (by simp only [List.length_append,List.length_cons,List.length_nil,List.length_take,List.nil_append]<;>omega) (al (al (al (cw (by simp only [List.length_append,List.length_cons,List.length_nil,List.length_take,List.length_drop,List.nil_append]<;>omega) (cF ?_))))))))
            dsimp only
            simp only [List.length_append,List.length_cons,List.length_nil,List.length_take,List.length_drop,List.nil_append]
            exact ⟨⟨by omega,by omega,by omega,g4,g5⟩,by omega⟩
      · rw [decide_eq_true hi,decide_eq_false hi8] at hc;cases hc
    · rw [decide_eq_false hi] at hc;cases hc
  · repeat' first
      | refine aT (iv (by omega) (by omega)) fun y hy=>?_
      | refine az (fun hc=>?_) (fun hc=>?_)
      | refine aR ?_
    all_goals exact ⟨Nat.le_trans hy8.1 (by decide),hy8.2⟩
theorem aFV (b:aG)(v:Int)(hl:b.aK.length≤1000000):Ok (pw b v) (fun r=>r < 0∨0≤r∧r < (b.aK.length:Int)∧∀ e,b.aK[r.toNat]?=some e→e.device=v):=by
  unfold pw
  have hloop:Ok (CX v 0 0 b) (dP (fun _=>True) (fun y=>0≤y.1∧y.1 < (b.aK.length:Int)∧∀ e,b.aK[y.1.toNat]?=some e→e.device=v)):=by
    refine cQ (fun x=>x.1=v∧x.2.2.2=b∧0≤x.2.2.1∧x.2.2.1≤(b.aK.length:Int)) (fun x=>b.aK.length - x.2.2.1.toNat) ?_ _ _ ⟨rfl,rfl,by dsimp only;omega,by dsimp only;omega⟩ (by dsimp only;omega)
    rintro ⟨v',n,i,b'⟩ ⟨h0,h1,h2,h3⟩
    dsimp only at h0 h1 h2 h3
    subst h0;subst h1
    unfold zt HD
    dsimp only
    refine az (fun hi=>?_) (fun _=>dW trivial)
    have hw:aF (i+1)=i+1:=bF (by omega)
    refine al (bw fun e he=>de (fun hd=>ez ⟨h2,hi,fun e' he'=>?_⟩) (fun _=>cF ?_))
    · dsimp only at he'
      rw [he.2] at he'
      cases he'
      exact hd
    · dsimp only
      exact ⟨⟨rfl,rfl,by omega,by omega⟩,by omega⟩
  exact aT hloop fun y hy=>eG hy (fun _ _=>aR (.inl (by omega))) (fun _ hb=>aR (.inr hb))
theorem aEK {U B:Nat}(b:aG)(v e:Int)(h:ef U B b)(hU:U≤100000):Ok (vO b v e) (fun y=>y.2=true→∃ k:Int,pw b v=some k∧0≤k∧k < (b.aK.length:Int)∧b.aK[k.toNat]?=some y.1∧y.1∈b.aK∧y.1.device=v):=by
  unfold vO
  obtain ⟨r,hr,hr2⟩:=aFV b v (by have:=h.ln;omega)
  rw [hr,bG]
  refine az (fun _=>aR (by simp)) (fun hneg=>?_)
  obtain ⟨r1,r2,r3⟩:=hr2.resolve_left hneg
  refine dk r1 (bw fun l hl=>bo (fun _=>aR (by simp)) fun _=>dk r1 (bw fun l' hl'=>?_))
  obtain ⟨c1,c2,c3⟩:=(h.ls l' hl'.1).f hU
  rw [aFU l' c1 c2 c3,bG]
  exact aR fun _=>⟨r,rfl,r1,r2,hl'.2,hl'.1,r3 l' hl'.2⟩
theorem aJv {U B:Nat}(d:aw)(o:Op)(n:Int)(h:ef U B d.book)(hU:U≤100000)(ho:kZ o):Ok (wJ d o n) kZ:=by
  unfold wJ
  refine aT (aEK d.book _ _ h hU) fun y hy=>?_
  refine bo (fun _=>bo (fun _=>aR ⟨ho.1,(by decide:cV.size≤1000),ho.2.2⟩) (fun _=>aR ho)) (fun hc=>?_)
  have h2:y.2=true:=by
    cases hy2:y.2 with
    | true=>rfl
    | false=>rw [hy2] at hc;revert hc;cases (n.tmod 4 == 0)<;>exact fun h=>by cases h
  obtain ⟨k,_,_,_,_,hm,_⟩:=hy h2
  have hl:=h.ls _ hm
  refine bo (fun hc5=>?_) (fun _=>?_)
  · have h0:0 < y.1.ids.length:=by
      by_cases h0:(y.1.ids.length:Int) > 0
      · omega
      · rw [decide_eq_false h0] at hc5;revert hc5;cases (o.kind == 5)<;>exact fun h=>by cases h
    have hx:∃ r t,y.1.ids=r::t:=by
      cases hl:y.1.ids with
      | nil=>rw [hl] at h0;simp at h0
      | cons r t=>exact ⟨r,t,rfl⟩
    obtain ⟨r,t,hrt⟩:=hx
    rw [hrt]
    have hrg:RG r:=by have:=hl.ids.1 r (by rw [hrt];simp);unfold RS at this;unfold RG;omega
    have htk:(r::t).take 1=[r]:=rfl
    refine aT (lz (by simp)) fun e _=>dk (by simp only [List.length_cons];omega) ?_
    rw [htk]
    refine aT (Y6 r hrg) fun q hq=>aT (pq (by have:=hrg.2.1;omega) (by have:=hrg.2.2;have:=hrg.1;omega)) fun _ _=>bo (fun hc4=>?_) (fun _=>aR ho)
    have h0s:0 < y.1.aW.length:=by
      by_cases h0:(y.1.aW.length:Int) > 0
      · omega
      · rw [decide_eq_false h0] at hc4;revert hc4;cases (o.kind == 4)<;>exact fun h=>by cases h
    exact aT (lz h0s) fun e he=>aR ⟨ho.1,hl.sl.ky e he.1,ho.2.2⟩
  · refine bo (fun hc4=>?_) (fun _=>aR ho)
    have h0s:0 < y.1.aW.length:=by
      by_cases h0:(y.1.aW.length:Int) > 0
      · omega
      · rw [decide_eq_false h0] at hc4;revert hc4;cases (o.kind == 4)<;>exact fun h=>by cases h
    exact aT (lz h0s) fun e he=>aR ⟨ho.1,hl.sl.ky e he.1,ho.2.2⟩
def su (c:cH):Prop:=c.ops.length≤30∧(∀ o∈c.ops,kZ o)∧lU c.cj
theorem aIN {U B:Nat}(r0 r6:Int)(a:Act)(d:aw)(c1 c2:cH)(h:ef U B d.book)(hU:U≤100000)(hc:c2.ops=[])(hw:lU c2.cj) :
    Ok (mA r0 r6 0 a d c1 c2) (fun y=>su y.2.2.2.2):=by
  refine cQ (fun x=>x.2.2.2.2.1=d∧0≤x.2.2.1∧x.2.2.1≤6∧(x.2.2.2.2.2.2.ops.length:Int)≤x.2.2.1∧(∀ o∈x.2.2.2.2.2.2.ops,kZ o)∧lU x.2.2.2.2.2.2.cj) (fun x=>6 - x.2.2.1.toNat) ?_ _ _ ⟨rfl,by dsimp only;omega,by dsimp only;omega,by dsimp only;rw [hc];simp,by dsimp only;rw [hc];simp,hw⟩ (by dsimp only;omega)
  rintro ⟨i1,i2,i3,a',d',e1,e2⟩ ⟨h1,h2,h3,h4,h5,h6⟩
  dsimp only at h1 h2 h3 h4 h5 h6
  subst h1
  unfold AS Gm
  dsimp only
  refine bo (fun hcc=>?_) (fun _=>dg ⟨by dsimp only;omega,h5,h6⟩)
  by_cases hi:i3 < (a'.ops.length:Int)
  · by_cases hi6:i3 < 6
    · clear hcc
      have hw:aF (i3+1)=i3+1:=bF (by omega)
      refine al (bw fun e0 _=>aT (aF6 e0) fun q hq=>aT (pq (by omega) (by omega)) fun _ _=>aT (aJv d' _ _ h hU hq) fun z hz=>cw (by simp only [List.length_append,List.length_cons,List.length_nil]<;>omega) (cF ?_))
      dsimp only
      refine ⟨⟨rfl,by omega,by omega,by rw [List.length_append,List.length_singleton];omega,fun o ho=>?_,h6⟩,by omega⟩
      exact ll h5 hz o ho
    · rw [decide_eq_true hi,decide_eq_false hi6] at hcc;cases hcc
  · rw [decide_eq_false hi] at hcc;cases hcc
theorem aDH {U B:Nat}(a:Act)(d:aw)(h:ef U B d.book)(hU:U≤100000)(hlog:d.log.length≤1000000)(ha:a.cj.length≤1000000):Ok (pZ a d) su:=by
  unfold pZ
  repeat' first
    | refine iD (by omega) (by omega) ?_
    | refine aT (pq (by omega) (by omega)) fun y hy=>?_
    | refine aT (aFH _ ha) fun y hy=>?_
    | refine aT (VG _ _ _ hlog) fun y hy=>?_
    | refine aT (aIN _ _ _ _ _ _ h hU rfl (by dsimp only;assumption)) fun y hy=>?_
    | refine az (fun hc=>?_) (fun hc=>?_)
    | refine bo (fun hc=>?_) (fun hc=>?_)
    | refine aR ?_
  all_goals assumption
theorem mid (a b:Int)(h1:0≤a)(h2:a < b)(h3:b≤1000000):aF ((aF (a+b)).tdiv 2)=(a+b) / 2:=by
  rw [bF (n:=a+b) (by omega),Int.tdiv_eq_ediv_of_nonneg (by omega),bF (by omega)]
theorem aIa (l:List db)(q:ByteArray)(hl:l.length≤1000000):Ok (CU l 0 (l.length:Int) q) (fun y=>y.1.length=l.length∧0≤y.2.1∧y.2.1≤(l.length:Int)):=by
  refine cQ (fun xx=>xx.1=l∧0≤xx.2.1∧xx.2.1≤xx.2.2.1∧xx.2.2.1≤(l.length:Int)) (fun xx=>(xx.2.2.1 - xx.2.1).toNat) ?_ _ _ ⟨rfl,by dsimp only;omega,by dsimp only;omega,by dsimp only;omega⟩ (by dsimp only;omega)
  rintro ⟨l_,i_,j_,s_⟩ ⟨h1,h2,h3,h4⟩
  dsimp only at h1 h2 h3 h4
  subst h1
  unfold AK Gt
  dsimp only
  refine az (fun hi=>?_) (fun _=>dg ⟨rfl,h2,by dsimp only;omega⟩)
  rw [mid i_ j_ h2 hi (by omega)]
  have hw:aF ((i_+j_) / 2+1)=(i_+j_) / 2+1:=bF (by omega)
  repeat' first
    | refine al ?_
    | refine bw fun e he=>?_
    | refine aT (wK _ _) fun y hy=>?_
    | refine cF ?_
  dsimp only
  generalize decide (_ < (0:Int))=r
  cases r with
  | true=>simp only [cond_true];exact ⟨⟨trivial,by omega,by omega,by omega⟩,by omega⟩
  | false=>simp only [cond_false];exact ⟨⟨trivial,by omega,by omega,by omega⟩,by omega⟩
theorem Rk (l:List aL)(q:aL)(hl:l.length≤1000000):Ok (wV l 0 (l.length:Int) q) (fun y=>y.1.length=l.length∧0≤y.2.1∧y.2.1≤(l.length:Int)):=by
  refine cQ (fun xx=>xx.1=l∧0≤xx.2.1∧xx.2.1≤xx.2.2.1∧xx.2.2.1≤(l.length:Int)) (fun xx=>(xx.2.2.1 - xx.2.1).toNat) ?_ _ _ ⟨rfl,by dsimp only;omega,by dsimp only;omega,by dsimp only;omega⟩ (by dsimp only;omega)
  rintro ⟨l_,i_,j_,e_⟩ ⟨h1,h2,h3,h4⟩
  dsimp only at h1 h2 h3 h4
  subst h1
  unfold Ai Gk
  dsimp only
  refine az (fun hi=>?_) (fun _=>dg ⟨rfl,h2,by dsimp only;omega⟩)
  rw [mid i_ j_ h2 hi (by omega)]
  have hw:aF ((i_+j_) / 2+1)=(i_+j_) / 2+1:=bF (by omega)
  repeat' first
    | refine al ?_
    | refine bw fun e he=>?_
    | refine aT (o7 _ _) fun y hy=>?_
    | refine cF ?_
  dsimp only
  generalize decide (_ < (0:Int))=r
  cases r with
  | true=>simp only [cond_true];exact ⟨⟨trivial,by omega,by omega,by omega⟩,by omega⟩
  | false=>simp only [cond_false];exact ⟨⟨trivial,by omega,by omega,by omega⟩,by omega⟩
theorem aKk (l:List cR)(q:Op)(hl:l.length≤1000000):Ok (wX l 0 (l.length:Int) q) (fun y=>y.1.length=l.length∧0≤y.2.1∧y.2.1≤(l.length:Int)):=by
  refine cQ (fun xx=>xx.1=l∧0≤xx.2.1∧xx.2.1≤xx.2.2.1∧xx.2.2.1≤(l.length:Int)) (fun xx=>(xx.2.2.1 - xx.2.1).toNat) ?_ _ _ ⟨rfl,by dsimp only;omega,by dsimp only;omega,by dsimp only;omega⟩ (by dsimp only;omega)
  rintro ⟨l_,i_,j_,o_⟩ ⟨h1,h2,h3,h4⟩
  dsimp only at h1 h2 h3 h4
  subst h1
  unfold zy HP
  dsimp only
  refine az (fun hi=>?_) (fun _=>dg ⟨rfl,h2,by dsimp only;omega⟩)
  rw [mid i_ j_ h2 hi (by omega)]
  have hw:aF ((i_+j_) / 2+1)=(i_+j_) / 2+1:=bF (by omega)
  repeat' first
    | refine al ?_
    | refine bw fun e he=>?_
    | refine aT (wK _ _) fun y hy=>?_
    | refine aT (o7 _ _) fun y hy=>?_
    | refine aT (rO _ (by simp)) fun y hy=>?_
    | refine cF ?_
  dsimp only
  generalize decide (_ < (0:Int))=r
  cases r with
  | true=>simp only [cond_true];exact ⟨⟨trivial,by omega,by omega,by omega⟩,by omega⟩
  | false=>simp only [cond_false];exact ⟨⟨trivial,by omega,by omega,by omega⟩,by omega⟩
theorem aKX (l:List Bind)(q:Int)(hl:l.length≤1000000):Ok (Ca l 0 (l.length:Int) q) (fun y=>y.1.length=l.length∧0≤y.2.1∧y.2.1≤(l.length:Int)):=by
  refine cQ (fun xx=>xx.1=l∧0≤xx.2.1∧xx.2.1≤xx.2.2.1∧xx.2.2.1≤(l.length:Int)) (fun xx=>(xx.2.2.1 - xx.2.1).toNat) ?_ _ _ ⟨rfl,by dsimp only;omega,by dsimp only;omega,by dsimp only;omega⟩ (by dsimp only;omega)
  rintro ⟨l_,i_,j_,n_⟩ ⟨h1,h2,h3,h4⟩
  dsimp only at h1 h2 h3 h4
  subst h1
  unfold AG HN
  dsimp only
  refine az (fun hi=>?_) (fun _=>dg ⟨rfl,h2,by dsimp only;omega⟩)
  rw [mid i_ j_ h2 hi (by omega)]
  have hw:aF ((i_+j_) / 2+1)=(i_+j_) / 2+1:=bF (by omega)
  repeat' first
    | refine al ?_
    | refine bw fun e he=>?_
    | refine aT (rC _ _) fun y hy=>?_
    | refine cF ?_
  dsimp only
  generalize decide (_ < (0:Int))=r
  cases r with
  | true=>simp only [cond_true];exact ⟨⟨trivial,by omega,by omega,by omega⟩,by omega⟩
  | false=>simp only [cond_false];exact ⟨⟨trivial,by omega,by omega,by omega⟩,by omega⟩
theorem aIJ (l:List cR)(e:aL)(hl:l.length≤1000000):Ok (qd l 0 (l.length:Int) 0 e) (dP (fun a=>a.2.2.length=l.length) (fun b=>b.2.2.length=l.length∧0≤b.1∧b.1 < (l.length:Int))):=by
  refine cQ (fun xx=>xx.1=l∧xx.2.2.1=(l.length:Int)∧0≤xx.2.2.2.1∧xx.2.2.2.1≤(l.length:Int)) (fun xx=>((l.length:Int) - xx.2.2.2.1).toNat) ?_ _ _ ⟨rfl,rfl,by dsimp only;omega,by dsimp only;omega⟩ (by dsimp only;omega)
  rintro ⟨l_,a_,n_,k_,e_⟩ ⟨h1,h2,h3,h4⟩
  dsimp only at h1 h2 h3 h4
  subst h1;subst h2
  unfold AO He
  dsimp only
  refine az (fun hi=>?_) (fun _=>dW rfl)
  have hw:aF (k_+1)=k_+1:=bF (by omega)
  repeat' first
    | refine al ?_
    | refine bw fun e he=>?_
    | refine bo (fun hc=>?_) (fun hc=>?_)
    | refine cF ?_
    | refine ez ?_
  · dsimp only;exact ⟨rfl,h3,hi⟩
  · dsimp only;exact ⟨⟨rfl,rfl,by omega,by omega⟩,by omega⟩
theorem aJ4 (l:List cR)(i:Int)(e:aL)(hl:l.length≤1000000)(h0:0≤i)(h1:i < (l.length:Int)):Ok (qf l i (aF (i+1)) e) (fun y=>y.1.length=l.length∧0≤y.2.1∧y.2.1≤(l.length:Int)):=by
  rw [bF (n:=i+1) (by omega)]
  refine cQ (fun xx=>xx.1.length=l.length∧0≤xx.2.1∧xx.2.1 < xx.2.2.1∧xx.2.2.1≤(l.length:Int)) (fun xx=>((l.length:Int) - xx.2.2.1).toNat) ?_ _ _ ⟨rfl,by dsimp only;omega,by dsimp only;omega,by dsimp only;omega⟩ (by dsimp only;omega)
  rintro ⟨l_,i_,k_,e_⟩ ⟨h1,h2,h3,h4⟩
  dsimp only at h1 h2 h3 h4
  unfold AN Ge
  dsimp only
  refine az (fun hi=>?_) (fun _=>dg ⟨h1,h2,by dsimp only;omega⟩)
  have hw:aF (k_+1)=k_+1:=bF (by omega)
  have hw1:aF (i_+1)=i_+1:=bF (by omega)
  repeat' first
    | refine al ?_
    | refine bw fun e he=>?_
    | refine bo (fun hc=>?_) (fun hc=>?_)
    | refine cF ?_
  all_goals
    dsimp only
    exact ⟨⟨by first | omega | (simp only [List.length_set];omega),by omega,by omega,by omega⟩,by omega⟩
theorem aIY (o:Op)(c c':ag)(hg:c.gone.length≤500000)(hd:o.cz.length≤100)(he:c.bp.length≤500000) :
    Ok (Ch o.cz (o.cz.length:Int) 0 c c') (fun y=>y.1.v=c.v∧y.1.cB=c.cB∧y.1.bJ=c.bJ∧y.1.binds=c.binds∧y.1.bp.length≤c.bp.length∧y.1.gone.length≤c.gone.length+o.cz.length):=by
  refine cQ (fun xx=>xx.1=o.cz∧xx.2.1=(o.cz.length:Int)∧0≤xx.2.2.1∧xx.2.2.1≤(o.cz.length:Int)∧xx.2.2.2.1.v=c.v∧xx.2.2.2.1.cB=c.cB∧xx.2.2.2.1.bJ=c.bJ∧xx.2.2.2.1.binds=c.binds∧xx.2.2.2.1.bp.length≤c.bp.length∧(xx.2.2.2.1.gone.length:Int)≤c.gone.length+xx.2.2.1) (fun xx=>((o.cz.length:Int) - xx.2.2.1).toNat) ?_ _ _ ⟨rfl,rfl,by dsimp only;omega,by dsimp only;omega,rfl,rfl,rfl,rfl,by dsimp only;omega,by dsimp only;omega⟩ (by dsimp only;omega)
  rintro ⟨l_,n_,k_,c_,d_⟩ ⟨h1,h2,h3,h4,h5,h6,h7,h8,h9,h10⟩
  dsimp only at h1 h2 h3 h4 h5 h6 h7 h8 h9 h10
  subst h1;subst h2
  unfold zw Gb
  dsimp only
  refine az (fun hi=>?_) (fun _=>dg ⟨h5,h6,h7,h8,h9,by dsimp only;omega⟩)
  have hw:aF (k_+1)=k_+1:=bF (by omega)
  refine al (bw fun e0 _=>aT (Rk c_.gone e0 (by omega)) fun y hy=>?_)
  obtain ⟨y1,y2,y3⟩:=hy
  repeat' first
    | refine al ?_
    | refine cw (by simp only [List.length_append,List.length_cons,List.length_nil,List.length_take,List.length_drop]<;>omega) ?_
    | refine bw fun e he=>?_
    | refine aT (o7 _ _) fun y hy=>?_
    | refine az (fun hc=>?_) (fun hc=>?_)
    | refine fv (fun hc=>?_) (fun hc=>?_)
  all_goals
    refine aT (aIJ c_.bp e0 (by omega)) fun z hz=>eG hz (fun a ha=>cF ?_) (fun b hb=>bo (fun _=>cF ?_) fun _=>aT (aJ4 b.2.2 b.1 b.2.1 (by omega) (by omega) (by omega)) fun t ht=>?_)
    · dsimp only;exact ⟨⟨rfl,rfl,by omega,by omega,h5,h6,h7,h8,by omega,by first | omega | simp only [List.length_append,List.length_cons,List.length_nil,List.length_take,List.length_drop]<;>omega⟩,by omega⟩
    · dsimp only;exact ⟨⟨rfl,rfl,by omega,by omega,h5,h6,h7,h8,by omega,by first | omega | simp only [List.length_append,List.length_cons,List.length_nil,List.length_take,List.length_drop]<;>omega⟩,by omega⟩
    · obtain ⟨t1,t2,t3⟩:=ht
      rw [Int.toNat_natCast]
      refine al (al (al (al (dk (by simp only [List.length_append,List.length_take,List.length_drop,List.length_replicate];omega) (cF ?_)))))
      dsimp only
      exact ⟨⟨rfl,rfl,by omega,by omega,h5,h6,h7,h8,by simp only [List.length_append,List.length_take,List.length_drop,List.length_replicate];omega,by first | omega | simp only [List.length_append,List.length_cons,List.length_nil,List.length_take,List.length_drop]<;>omega⟩,by omega⟩
theorem nG {K:Nat}(c:ag)(h:eo K c)(hK:K≤10000):Ok (eg c) (fun y=>eo K y∧y.bJ=c.bJ):=by
  rw [Ov c (h.f hK)]
  exact aR ⟨h,rfl⟩
def SP (l:List Sum)(k:ByteArray)(i:Int):Prop :=
  C1 l 0 (l.length:Int) k=some (l,i,k)∧0≤i∧i≤(l.length:Int) ∧
  ((∃ e,l[i.toNat]?=some e∧e.key=k∧gY e.key k=some 0)∨(∀ e,l[i.toNat]?=some e→∃ r,gY e.key k=some r∧r≠0)∧∀ n,fM (ag.mk [] [] [] [] (l.take i.toNat++[Sum.mk k n]++l.drop i.toNat) []))
theorem PW:gY cV cV=some 0:=by kernel_rfl
theorem PS:gY cX cX=some 0:=by kernel_rfl
theorem aFn:gY cX cV=some 1:=by kernel_rfl
theorem o6 {l:List Sum}{k:ByteArray}(h:l.map (·.key)=[k]):∃ n,l=[Sum.mk k n]:=by
  match l,h with
  | [x],h=>simp at h;subst h;exact ⟨x.n,rfl⟩
theorem EZ {l:List Sum}{k m:ByteArray}(h:l.map (·.key)=[k,m]):∃ n p,l=[Sum.mk k n,Sum.mk m p]:=by
  match l,h with
  | [x,y],h=>simp at h;obtain ⟨rfl,rfl⟩:=h;exact ⟨x.n,y.n,rfl⟩
theorem aFz (c:ag)(k:ByteArray)(h:fM c)(hk:k=cV∨k=cX):∃ i,SP c.bJ k i:=by
  unfold fM at h
  rcases h with h | h | h | h
  · rw [List.map_eq_nil_iff.1 h]
    rcases hk with rfl | rfl
    · exact ⟨0,by kernel_rfl,by decide,by simp,.inr ⟨fun e h=>(by cases h),fun n=>.inr (.inl rfl)⟩⟩
    · exact ⟨0,by kernel_rfl,by decide,by simp,.inr ⟨fun e h=>(by cases h),fun n=>.inr (.inr (.inl rfl))⟩⟩
  · obtain ⟨x,hx⟩:=o6 h
    rw [hx]
    rcases hk with rfl | rfl
    · exact ⟨0,by kernel_rfl,by decide,by simp,.inl ⟨_,rfl,rfl,PW⟩⟩
    · exact ⟨1,by kernel_rfl,by decide,by simp,.inr ⟨fun e h=>(by cases h),fun n=>.inr (.inr (.inr rfl))⟩⟩
  · obtain ⟨x,hx⟩:=o6 h
    rw [hx]
    rcases hk with rfl | rfl
    · exact ⟨0,by kernel_rfl,by decide,by simp,.inr ⟨fun e h=>(by cases h;exact ⟨1,aFn,by decide⟩),fun n=>.inr (.inr (.inr rfl))⟩⟩
    · exact ⟨0,by kernel_rfl,by decide,by simp,.inl ⟨_,rfl,rfl,PS⟩⟩
  · obtain ⟨x,y,hx⟩:=EZ h
    rw [hx]
    rcases hk with rfl | rfl
    · exact ⟨0,by kernel_rfl,by decide,by simp,.inl ⟨_,rfl,rfl,PW⟩⟩
    · exact ⟨1,by kernel_rfl,by decide,by simp,.inl ⟨_,rfl,rfl,PS⟩⟩
def oc (k:ByteArray)(o:Op):Int:=cond (o.kind == 4 && cA o.key k) o.n 0
theorem SN (k:ByteArray)(o:Op):oc k o=ov true k o - ov false k o:=by
  unfold oc ov
  cases o.kind == 4 && cA o.key k<;>simp only [cond_true,cond_false]<;>omega
theorem aJ8 {k:ByteArray}{o:Op}(h:o.kind≠4):oc k o=0:=by
  unfold oc;rw [show (o.kind == 4)=false from beq_false_of_ne h,Bool.false_and];rfl
theorem oR {c d:ag}(h:d.bJ=c.bJ):(fM c→fM d)∧∀ k,cs k d=cs k c:=by
  unfold fM cs
  rw [h]
  exact ⟨id,fun _=>rfl⟩
set_option maxHeartbeats 2000000 in
theorem aEg {K:Nat}(c:ag)(o:Op)(h:eo K c)(hK:K≤4000)(ho:kZ o)(hs:fM c)(hb:∀ s∈c.bJ,-1000≤s.n∧s.n≤1000)(hk:o.kind=4→o.key=cV∨o.key=cX) :
    Ok (n6 c o) (fun y=>eo (K+1) y.1∧(y.2=0→fM y.1∧∀ k,cs k y.1=cs k c+oc k o)):=by
  obtain ⟨o1,o2,o3⟩:=ho
  have hm:=h.mono (Nat.le_succ K)
  obtain ⟨v1,v2,v3,v4,v5,v6⟩:=h
  have hno:o.kind≠4→∀ y:ag×Int,eo (K+1) y.1∧y.1.bJ=c.bJ→eo (K+1) y.1∧(y.2=0→fM y.1∧∀ k,cs k y.1=cs k c+oc k o):=fun h4 y hy =>
    ⟨hy.1,fun _=>⟨(oR hy.2).1 hs,fun k=>by rw [(oR hy.2).2,aJ8 h4];omega⟩⟩
  unfold n6
  rw [Ov c (eo.f ⟨v1,v2,v3,v4,v5,v6⟩ (by omega)),bG]
  refine aT (O4 o o2 o3) fun r1 hr1=>fv (fun h=>aR ⟨hm,fun hz=>absurd hz h⟩) fun hz1=>aT (aFS c.v o.aP (by omega)) fun r2 hr2=>fv (fun h=>aR ⟨hm,fun hz=>absurd hz h⟩) fun _=>?_
  refine de (fun hq=>lx ?_ (hno (by omega))) fun _=>de (fun hq=>lx ?_ (hno (by omega))) fun _=>de (fun hq=>lx ?_ (hno (by omega))) fun _=>de (fun hq=>?_) fun hq4=>de (fun hq=>lx ?_ (hno hq4)) fun _=>lx ?_ (hno hq4)
  · repeat' first
      | refine al ?_
      | refine cw (by simp only [List.length_append,List.length_cons,List.length_nil,List.length_take,List.length_drop]<;>omega) ?_
      | refine bw fun e he=>?_
      | refine aT (aIa _ _ (by omega)) fun y hy=>?_
      | refine aT (wK _ _) fun y hy=>?_
      | refine aT (o7 _ _) fun y hy=>?_
      | refine aT (nG (K:=K+1) _ (by constructor<;>dsimp only<;>(try simp only [List.length_append,List.length_cons,List.length_nil,List.length_take,List.length_drop,List.length_set])<;>omega) (by omega)) fun y hy=>?_
      | refine az (fun hc=>?_) (fun hc=>?_)
      | refine fv (fun hc=>?_) (fun hc=>?_)
      | refine aR ?_
    all_goals assumption
  · repeat' first
      | refine al ?_
      | refine cw (by simp only [List.length_append,List.length_cons,List.length_nil,List.length_take,List.length_drop]<;>omega) ?_
      | refine bw fun e he=>?_
      | refine aT (Rk _ _ (by omega)) fun y hy=>?_
      | refine aT (o7 _ _) fun y hy=>?_
      | refine aT (aKk _ _ (by omega)) fun y hy=>?_
      | refine aT (wK _ _) fun y hy=>?_
      | refine aT (rO _ (by simp)) fun y hy=>?_
      | refine aT (nG (K:=K+1) _ (by constructor<;>dsimp only<;>(try simp only [List.length_append,List.length_cons,List.length_nil,List.length_take,List.length_drop])<;>omega) (by omega)) fun y hy=>?_
      | refine az (fun hc=>?_) (fun hc=>?_)
      | refine aR ?_
    all_goals assumption
  · refine aT (aIY o _ _ (by dsimp only;omega) o1 (by dsimp only;omega)) fun y hy=>?_
    obtain ⟨q1,q2,q3,q4,q5,q6⟩:=hy
    dsimp only at q1 q2 q3 q4 q5 q6
    refine aT (nG (K:=K+1) _ ⟨by rw [q1];omega,by rw [q2];omega,by omega,by omega,by rw [q3];omega,by rw [q4];omega⟩ (by omega)) fun z hz=>aR ⟨hz.1,hz.2.trans q3⟩
  · obtain ⟨i,p1,p2,p3,p4⟩:=aFz c o.key hs (hk hq)
    have hocn:∀ k,oc k o=cond (cA o.key k) o.n 0:=fun k=>by unfold oc;rw [hq];rfl
    have hon:=(hr1 hz1).2.2.2.2 hq
    rw [p1,bG]
    dsimp only
    have hins:fM (ag.mk [] [] [] [] (c.bJ.take i.toNat++[Sum.mk o.key o.n]++c.bJ.drop i.toNat) [])→Ok (cond (decide (0≤i)) (cond (decide (i≤(c.bJ.length:Int))) (cond (fits (c.bJ.take i.toNat++[Sum.mk o.key o.n]++(c.bJ.take c.bJ.length).drop i.toNat).length) (ob (eg (ag.mk r2.1 c.cB c.bp c.gone (c.bJ.take i.toNat++[Sum.mk o.key o.n]++(c.bJ.take c.bJ.length).drop i.toNat) c.binds)) fun y=>some (y,(0:Int))) none) none) none) (fun y=>eo (K+1) y.1∧(y.2=0→fM y.1∧∀ k,cs k y.1=cs k c+oc k o)):=fun hsk=>by
      rw [List.take_length]
      refine dk p2 (dk p3 (cw (by simp only [List.length_append,List.length_cons,List.length_nil,List.length_take,List.length_drop]<;>omega) (aT (nG (K:=K+1) _ (by constructor<;>dsimp only<;>(try simp only [List.length_append,List.length_cons,List.length_nil,List.length_take,List.length_drop])<;>omega) (by omega)) fun y hy=>aR ⟨hy.1,fun _=>⟨(oR hy.2).1 hsk,fun k=>?_⟩⟩)))
      rw [(oR hy.2).2,hocn]
      unfold cs
      dsimp only
      rw [P2]
    rcases p4 with ⟨e,e1,e2,e3⟩ | ⟨e1,e2⟩
    · have hlt:=(List.getElem?_eq_some_iff.1 e1).1
      refine az (fun _=>?_) (fun h=>absurd hlt (by omega))
      refine dk p2 (al ?_)
      rw [e1]
      simp only [bG,e3]
      refine de (fun _=>?_) (fun h=>absurd rfl h)
      have he:=hb e (List.mem_of_getElem? e1)
      have hw:aF (e.n+o.n)=e.n+o.n:=bF (by omega)
      rw [hw]
      refine dk p2 (al (dk p2 (al (aT (nG (K:=K+1) _ (by constructor<;>dsimp only<;>(try simp only [List.length_set])<;>omega) (by omega)) fun y hy=>aR ⟨hy.1,fun _=>⟨(oR hy.2).1 ?_,fun k=>?_⟩⟩))))
      · have:(c.bJ.set i.toNat (Sum.mk e.key (e.n+o.n))).map (·.key)=c.bJ.map (·.key):=by
          rw [List.map_set];exact qA (by rw [List.getElem?_map,e1];rfl)
        unfold fM
        dsimp only
        rw [this];exact hs
      · rw [(oR hy.2).2,hocn]
        unfold cs
        dsimp only
        rw [oM _ e1,e2]
        cases cA o.key k<;>simp only [cond_true,cond_false]<;>omega
    · refine az (fun hlt=>?_) (fun _=>hins (e2 o.n))
      refine dk p2 (al (bw fun e he=>?_))
      obtain ⟨r,hr,hr0⟩:=e1 e he.2
      rw [hr,bG]
      exact de (fun h=>absurd h hr0) (fun _=>hins (e2 o.n))
  · repeat' first
      | refine al ?_
      | refine cw (by simp only [List.length_append,List.length_cons,List.length_nil,List.length_take,List.length_drop]<;>omega) ?_
      | refine bw fun e he=>?_
      | refine aT (aKX _ _ (by omega)) fun y hy=>?_
      | refine aT (rC _ _) fun y hy=>?_
      | refine aT (o7 _ _) fun y hy=>?_
      | refine aT (nG (K:=K+1) _ (by constructor<;>dsimp only<;>(try simp only [List.length_append,List.length_cons,List.length_nil,List.length_take,List.length_drop,List.length_set])<;>omega) (by omega)) fun y hy=>?_
      | refine az (fun hc=>?_) (fun hc=>?_)
      | refine fv (fun hc=>?_) (fun hc=>?_)
      | refine aR ?_
    all_goals assumption
  · exact aT (nG (K:=K+1) _ (by constructor<;>dsimp only<;>omega) (by omega)) fun z hz=>aR hz
theorem aE0 {P:ag→Prop}{i:Int}{a b c:ag}(hi:0≤i∧i≤2)(h0:i=0→P a)(h1:i=1→P b)(h2:i=2→P c) :
    P (ag.cc (decide (i=0)) a (ag.mk (cond (decide (i=1)) b.v c.v) (cond (decide (i=1)) b.cB c.cB) (cond (decide (i=1)) b.bp c.bp) (cond (decide (i=1)) b.gone c.gone) (cond (decide (i=1)) b.bJ c.bJ) (cond (decide (i=1)) b.binds c.binds))):=by
  have h:i=0∨i=1∨i=2:=by omega
  rcases h with h | h | h
  · subst h;exact h0 rfl
  · subst h;exact h1 rfl
  · subst h;exact h2 rfl
theorem w8 {U B:Nat}{b:aG}(h:ef U B b)(d:Bool)(k:ByteArray):0≤Rt d k b:=by
  have h1:=jg (DM h.cn (d:=d) (k:=k))
  have h2:=jg (f:=lv d k) (l:=b.aK) (fun x hx=>(h.ls x hx).lv)
  unfold Rt;omega
theorem aLk {c:ag}(h:fM c):∀ s∈c.bJ,cs s.key c=s.n:=by
  have ab:cA cV cX=false:=by decide
  have ba:cA cX cV=false:=by decide
  have aa:cA cV cV=true:=by decide
  have bb:cA cX cX=true:=by decide
  unfold fM at h
  unfold cs
  rcases h with h | h | h | h
  · rw [List.map_eq_nil_iff.1 h];intro s hs;cases hs
  · obtain ⟨x,hx⟩:=o6 h
    rw [hx];intro s hs;rw [List.mem_singleton.1 hs];simp [sm,aa]
  · obtain ⟨x,hx⟩:=o6 h
    rw [hx];intro s hs;rw [List.mem_singleton.1 hs];simp [sm,bb]
  · obtain ⟨x,y,hx⟩:=EZ h
    rw [hx];intro s hs
    rcases List.mem_cons.1 hs with rfl | hs
    · simp [sm,aa,ba]
    · rw [List.mem_singleton.1 hs];simp [sm,ab,bb]
theorem dp.sn {U B:Nat}{d:aw}(h:dp d)(hb:ef U B d.book){c:ag}(hc:c=d.aI.a0∨c=d.aI.a1∨c=d.aI.a2):fM c∧∀ s∈c.bJ,-1000≤s.n∧s.n≤1000:=by
  have hs:fM c:=by
    rcases hc with h1 | h1 | h1<;>rw [h1]
    · exact h.s0
    · exact h.s1
    · exact h.s2
  refine ⟨hs,fun s hs'=>?_⟩
  have h1:=h.cb s.key c hc
  rw [aLk hs s hs'] at h1
  have h2:=Ci s.key
  have h3:=w8 hb true s.key
  have h4:=w8 hb false s.key
  omega
theorem aJR {U B:Nat}{b:aG}(h:ef U B b){f:aH}{n:Int}(hf:f∈b.aK)(hi:In f.ids n)(hu:n ∉ f.used):¬ BS b n:=by
  rintro (hn | ⟨l,hl,hn⟩)
  · exact h.a4 n hn f hf hi
  · obtain ⟨i,hi',rfl⟩:=List.getElem_of_mem hf
    obtain ⟨j,hj,rfl⟩:=List.getElem_of_mem hl
    have hin:=(h.ls _ hl).am n hn
    by_cases hij:i=j
    · subst hij;exact hu hn
    · by_cases hlt:i < j
      · exact List.pairwise_iff_getElem.1 h.a2 i j hi' hj hlt n hi hin
      · exact List.pairwise_iff_getElem.1 h.a2 j i hj hi' (by omega) n hin hi
theorem dp.book {d e:aw}(h:dp d)(hc:e.aI=d.aI)(hl:e.log=d.log)(hr:∀ t k,Rt t k e.book=Rt t k d.book)(hb:∀ n,BS d.book n→BS e.book n):dp e:=by
  obtain ⟨h1,h2,h3,h4,h5,h6,h7,h8,h9⟩:=h
  constructor<;>(try rw [hc])<;>(try rw [hl])
  · exact h1
  · exact h2
  · exact h3
  · intro k;rw [hr,hr];exact h4 k
  · intro k c;rw [hr,hr];exact h5 k c
  · exact fun o ho hk=>hb _ (h6 o ho hk)
  · exact h7
  · exact h8
  · exact h9
theorem aHn (v e:Int)(l:List Op)(h:∀ (k:Nat) o,l[k]?=some o→o.aP.seq=1+(((l.take k).filter (eU o.aP.device o.aP.aA)).length:Int)):iR (eU v e) (fun o=>o.aP.seq) l=((l.filter (eU v e)).length:Int):=by
  generalize hn:l.length=n
  induction n generalizing l with
  | zero=>rw [List.eq_nil_of_length_eq_zero hn];rfl
  | succ n ih =>
    rcases List.eq_nil_or_concat l with rfl | ⟨l,x,rfl⟩
    · cases hn
    rw [List.concat_eq_append] at h hn ⊢
    have ih:=ih l (fun k o hk=>by
      have h1:=(List.getElem?_eq_some_iff.1 hk).1
      have h2:=h k o (by rw [List.getElem?_append_left h1];exact hk)
      rwa [List.take_append_of_le_length (by omega)] at h2) (by simpa using hn)
    have hx:=h l.length x (by simp)
    rw [List.take_left] at hx
    unfold iR at ih ⊢
    rw [List.reverse_append,List.reverse_singleton,List.singleton_append,List.find?_cons,List.filter_append,List.length_append]
    cases hp:eU v e x with
    | true =>
      have:x.aP.device=v∧x.aP.aA=e:=by unfold eU at hp;simpa using hp
      rw [this.1,this.2] at hx
      rw [List.filter_cons_of_pos hp]
      simp only [List.filter_nil,List.length_singleton]
      omega
    | false =>
      rw [List.filter_cons_of_neg (by rw [hp];decide)]
      simpa using ih
theorem O1 {d:aw}{bk:aG}{y:ag}{o:Op}{dv:eP}{ls:List aL}{nw:Int}(h:dp d)(hi:0≤o.bc∧o.bc≤2)(hy:fM y)(hc:∀ k,cs k y=(if o.bc=0 then cs k d.aI.a0 else if o.bc=1 then cs k d.aI.a1 else cs k d.aI.a2)+oc k o)(hr:∀ t k,Rt t k bk=Rt t k d.book - ov t k o)(hb:∀ n,BS d.book n→BS bk n)(hn:o.kind=5→BS bk o.n∧¬ BS d.book o.n)(hs:o.aP.seq=1+((d.log.filter (eU o.aP.device o.aP.aA)).length:Int))(ho:js o=some 0∧kZ o) :
    dp (aw.mk bk (gQ.mk (ag.cc (decide (o.bc=0)) y d.aI.a0) (ag.cc (decide (o.bc=1)) y d.aI.a1) (ag.cc (decide (o.bc=2)) y d.aI.a2)) (d.log++[o]) dv ls nw):=by
  obtain ⟨s0,s1,s2,cn,cb,bi,nd,sq,ok⟩:=h
  have hcoll:o.bc=0∨o.bc=1∨o.bc=2:=by omega
  have hsel:(ag.cc (decide (o.bc=0)) y d.aI.a0=y∧ag.cc (decide (o.bc=1)) y d.aI.a1=d.aI.a1∧ag.cc (decide (o.bc=2)) y d.aI.a2=d.aI.a2∧∀ k,cs k y=cs k d.aI.a0+oc k o)∨(ag.cc (decide (o.bc=0)) y d.aI.a0=d.aI.a0∧ag.cc (decide (o.bc=1)) y d.aI.a1=y∧ag.cc (decide (o.bc=2)) y d.aI.a2=d.aI.a2∧∀ k,cs k y=cs k d.aI.a1+oc k o)∨(ag.cc (decide (o.bc=0)) y d.aI.a0=d.aI.a0∧ag.cc (decide (o.bc=1)) y d.aI.a1=d.aI.a1∧ag.cc (decide (o.bc=2)) y d.aI.a2=y∧∀ k,cs k y=cs k d.aI.a2+oc k o):=by
    rcases hcoll with h | h | h<;>rw [h] at hc ⊢
    · exact .inl ⟨rfl,rfl,rfl,hc⟩
    · exact .inr (.inl ⟨rfl,rfl,rfl,hc⟩)
    · exact .inr (.inr ⟨rfl,rfl,rfl,hc⟩)
  have hst:∀ x,x=y→(∃ c,(c=d.aI.a0∨c=d.aI.a1∨c=d.aI.a2)∧∀ k,cs k y=cs k c+oc k o)→∀ k,Rt false k bk - gD k≤cs k x∧cs k x≤gD k - Rt true k bk:=fun x hx ⟨c,h1,h2⟩ k=>by
    have h3:=cb k c h1
    have h4:=qq true k o
    have h5:=qq false k o
    rw [hx,h2,SN,hr,hr];omega
  have hso:∀ x,(x=d.aI.a0∨x=d.aI.a1∨x=d.aI.a2)→∀ k,Rt false k bk - gD k≤cs k x∧cs k x≤gD k - Rt true k bk:=fun x h1 k=>by
    have h3:=cb k x h1
    have h4:=qq true k o
    have h5:=qq false k o
    rw [hr,hr];omega
  refine ⟨?_,?_,?_,fun k=>?_,fun k c hcc=>?_,fun q hq hk=>?_,List.pairwise_append.2 ⟨nd,List.pairwise_singleton _ _,fun q hq p hp k1 k2 e=>?_⟩,fun k q hq=>?_,fun q hq=>?_⟩
  · rcases hsel with ⟨h,_⟩ | ⟨h,_⟩ | ⟨h,_⟩<;>dsimp only<;>rw [h]<;>assumption
  · rcases hsel with ⟨_,h,_⟩ | ⟨_,h,_⟩ | ⟨_,h,_⟩<;>dsimp only<;>rw [h]<;>assumption
  · rcases hsel with ⟨_,_,h,_⟩ | ⟨_,_,h,_⟩ | ⟨_,_,h,_⟩<;>dsimp only<;>rw [h]<;>assumption
  · have h1:=cn k
    dsimp only
    rw [hr,hr]
    rcases hsel with ⟨e1,e2,e3,e4⟩ | ⟨e1,e2,e3,e4⟩ | ⟨e1,e2,e3,e4⟩<;>rw [e1,e2,e3,e4,SN]<;>omega
  · dsimp only at hcc ⊢
    rcases hsel with ⟨e1,e2,e3,e4⟩ | ⟨e1,e2,e3,e4⟩ | ⟨e1,e2,e3,e4⟩<;>rw [e1,e2,e3] at hcc
    · rcases hcc with h | h | h
      · exact hst c h ⟨_,.inl rfl,e4⟩ k
      · exact hso c (.inr (.inl h)) k
      · exact hso c (.inr (.inr h)) k
    · rcases hcc with h | h | h
      · exact hso c (.inl h) k
      · exact hst c h ⟨_,.inr (.inl rfl),e4⟩ k
      · exact hso c (.inr (.inr h)) k
    · rcases hcc with h | h | h
      · exact hso c (.inl h) k
      · exact hso c (.inr (.inl h)) k
      · exact hst c h ⟨_,.inr (.inr rfl),e4⟩ k
  · rcases List.mem_append.1 hq with hq | hq
    · exact hb _ (bi q hq hk)
    · rw [List.mem_singleton.1 hq] at hk ⊢;exact (hn hk).1
  · rw [List.mem_singleton.1 hp] at k2 e
    exact (hn k2).2 (by rw [← e];exact bi q hq k1)
  · dsimp only at hq ⊢
    by_cases hk:k < d.log.length
    · rw [List.getElem?_append_left hk] at hq
      rw [List.take_append_of_le_length (by omega)]
      exact sq k q hq
    · have h1:=(List.getElem?_eq_some_iff.1 hq).1
      have hkk:k=d.log.length:=by simp at h1;omega
      subst hkk
      simp at hq
      subst hq
      rw [List.take_left];exact hs
  · exact ll ok ho q hq
def Kp (a b:bY):Prop:=b.c=a.c∧b.d.dev=a.d.dev∧b.d.lost=a.d.lost∧b.d.now=a.d.now
section
variable {U B K N Z:Nat}
theorem aAV (c:bY)(o:Op)(h:dV U B K N Z c.d)(hS:dp c.d)(hU:U≤9000)(hB:B≤900000)(hK:K≤3900)(ho:kZ o) :
    Ok (tY o c) (fun y=>y.1=0→dV (U+1) B (K+1) N Z y.2.d∧dp y.2.d∧Kp c y.2):=by
  have hlg:=h.lg
  have one:K≤K+1:=Nat.le_succ K
  have hm:=h.mono (Nat.le_succ U) (Nat.le_refl B) one (Nat.le_refl N) (Nat.le_refl Z)
  unfold tY
  rw [qg _ _ _ (by omega),bG]
  refine aT (Cs c.d.book c.c.device c.c.aA h.bk (by omega)) fun f hf=>?_
  obtain ⟨q,e2,h2⟩:=O4 o ho.2.1 ho.2.2
  rw [e2,bG]
  refine fv (fun hne=>aR (fun hz=>absurd hz hne)) fun hq=>bo (fun _=>aR (fun hz=>by cases hz)) fun hde=>?_
  subst hq
  obtain ⟨q1,q2,q3,q4,q5⟩:=h2 rfl
  have hd:o.aP.device=c.c.device:=by
    by_cases hd:o.aP.device=c.c.device
    · exact hd
    · rw [bne_iff_ne.2 hd] at hde;cases hde
  have he:o.aP.aA=c.c.aA:=by
    by_cases he:o.aP.aA=c.c.aA
    · exact he
    · rw [bne_iff_ne.2 he] at hde;revert hde;cases (o.aP.device != c.c.device)<;>exact fun h=>by cases h
  have hin:iR (fun o:Op=>o.aP.device == c.c.device && o.aP.aA == c.c.aA) (fun o=>o.aP.seq) c.d.log=((c.d.log.filter (eU o.aP.device o.aP.aA)).length:Int):=by
    rw [hd,he];exact aHn _ _ _ hS.sq
  have hfl:(c.d.log.filter (eU o.aP.device o.aP.aA)).length≤2000:=Nat.le_trans (List.length_filter_le _ _) hlg
  rw [hin]
  refine az (fun hle=>aR fun _=>⟨hm,hS,⟨rfl,rfl,rfl,rfl⟩⟩) fun hgt=>az (fun _=>aR (fun hz=>by cases hz)) fun hgp=>bo (fun _=>aR (fun hz=>by cases hz)) fun hsp=>?_
  rw [bF (by omega)] at hgp
  have hsq:o.aP.seq=1+((c.d.log.filter (eU o.aP.device o.aP.aA)).length:Int):=by omega
  have hls:SL f.1.aW∧SR f.1.ids∧f.1.used.length≤U∧f.1.used.Pairwise (· < ·):=by
    cases hf2:f.2 with
    | true=>have:=h.bk.ls _ (hf.2 hf2).2.2.1;exact ⟨this.sl,this.ids,this.used,this.up⟩
    | false=>rw [hf.1 hf2];exact ⟨⟨rfl,fun s hs=>by cases hs⟩,C0,Nat.zero_le _,.nil⟩
  obtain ⟨l1,l2,l3,l4⟩:=hls
  have l5:=l1.len
  have l6:=l2.len
  refine aT (aEt f.1 o ⟨by omega,by omega,by omega⟩ (by omega) l1 l4 q5) fun z hz=>fv (fun hne=>aR (fun hz=>absurd hz hne)) fun hz0=>az (fun _=>aR (fun hz=>by cases hz)) fun hlt=>iD q1 (by omega) ?_
  have hz:=hz hz0
  have hap:∀ x,(x=c.d.aI.a0∨x=c.d.aI.a1∨x=c.d.aI.a2)→eo K x→Ok (n6 x o) (fun y=>eo (K+1) y.1∧(y.2=0→fM y.1∧∀ k,cs k y.1=cs k x+oc k o)):=fun x hx hk=>by
    obtain ⟨w1,w2⟩:=hS.sn h.bk hx
    exact aEg x o hk (by omega) ho w1 w2 hz.key
  refine aT (aE0 (P:=fun x=>Ok (n6 x o) (fun y=>eo (K+1) y.1∧(y.2=0→fM y.1∧∀ k,cs k y.1=(if o.bc=0 then cs k c.d.aI.a0 else if o.bc=1 then cs k c.d.aI.a1 else cs k c.d.aI.a2)+oc k o))) ⟨q1,q2⟩ (fun h0=>by rw [h0];exact hap _ (.inl rfl) h.c0) (fun h1=>by rw [h1];exact hap _ (.inr (.inl rfl)) h.c1) (fun h2=>by rw [h2];exact hap _ (.inr (.inr rfl)) h.c2)) fun y hy=>fv (fun hne=>aR (fun hz=>absurd hz hne)) fun hy0=>bo (fun hf2=>?_) (fun hf2=>?_)
  · obtain ⟨hy1,hy2⟩:=hy
    obtain ⟨hy2,hy3⟩:=hy2 hy0
    obtain ⟨f1,f2,f3,f4,f5⟩:=hf.2 hf2
    have hlf:=h.bk.ls _ f3
    have hdev:z.1.device=c.c.device:=hz.dv.trans f4
    have hep:z.1.aA=c.c.aA:=hz.ep.trans f5
    have hul:=hz.ul
    have hlz:jL (U+1) z.1:=⟨hz.sl,by rw [hz.ids];exact l2,by omega,hz.up,fun n hn=>by
      rw [hz.ids]
      rcases (hz.um n).1 hn with hn | ⟨k5,rfl⟩
      · exact hlf.am n hn
      · exact (hz.am k5).1,by rw [hz.dv];exact hlf.dv⟩
    refine aT (Px c.d.book z.1 f.1 (fun t k=>ov t k o) h.bk hlz (Nat.le_succ U) (by omega) (by omega) (by rw [hdev,hep];exact f1) (by rw [hdev,hep];exact f2) hz.dv hz.ids hz.rt (fun t k=>qq t k o) (fun n hn=>(hz.um n).2 (.inl hn))) fun p hp=>iD q1 (by omega) (cw (by simp only [List.length_append,List.length_cons,List.length_nil]<;>omega) (aR fun _=>?_))
    obtain ⟨p1,p2,p3,p4,p5⟩:=hp
    exact ⟨⟨p1,by dsimp only;rw [p2];exact h.ln,oH hy1 (h.c0.mono one),oH hy1 (h.c1.mono one),oH hy1 (h.c2.mono one),by dsimp only;simp only [List.length_append,List.length_cons,List.length_nil]<;>omega,ll h.op ho.1,h.ls,h.dv⟩,O1 hS ⟨q1,q2⟩ hy2 hy3 p3 p4 (fun k5=>⟨p5 _ ((hz.um _).2 (.inr ⟨k5,rfl⟩)),aJR h.bk f3 (hz.am k5).1 (hz.am k5).2⟩) hsq ⟨e2,ho⟩,⟨rfl,rfl,rfl,rfl⟩⟩
  · obtain ⟨hy1,hy2⟩:=hy
    obtain ⟨hy2,hy3⟩:=hy2 hy0
    have hk:o.kind≠4∧o.kind≠5:=by
      rw [hf2] at hsp
      constructor<;>intro k<;>rw [k] at hsp<;>cases hsp
    refine iD q1 (by omega) (cw (by simp only [List.length_append,List.length_cons,List.length_nil]<;>omega) (aR fun _=>?_))
    exact ⟨⟨hm.bk,h.ln,oH hy1 (h.c0.mono one),oH hy1 (h.c1.mono one),oH hy1 (h.c2.mono one),by dsimp only;simp only [List.length_append,List.length_cons,List.length_nil]<;>omega,ll h.op ho.1,h.ls,h.dv⟩,O1 hS ⟨q1,q2⟩ hy2 hy3 (fun t k=>by rw [DS hk.1];omega) (fun n h=>h) (fun k5=>absurd k5 hk.2) hsq ⟨e2,ho⟩,⟨rfl,rfl,rfl,rfl⟩⟩
theorem aFD (c:bY)(h:dV U B K N Z c.d)(hS:dp c.d)(hU:U≤8000)(hB:B≤900000)(hK:K≤3800)(hZ:Z≤900000)(hc:su c.c)(h0:0≤c.c.device)(h6:c.c.device < 6) :
    Ok (uG c) (fun y=>fj y.1∧(y.1.err=0→dV (U+20) B (K+20) N Z y.2.d∧dp y.2.d)):=by
  have hls:=h.ls
  have hlg:=h.lg
  obtain ⟨hc1,hc2,hc3⟩:=hc
  have bad:∀ (e n:Int) (l:aH),e≠0→∀ {P:Prop},(aU.mk e n l).err=0→P:=fun e n l he P h=>absurd h he
  unfold uG
  refine iD h0 h6 (bo (fun _=>aR ⟨dh _ _,bad 2 0 _ (by decide)⟩) fun a1=>az (fun _=>aR ⟨dh _ _,bad 16 0 _ (by decide)⟩) fun a2=>aT (qa _ _ _ (by omega)) fun _ _=>?_)
  refine bo (fun _=>aR ⟨dh _ _,bad 16 0 _ (by decide)⟩) fun a4=>az (fun _=>aR ⟨dh _ _,bad 4 0 _ (by decide)⟩) fun a5=>?_
  have hloop:Ok (Dk c.c.ops (c.c.ops.length:Int) 0 c (aU.mk 0 0 (aH.mk 0 0 0 0 [] [] []))) (dP (fun a=>dV (U+20) B (K+20) N Z a.1.d∧dp a.1.d) (fun b=>b.2.1.err≠0∧fj b.2.1)):=by
    refine cQ (fun xx:List Op×Int×Int×bY×aU=>xx.1=c.c.ops∧xx.2.1=(c.c.ops.length:Int)∧0≤xx.2.2.1∧xx.2.2.1≤(c.c.ops.length:Int)∧dV (U+xx.2.2.1.toNat) B (K+xx.2.2.1.toNat) N Z xx.2.2.2.1.d∧dp xx.2.2.2.1.d) (fun xx=>((c.c.ops.length:Int) - xx.2.2.1).toNat) ?_ _ _ ⟨rfl,rfl,by dsimp only;omega,by dsimp only;omega,h,hS⟩ (by dsimp only;omega)
    rintro ⟨l_,n_,k_,c_,r_⟩ ⟨h1,h2,h3,h4,h5,h6⟩
    dsimp only at h1 h2 h3 h4 h5 h6
    subst h1;subst h2
    unfold BW Ib
    dsimp only
    refine az (fun hi=>?_) (fun hi=>dW ⟨h5.mono (by omega) (Nat.le_refl _) (by omega) (Nat.le_refl _) (Nat.le_refl _),h6⟩)
    have hw:aF (k_+1)=k_+1:=bF (by omega)
    have ht:(k_+1).toNat=k_.toNat+1:=by omega
    refine al (bw fun e he=>aT (aAV c_ e h5 h6 (by omega) hB (by omega) (hc2 e he.1)) fun y hy=>fv (fun hne=>ez ⟨hne,dh _ _⟩) fun hz=>cF ?_)
    obtain ⟨y1,y2,y3⟩:=hy hz
    dsimp only
    rw [hw,ht]
    exact ⟨⟨rfl,rfl,by omega,by omega,y1,y2⟩,by omega⟩
  refine aT hloop fun y hy=>eG hy (fun a ha=>?_) (fun b hb=>aR ⟨hb.2,fun hz=>absurd hz hb.1⟩)
  have hla:=ha.1.lg
  rw [qg _ _ _ (by omega),bG]
  exact aR ⟨dh _ _,fun _=>ha⟩
end
theorem oQ {c:Bool}{a b:aU}(ha:fj a)(hb:fj b):fj (aU.cc c a b):=by
  cases c with
  | true=>exact ha
  | false=>exact hb
section
variable {U B K N Z:Nat} (c:bY) (h:dV U B K N Z c.d) (hS:dp c.d) (hU:U≤8000) (hB:B≤800000) (hN:N≤800) (hZ:Z≤800000) (h0:0≤c.c.device) (h6:c.c.device < 6)
include h hS hU hB hN hZ h0 h6
theorem Yo:Ok (tQ c) (fun y=>fj y.1∧dV U B K N Z y.2.d∧dp y.2.d):=by
  have _:_∧_∧_∧_:=⟨hU,hB,hN,hZ⟩
  have hls:=h.ls
  have hv:=h.dv
  unfold tQ
  refine iD h0 h6 (az (fun _=>aT (qa _ _ _ (by omega)) fun _ _=>bo (fun _=>aR ⟨dh _ _,h,hS⟩) fun _=>?_) fun _=>?_)
  all_goals refine az (fun _=>aR ⟨dh _ _,h,hS⟩) fun _=>aR ⟨dh _ _,⟨h.bk,h.ln,h.c0,h.c1,h.c2,h.lg,h.op,h.ls,⟨hv.h0,hv.h1,hv.h2,hv.h3,hv.h4,hv.h5⟩⟩,hS.book rfl rfl (fun _ _=>rfl) fun _ h=>h⟩
theorem Zi (hw:lU c.c.cj):Ok (tM c) (fun y=>fj y.1∧dV U B K (N+1) Z y.2.d∧dp y.2.d):=by
  have hls:=h.ls
  have hln:=h.ln
  have hm:dV U B K (N+1) Z c.d:=h.mono (Nat.le_refl _) (Nat.le_refl _) (Nat.le_refl _) (Nat.le_succ _) (Nat.le_refl _)
  unfold tM
  refine iD h0 h6 (bo (fun _=>aR ⟨dh _ _,hm,hS⟩) fun _=>az (fun _=>aR ⟨dh _ _,hm,hS⟩) fun _=>aT (qa _ _ _ (by omega)) fun _ _=>bo (fun _=>aR ⟨dh _ _,hm,hS⟩) fun _=>bo (fun _=>aR ⟨dh _ _,hm,hS⟩) fun _=>aT (aFF c.d.book _ _ _ _ h.bk (by omega) (by omega) (by omega) hw) fun y hy=>fv (fun _=>aR ⟨dh _ _,hm,hS⟩) fun hz=>?_)
  obtain ⟨k1,k2,k3,k4,k5⟩:=hy hz
  have k6:=k3.sl.len
  exact aR ⟨⟨Nat.le_trans k6 (by omega),k3.ids.len,Nat.le_trans k3.used (Nat.zero_le _)⟩,⟨k1,by dsimp only;omega,h.c0,h.c1,h.c2,h.lg,h.op,h.ls,h.dv⟩,hS.book rfl rfl k4 k5⟩
theorem aFq:Ok (uw c) (fun y=>fj y.1∧dV U B K N Z y.2.d∧dp y.2.d):=by
  have _:_∧_:=⟨hN,hZ⟩
  have hls:=h.ls
  have hlg:=h.lg
  unfold uw
  refine iD h0 h6 (bo (fun _=>aR ⟨dh _ _,h,hS⟩) fun _=>az (fun _=>aR ⟨dh _ _,h,hS⟩) fun _=>aT (qa _ _ _ (by omega)) fun _ _=>bo (fun _=>aR ⟨dh _ _,h,hS⟩) fun _=>aT (Cs c.d.book _ _ h.bk (by omega)) fun y hy=>bo (fun _=>aR ⟨dh _ _,h,hS⟩) fun hy2=>?_)
  rw [qg _ _ _ (by omega),bG]
  refine bo (fun _=>aR ⟨dh _ _,h,hS⟩) fun _=>?_
  obtain ⟨f1,f2,f3,f4,f5⟩:=hy.2 (by cases hyy:y.2 with | true=>rfl | false=>rw [hyy] at hy2;cases hy2)
  have hl:=h.bk.ls _ f3
  exact aT (Px c.d.book (aH.mk y.1.device y.1.aA y.1.bN c.c.n y.1.aW y.1.ids y.1.used) y.1 (fun _ _=>0) h.bk (V:=U) ⟨hl.sl,hl.ids,hl.used,hl.up,hl.am,hl.dv⟩ (Nat.le_refl U) (by omega) (by omega) (by dsimp only;rw [f4,f5];exact f1) (by dsimp only;rw [f4,f5];exact f2) rfl rfl (fun d k=>by show lv d k y.1=lv d k y.1 - 0;omega) (fun _ _=>Int.le_refl _) (fun _ h=>h)) fun q hq=>aR ⟨dh _ _,⟨hq.1,by dsimp only;rw [hq.2.1];exact h.ln,h.c0,h.c1,h.c2,h.lg,h.op,h.ls,h.dv⟩,hS.book rfl rfl (fun t k=>by dsimp only;rw [hq.2.2.1];omega) hq.2.2.2.1⟩
theorem aAP:Ok (tc c) (fun y=>fj y.1∧dV U (B+U) K N Z y.2.d∧dp y.2.d):=by
  have _:_∧_:=⟨hN,hZ⟩
  have hlg:=h.lg
  have hm:dV U (B+U) K N Z c.d:=h.mono (Nat.le_refl _) (by omega) (Nat.le_refl _) (Nat.le_refl _) (Nat.le_refl _)
  unfold tc
  refine iD h0 h6 (aT (Cs c.d.book _ _ h.bk (by omega)) fun y _=>bo (fun _=>aR ⟨dh _ _,hm,hS⟩) fun _=>bo (fun _=>aR ⟨dh _ _,hm,hS⟩) fun _=>?_)
  rw [qg _ _ _ (by omega),bG]
  exact az (fun _=>aR ⟨dh _ _,hm,hS⟩) fun _=>az (fun _=>aR ⟨dh _ _,hm,hS⟩) fun _=>aT (PA c.d.book _ _ h.bk (by omega) (by omega)) fun z hz=>aR ⟨dh _ _,⟨hz.1,Nat.le_trans hz.2.1 h.ln,h.c0,h.c1,h.c2,h.lg,h.op,h.ls,h.dv⟩,hS.book rfl rfl hz.2.2.1 hz.2.2.2⟩
theorem aFh:Ok (vC c) (fun y=>fj y.1∧dV U (B+U) K N (Z+1) y.2.d∧dp y.2.d):=by
  have _:_∧_:=⟨hN,hZ⟩
  have hlg:=h.lg
  have hls:=h.ls
  have hm:dV U (B+U) K N (Z+1) c.d:=h.mono (Nat.le_refl _) (by omega) (Nat.le_refl _) (Nat.le_refl _) (Nat.le_succ _)
  unfold vC
  refine iD h0 h6 (bo (fun _=>aR ⟨dh _ _,hm,hS⟩) fun _=>aT (qa _ _ _ (by omega)) fun _ _=>bo (fun _=>aR ⟨dh _ _,hm,hS⟩) fun _=>aT (PA c.d.book _ _ h.bk (by omega) (by omega)) fun z hz=>?_)
  rw [qg _ _ _ (by omega),bG]
  refine cw (by simp only [List.length_append,List.length_cons,List.length_nil]<;>omega) (aR ⟨dh _ _,⟨hz.1,Nat.le_trans hz.2.1 h.ln,h.c0,h.c1,h.c2,h.lg,h.op,?_,h.dv⟩,hS.book rfl rfl hz.2.2.1 hz.2.2.2⟩)
  dsimp only
  simp only [List.length_append,List.length_cons,List.length_nil]<;>omega
end
theorem aFp {U B K N Z:Nat}(d:aw)(c:cH)(h:dV U B K N Z d)(hS:dp d):Ok (vD (bY.mk d c)) (fun y=>fj y.1∧dV U B K N Z y.2.d∧dp y.2.d):=by
  unfold vD
  dsimp only
  exact bo (fun _=>aR ⟨dh _ _,h,hS⟩) fun hc=>aR ⟨dh _ _,⟨h.bk,h.ln,h.c0,h.c1,h.c2,h.lg,h.op,h.ls,h.dv⟩,hS.book rfl rfl (fun _ _=>rfl) fun _ h=>h⟩
theorem aFg {U B K N Z:Nat}(d:aw)(c:cH)(h:dV U B K N Z d)(hS:dp d)(hU:U≤8000)(hB:B≤800000)(hK:K≤3800)(hN:N≤800)(hZ:Z≤800000)(hc:su c)(hd:c.kind≠7→0≤c.device∧c.device < 6)(k7:1≤c.kind∧c.kind≤7) :
    Ok (n8 (bY.mk d c)) (fun y=>fj y.1∧(y.1.err=0→dV (U+20) (B+U) (K+20) (N+1) (Z+1) y.2.d∧dp y.2.d)):=by
  have up:∀ {e:aw} {U' B' K' N' Z':Nat},dV U' B' K' N' Z' e→U'≤U+20→B'≤B+U→K'≤K+20→N'≤N+1→Z'≤Z+1→dV (U+20) (B+U) (K+20) (N+1) (Z+1) e:=fun h h1 h2 h3 h4 h5=>h.mono h1 h2 h3 h4 h5
  unfold n8
  dsimp only
  refine de (fun k=>?_) fun _=>de (fun k=>?_) fun _=>de (fun k=>?_) fun _=>de (fun k=>?_) fun _=>de (fun k=>?_) fun _=>de (fun k=>?_) fun _=>?_
  · exact aT (Yo (bY.mk d c) h hS hU hB hN hZ (hd (by omega)).1 (hd (by omega)).2) fun y hy=>aR ⟨hy.1,fun _=>⟨up hy.2.1 (by omega) (by omega) (by omega) (by omega) (by omega),hy.2.2⟩⟩
  · exact aT (Zi (bY.mk d c) h hS hU hB hN hZ (hd (by omega)).1 (hd (by omega)).2 hc.2.2) fun y hy=>aR ⟨hy.1,fun _=>⟨up hy.2.1 (by omega) (by omega) (by omega) (by omega) (by omega),hy.2.2⟩⟩
  · exact aT (aFD (bY.mk d c) h hS hU (by omega) hK (by omega) hc (hd (by omega)).1 (hd (by omega)).2) fun y hy=>aR ⟨hy.1,fun h=>⟨up (hy.2 h).1 (by omega) (by omega) (by omega) (by omega) (by omega),(hy.2 h).2⟩⟩
  · exact aT (aFq (bY.mk d c) h hS hU hB hN hZ (hd (by omega)).1 (hd (by omega)).2) fun y hy=>aR ⟨hy.1,fun _=>⟨up hy.2.1 (by omega) (by omega) (by omega) (by omega) (by omega),hy.2.2⟩⟩
  · exact aT (aAP (bY.mk d c) h hS hU hB hN hZ (hd (by omega)).1 (hd (by omega)).2) fun y hy=>aR ⟨hy.1,fun _=>⟨up hy.2.1 (by omega) (by omega) (by omega) (by omega) (by omega),hy.2.2⟩⟩
  · exact aT (aFh (bY.mk d c) h hS hU hB hN hZ (hd (by omega)).1 (hd (by omega)).2) fun y hy=>aR ⟨hy.1,fun _=>⟨up hy.2.1 (by omega) (by omega) (by omega) (by omega) (by omega),hy.2.2⟩⟩
  · exact aT (aFp d c h hS) fun y hy=>aR ⟨hy.1,fun _=>⟨up hy.2.1 (by omega) (by omega) (by omega) (by omega) (by omega),hy.2.2⟩⟩
theorem aLJ {U B K N Z:Nat}(d:aw)(c:cH)(h:dV U B K N Z d)(hS:dp d)(hU:U≤8000)(hB:B≤800000)(hK:K≤3800)(hN:N≤800)(hZ:Z≤800000)(hc:su c) :
    Ok (qV d c) (fun y=>dV (U+20) (B+U) (K+20) (N+1) (Z+1) y.1∧dp y.1∧(y.2.err≠0→c.kind≥3→c.kind≠4→y.1=d)):=by
  have hm:dV (U+20) (B+U) (K+20) (N+1) (Z+1) d:=h.mono (by omega) (by omega) (by omega) (by omega) (by omega)
  have own:∀ e:aw,dV (U+20) (B+U) (K+20) (N+1) (Z+1) e→eJ e=some e:=fun e he=>aFY e he (by omega) (by omega) (by omega) (by omega)
  have hown:=own d hm
  unfold qV
  simp only [hown,bG]
  refine o4 (fun _=>aR ⟨hm,hS,fun _ _ _=>rfl⟩) fun k1 k7=>bo (fun _=>aR ⟨hm,hS,fun _ _ _=>rfl⟩) fun hdv=>?_
  have hd:c.kind≠7→0≤c.device∧c.device < 6:=by
    intro hk
    rw [bne_iff_ne.2 hk,cond_true] at hdv
    by_cases h0:c.device≥0
    · by_cases h6:c.device < 6
      · exact ⟨h0,h6⟩
      · rw [decide_eq_true h0,decide_eq_false h6] at hdv;cases hdv
    · rw [decide_eq_false h0] at hdv;cases hdv
  have work:=aFg d c h hS hU hB hK hN hZ hc hd (by omega)
  have hv:=h.dv
  have fin:∀ (e:aw) (r:aU),dV (U+20) (B+U) (K+20) (N+1) (Z+1) e→fj r →
      dV (U+20) (B+U) (K+20) (N+1) (Z+1) (aw.mk e.book e.aI e.log (eP.mk (Device.mk e.dev.a0.aA (cond (decide (c.device=0)) c.aO e.dev.a0.aO) (aU.cc (decide (c.device=0)) r e.dev.a0.aB)) (Device.mk e.dev.a1.aA (cond (decide (c.device=1)) c.aO e.dev.a1.aO) (aU.cc (decide (c.device=1)) r e.dev.a1.aB)) (Device.mk e.dev.a2.aA (cond (decide (c.device=2)) c.aO e.dev.a2.aO) (aU.cc (decide (c.device=2)) r e.dev.a2.aB)) (Device.mk e.dev.a3.aA (cond (decide (c.device=3)) c.aO e.dev.a3.aO) (aU.cc (decide (c.device=3)) r e.dev.a3.aB)) (Device.mk e.dev.a4.aA (cond (decide (c.device=4)) c.aO e.dev.a4.aO) (aU.cc (decide (c.device=4)) r e.dev.a4.aB)) (Device.mk e.dev.a5.aA (cond (decide (c.device=5)) c.aO e.dev.a5.aO) (aU.cc (decide (c.device=5)) r e.dev.a5.aB))) e.lost e.now):=fun e r he hr =>
    ⟨he.bk,he.ln,he.c0,he.c1,he.c2,he.lg,he.op,he.ls,⟨oQ hr he.dv.h0,oQ hr he.dv.h1,oQ hr he.dv.h2,oQ hr he.dv.h3,oQ hr he.dv.h4,oQ hr he.dv.h5⟩⟩
  have fin2:∀ {e:aw} {v:eP},dp e→dp (aw.mk e.book e.aI e.log v e.lost e.now):=fun h=>h.book rfl rfl (fun _ _=>rfl) fun _ h=>h
  have hsame:=own
  refine de (fun hk=>?_) fun n1=>bo (fun hk=>?_) fun hk=>?_
  case' refine_1 =>
    have hk3:c.kind=1∨c.kind=2∨c.kind=4:=.inl hk
  case' refine_2 =>
    have hk3:c.kind=1∨c.kind=2∨c.kind=4:=by
      by_cases k2:c.kind=2
      · exact .inr (.inl k2)
      · rw [beq_eq_false_iff_ne.2 k2] at hk;exact .inr (.inr (beq_iff_eq.1 hk))
  iterate 2
    · obtain ⟨h0,h6⟩:=hd (by omega)
      refine iD h0 h6 (o4 (fun _=>aR ⟨hm,hS,fun _ _ _=>rfl⟩) fun r1 r2=>de (fun _=>aR ⟨hm,hS,fun _ _ _=>rfl⟩) fun _=>az (fun _=>aR ⟨hm,hS,fun _ _ _=>rfl⟩) fun _=>aT work fun y hy=>fv (fun _=>iD h0 h6 (iD h0 h6 ?_)) fun hz=>?_)
      · have f1:=fin d y.1 hm hy.1
        rw [jQ _ hy.1.f,bG,own _ f1,bG]
        exact aR ⟨f1,fin2 hS,fun _ _ _=>by omega⟩
      · obtain ⟨hy2,hy3⟩:=hy.2 hz
        rw [own _ hy2,bG]
        have f1:=fin y.2.d y.1 hy2 hy.1
        rw [jQ _ hy.1.f,bG,own _ f1,bG]
        exact iD h0 h6 (iD h0 h6 (aR ⟨f1,fin2 hy3,fun h _ _=>absurd hz h⟩))
  · refine aT work fun y hy=>fv (fun _=>?_) fun hz=>?_
    · rw [jQ _ hy.1.f,bG]
      exact aR ⟨hm,hS,fun _ _ _=>rfl⟩
    · obtain ⟨hy2,hy3⟩:=hy.2 hz
      rw [own _ hy2,bG,jQ _ hy.1.f,bG,own _ hy2,bG]
      exact aR ⟨hy2,hy3,fun h _ _=>absurd hz h⟩
theorem jb (a:ByteArray):cA a a=true:=by
  unfold cA
  simp
theorem iz {X Y W:Type}{stp:X→Option (X⊕(Y⊕W))}(st:Int→X)(n:Nat)(y:Y)(hn:n≤1000000)(hs:∀ k:Nat,k < n→stp (st k)=some (.inl (st (aF ((k:Int)+1)))))(he:stp (st (n:Int))=some (.inr (.inl y))){f:Nat}(hf:n+1≤f):bZ stp f (st 0)=some (.inl y):=by
  have key:∀ (m k f:Nat),k+m=n→m+1≤f→bZ stp f (st (k:Int))=some (.inl y):=by
    intro m
    induction m with
    | zero =>
      intro k f hk hf
      obtain ⟨g,rfl⟩:∃ g,f=g+1:=⟨f - 1,by omega⟩
      rw [show k=n by omega]
      simp only [bZ,he,bG,two]
    | succ m ih =>
      intro k f hk hf
      obtain ⟨g,rfl⟩:∃ g,f=g+1:=⟨f - 1,by omega⟩
      have:=ih (k+1) g (by omega) (by omega)
      simp only [bZ,hs k (by omega),bG,two]
      rw [bF (by omega)]
      exact this
  exact key n 0 f (by omega) hf
theorem GL (l:List aL)(hl:l.length≤1000000):lZ l l=some true:=by
  have h:D5 l l false (l.length:Int) 0=some (.inl false):=iz (fun i=>(l,l,false,(l.length:Int),i)) l.length false hl (fun k hk=>by simp [vH,AF,hk]) (by simp [vH,AF]) (by omega)
  simp [lZ,h,two]
theorem ZI (l:List db)(hl:l.length≤1000000):vb l l=some true:=by
  have h:C2 l l false (l.length:Int) 0=some (.inl false):=iz (fun i=>(l,l,false,(l.length:Int),i)) l.length false hl (fun k hk=>by simp [uE,zY,hk,jb]) (by simp [uE,zY]) (by omega)
  simp [vb,h,two]
theorem YI (l:List cR)(hl:l.length≤1000000):vL l l=some true:=by
  have h:Cg l l false (l.length:Int) 0=some (.inl false):=iz (fun i=>(l,l,false,(l.length:Int),i)) l.length false hl (fun k hk=>by simp [uf,zW,hk,jb]) (by simp [uf,zW]) (by omega)
  simp [vL,h,two]
theorem I9 (l:List aL)(hl:l.length≤1000000):pu l l=some true:=by
  have h:C5 l l false (l.length:Int) 0=some (.inl false):=iz (fun i=>(l,l,false,(l.length:Int),i)) l.length false hl (fun k hk=>by simp [u5,zj,hk]) (by simp [u5,zj]) (by omega)
  simp [pu,h,two]
theorem ZF (l:List Sum)(hl:l.length≤1000000):vU l l=some true:=by
  have h:Cz l l false (l.length:Int) 0=some (.inl false):=iz (fun i=>(l,l,false,(l.length:Int),i)) l.length false hl (fun k hk=>by simp [uI,za,hk,jb]) (by simp [uI,za]) (by omega)
  simp [vU,h,two]
theorem Y1 (l:List Bind)(hl:l.length≤1000000):uj l l=some true:=by
  have h:Cd l l false (l.length:Int) 0=some (.inl false):=iz (fun i=>(l,l,false,(l.length:Int),i)) l.length false hl (fun k hk=>by simp [u6,zX,hk,jb]) (by simp [u6,zX]) (by omega)
  simp [uj,h,two]
theorem VW (l:List bP)(hl:l.length≤1000000):tW l l=some true:=by
  have h:Cu l l false (l.length:Int) 0=some (.inl false):=iz (fun i=>(l,l,false,(l.length:Int),i)) l.length false hl (fun k hk=>by simp [uD,zO,hk,jb]) (by simp [uD,zO]) (by omega)
  simp [tW,h,two]
theorem Fq (l:List Range)(hl:l.length≤1000000):nW l l=some true:=by
  have h:Cn l l false (l.length:Int) 0=some (.inl false):=iz (fun i=>(l,l,false,(l.length:Int),i)) l.length false hl (fun k hk=>by simp [uN,zg,hk]) (by simp [uN,zg]) (by omega)
  simp [nW,h,two]
theorem IR (l:List Int)(hl:l.length≤1000000):mf l l=some true:=by
  have h:CV l l false (l.length:Int) 0=some (.inl false):=iz (fun i=>(l,l,false,(l.length:Int),i)) l.length false hl (fun k hk=>by simp [uU,zp,hk]) (by simp [uU,zp]) (by omega)
  simp [mf,h,two]
theorem Wf (l:List Slice)(hl:l.length≤1000000):pK l l=some true:=by
  have h:Ce l l false (l.length:Int) 0=some (.inl false):=iz (fun i=>(l,l,false,(l.length:Int),i)) l.length false hl (fun k hk=>by simp [uB,zh,hk,jb]) (by simp [uB,zh]) (by omega)
  simp [pK,h,two]
theorem O8 (l:aH)(h:kg l):tG l l=some true:=by
  simp [tG,Wf _ h.1,Fq _ h.2.1,IR _ h.2.2]
theorem aC8 (l:aH)(h:kg l):yg l l=some true:=O8 l h
theorem aHu (v:Device)(h:kg v.aB.aE):tK v v=some true:=by
  simp [tK,aC8 _ h]
theorem aLx (o:Op)(h:o.cz.length≤1000000):vm o o=some true:=by
  simp [vm,jb,I9 _ h]
theorem Cl (c:ag)(h:E9 c):nv c c=some true:=by
  simp [nv,GL _ h.v,ZI _ h.cB,YI _ h.bp,I9 _ h.gone,ZF _ h.bJ,Y1 _ h.binds]
theorem aFe (b:aG)(h:yZ b):ua b b=some true:=by
  have hl:C8 b.aK false b.aK (b.aK.length:Int) 0=some (.inl false):=iz (fun i=>(b.aK,false,b.aK,(b.aK.length:Int),i)) b.aK.length false h.ln (fun k hk=>by simp [u9,zU,hk,O8 _ (h.ls _ (List.getElem_mem hk))]) (by simp [u9,zU]) (by omega)
  simp [ua,VW _ h.cn,Fq _ h.fr,IR _ h.bd,hl,two]
theorem aF4 {U B K N Z:Nat}(d:aw)(h:dV U B K N Z d)(hU:U≤100000)(hB:B≤1000000)(hK:K≤10000)(hZ:Z≤1000000):xg d d=some true:=by
  have hls:=h.ls
  have hlg:=h.lg
  have hv:=h.dv
  have hl:Ds d.log false d.log (d.log.length:Int) 0=some (.inl false):=iz (fun i=>(d.log,false,d.log,(d.log.length:Int),i)) d.log.length false (by omega) (fun k hk=>by
    have:=h.op _ (List.getElem_mem hk)
    simp [vG,zx,hk,aLx _ (Nat.le_trans this (by decide))]) (by simp [vG,zx]) (by omega)
  have hd:xh [d.dev.a0,d.dev.a1,d.dev.a2,d.dev.a3,d.dev.a4,d.dev.a5] false [d.dev.a0,d.dev.a1,d.dev.a2,d.dev.a3,d.dev.a4,d.dev.a5] ([d.dev.a0,d.dev.a1,d.dev.a2,d.dev.a3,d.dev.a4,d.dev.a5].length:Int) 0=some (.inl false):=by
    have hm:∀ v∈[d.dev.a0,d.dev.a1,d.dev.a2,d.dev.a3,d.dev.a4,d.dev.a5],kg v.aB.aE:=by
      intro v hm
      simp at hm
      rcases hm with rfl | rfl | rfl | rfl | rfl | rfl
      · exact hv.h0.f
      · exact hv.h1.f
      · exact hv.h2.f
      · exact hv.h3.f
      · exact hv.h4.f
      · exact hv.h5.f
    have hn:[d.dev.a0,d.dev.a1,d.dev.a2,d.dev.a3,d.dev.a4,d.dev.a5].length=6:=rfl
    generalize [d.dev.a0,d.dev.a1,d.dev.a2,d.dev.a3,d.dev.a4,d.dev.a5]=v at hm hn
    exact iz (fun i=>(v,false,v,(v.length:Int),i)) v.length false (by omega) (fun k hk=>by simp [vJ,AW,hk,aHu _ (hm _ (List.getElem_mem hk))]) (by simp [vJ,AW]) (by omega)
  unfold xg
  rw [Cl _ (h.c0.f hK),Cl _ (h.c1.f hK),Cl _ (h.c2.f hK),aFe _ (h.bk.f hU hB),hl,hd,GL _ (by omega)]
  simp [two]
theorem qY {α:Type}{R:α→α→Prop}{l:List α}(h:l.Pairwise R){i j:Nat}{a b:α}(ha:l[i]?=some a)(hb:l[j]?=some b)(hij:i < j):R a b:=by
  obtain ⟨h1,h2⟩:=List.getElem?_eq_some_iff.1 ha
  obtain ⟨h3,h4⟩:=List.getElem?_eq_some_iff.1 hb
  rw [← h2,← h4]
  exact List.pairwise_iff_getElem.1 h i j h1 h3 hij
def U3 {Y Z:Type}:Y⊕Z→Prop:=dP (fun _=>True) (fun _=>False)
theorem mq {Y Z X:Type}{o:Option (Y⊕Z)}{f:Y→Option X}{g:Z→Option X}{P:X→Prop}(h:Ok o U3)(hf:∀ y,Ok (f y) P):Ok (ob o fun y=>two y f g) P :=
  aT h fun y hy=>eG hy (fun a _=>hf a) (fun _ h=>h.elim)
theorem OC (l:List Int)(hl:l.length≤1000000)(h:l.Pairwise (· < ·)):Ok (pI l) (fun y=>y=true):=by
  unfold pI
  refine mq ?_ fun _=>aR rfl
  refine cQ (fun xx=>xx.1=l∧1≤xx.2.2∧xx.2.2≤(l.length:Int)+1) (fun xx=>((l.length:Int) - xx.2.2).toNat) ?_ _ _ ⟨rfl,by dsimp only;omega,by dsimp only;omega⟩ (by dsimp only;omega)
  rintro ⟨l_,b_,k_⟩ ⟨h1,h2,h3⟩
  dsimp only at h1 h2 h3
  subst h1
  unfold BR Ij
  dsimp only
  refine az (fun hi=>?_) (fun _=>dW trivial)
  have hw:aF (k_+1)=k_+1:=bF (by omega)
  have hw1:aF (k_ - 1)=k_ - 1:=bF (by omega)
  refine al (bw fun a ha=>al (bw fun b hb=>az (fun hc=>?_) (fun _=>cF ?_)))
  · have:=qY h ha.2 hb.2 (by omega);omega
  · dsimp only;exact ⟨⟨rfl,by omega,by omega⟩,by omega⟩
theorem Qk (l:List Range)(h:SR l):Ok (pk l) (fun y=>y=true):=by
  have hl:=h.len
  unfold pk
  refine mq ?_ fun _=>aR rfl
  refine cQ (fun xx=>xx.1=l∧0≤xx.2.2∧xx.2.2≤(l.length:Int)) (fun xx=>((l.length:Int) - xx.2.2).toNat) ?_ _ _ ⟨rfl,by dsimp only;omega,by dsimp only;omega⟩ (by dsimp only;omega)
  rintro ⟨l_,b_,k_⟩ ⟨h1,h2,h3⟩
  dsimp only at h1 h2 h3
  subst h1
  unfold BZ Hs
  dsimp only
  refine az (fun hi=>?_) (fun _=>dW trivial)
  have hw:aF (k_+1)=k_+1:=bF (by omega)
  have hw1:0 < k_→aF (k_ - 1)=k_ - 1:=fun _=>bF (by omega)
  have fin:∀ b:Bool,(l_=l_∧0≤aF (k_+1)∧aF (k_+1)≤(l_.length:Int))∧((l_.length:Int) - aF (k_+1)).toNat < ((l_.length:Int) - k_).toNat:=fun _=>⟨⟨rfl,by omega,by omega⟩,by omega⟩
  refine al (bw fun a ha=>?_)
  obtain ⟨q1,q2,q3⟩:=h.1 a ha.1
  rw [ha.2]
  simp only [bG]
  refine az (fun hc=>by omega) fun _=>al (al (az (fun hc=>by omega) fun _=>al (az (fun hc=>by omega) fun _=>az (fun hk=>?_) fun _=>cF (fin true))))
  have hw1:=hw1 hk
  refine al (bw fun b hb=>al (az (fun hc=>?_) fun _=>cF (fin true)))
  have:=qY h.2 hb.2 ha.2 (by omega)
  unfold lq at this;omega
theorem S5 (l:List Range)(n:Int)(hl:l.length≤1000000):Ok (py l n) (fun y=>if y=true then In l n else ¬ In l n):=by
  unfold py
  refine aT (P:=dP (fun _=>¬ In l n) (fun y=>y=true∧In l n)) ?_ fun y hy=>eG hy (fun _ h=>aR (by simpa using h)) (fun b h=>aR (by rw [h.1];simpa using h.2))
  refine cQ (fun xx=>xx.1=l∧xx.2.1=n∧0≤xx.2.2.2∧xx.2.2.2≤(l.length:Int)∧(∀ r∈l.take xx.2.2.2.toNat,¬ (r.from_≤n∧n < r.bU))) (fun xx=>((l.length:Int) - xx.2.2.2).toNat) ?_ _ _ ⟨rfl,rfl,by dsimp only;omega,by dsimp only;omega,by simp⟩ (by dsimp only;omega)
  rintro ⟨l_,n_,b_,k_⟩ ⟨h1,h2,h3,h4,h5⟩
  dsimp only at h1 h2 h3 h4 h5
  subst h1;subst h2
  unfold BO Hq
  dsimp only
  refine az (fun hi=>?_) (fun hi=>dW ?_)
  · have hw:aF (k_+1)=k_+1:=bF (by omega)
    have ht:(k_+1).toNat=k_.toNat+1:=by omega
    refine al (bw fun a ha=>?_)
    rw [ha.2]
    simp only [bG,hw]
    refine az (fun h1=>al (az (fun h2=>ez ⟨rfl,a,ha.1,h1,h2⟩) fun h2=>cF ?_)) fun h1=>cF ?_
    all_goals
      dsimp only
      rw [ht]
      exact ⟨⟨rfl,rfl,by omega,by omega,qO h5 ha.2 (fun h=>by omega)⟩,by omega⟩
  · rw [List.take_of_length_le (by omega)] at h5
    rintro ⟨r,hr,h⟩
    exact h5 r hr h
theorem aFd (a b:List Range)(ha:SR a)(hb:SR b)(h:Dj a b):Ok (uS a b) (fun y=>y=false):=by
  have hal:=ha.len
  have hbl:=hb.len
  unfold uS
  refine mq ?_ fun _=>aR rfl
  refine cQ (fun xx=>xx.1=a∧xx.2.1=b∧0≤xx.2.2.2∧xx.2.2.2≤(a.length:Int)) (fun xx=>((a.length:Int) - xx.2.2.2).toNat) ?_ _ _ ⟨rfl,rfl,by dsimp only;omega,by dsimp only;omega⟩ (by dsimp only;omega)
  rintro ⟨l_,m_,b_,k_⟩ ⟨h1,h2,h3,h4⟩
  dsimp only at h1 h2 h3 h4
  subst h1;subst h2
  unfold BA JF
  dsimp only
  refine az (fun hi=>?_) (fun _=>dW trivial)
  have hw:aF (k_+1)=k_+1:=bF (by omega)
  have g3:=h3
  have g4:=h4
  clear h3 h4
  have inner:Ok (DN l_ m_ b_ k_ 0) (dP (fun y=>y.1=l_∧y.2.1=m_∧y.2.2.2=k_) (fun _=>False)):=by
    refine cQ (fun xx=>xx.1=l_∧xx.2.1=m_∧xx.2.2.2.1=k_∧0≤xx.2.2.2.2∧xx.2.2.2.2≤(m_.length:Int)) (fun xx=>((m_.length:Int) - xx.2.2.2.2).toNat) ?_ _ _ ⟨rfl,rfl,rfl,by dsimp only;omega,by dsimp only;omega⟩ (by dsimp only;omega)
    rintro ⟨p_,q_,c_,i_,j_⟩ ⟨h1,h2,h3,h4,h5⟩
    dsimp only at h1 h2 h3 h4 h5
    subst h1;subst h2;subst h3
    unfold BQ Hz
    dsimp only
    refine az (fun hj=>?_) (fun _=>dW ⟨rfl,rfl,rfl⟩)
    have hw:aF (j_+1)=j_+1:=bF (by omega)
    refine al (bw fun x hx=>al (bw fun y hy=>?_))
    rw [hy.2]
    simp only [bG,hx.2,hw]
    have r1:=ha.1 x hx.1
    have r2:=hb.1 y hy.1
    unfold RS at r1 r2
    refine az (fun c1=>al (al (az (fun c2=>?_) fun _=>cF ?_))) fun _=>cF ?_
    · exact (h (max x.from_ y.from_) ⟨x,hx.1,by omega,by omega⟩ ⟨y,hy.1,by omega,by omega⟩).elim
    all_goals dsimp only;exact ⟨⟨rfl,rfl,rfl,by omega,by omega⟩,by omega⟩
  refine aT inner fun y hy=>eG hy (fun z hz=>cF ?_) (fun _ h=>h.elim)
  obtain ⟨z1,z2,z3⟩:=hz
  dsimp only
  rw [z1,z2,z3,hw]
  exact ⟨⟨rfl,rfl,by omega,by omega⟩,by omega⟩
theorem gj.two {l:List bP}(h:gj l):∃ u v x y,l=[bP.mk cV 0 0 20 10 u v,bP.mk cX 1 (-30) 30 0 x y]:=by
  have h2:=h.len
  obtain ⟨h1,_⟩:=h
  match l,h2 with
  | [⟨a,b,c,d,e,f,g⟩,⟨a',b',c',d',e',f',g'⟩],_ =>
    simp [ck,Ea] at h1
    obtain ⟨⟨rfl,rfl,rfl,rfl,rfl⟩,rfl,rfl,rfl,rfl,rfl⟩:=h1
    exact ⟨f,g,f',g',rfl⟩
theorem CO (b:aG)(h:gj b.af):kj b cV=some 0∧kj b cX=some 1:=by
  obtain ⟨u,v,x,y,h⟩:=h.two
  obtain ⟨c,f,l,bd⟩:=b
  dsimp only at h
  subst h
  exact ⟨by kernel_rfl,by kernel_rfl⟩
theorem SL.ne {l:List Slice}(h:SL l){i j:Nat}{a b:Slice}(ha:l[i]?=some a)(hb:l[j]?=some b)(hij:i < j):cA a.key b.key=false:=by
  have h2:=h.len
  have k1:(l.map (·.key))[i]?=some a.key:=by rw [List.getElem?_map,ha];rfl
  have k2:(l.map (·.key))[j]?=some b.key:=by rw [List.getElem?_map,hb];rfl
  have h3:=(List.getElem?_eq_some_iff.1 hb).1
  have e1:i=0:=by omega
  have e2:j=1:=by omega
  subst e1;subst e2
  rw [h.1,show l.length=2 by omega] at k1 k2
  have k1:cV=a.key:=Option.some.inj k1
  have k2:cX=b.key:=Option.some.inj k2
  rw [← k1,← k2];decide
theorem aFB {U:Nat}(b:aG)(l:aH)(hp:gj b.af)(h:jL U l)(hU:U≤100000):Ok (th b l) (fun y=>y=true):=by
  have hsl:=h.sl.len
  have hil:=h.ids.len
  have hul:=h.used
  have hdv:=h.dv
  have hpl:∀ s∈l.aW,Ok (kj b s.key) (fun r=>0≤r):=fun s hs=>by
    obtain ⟨p1,p2⟩:=CO b hp
    rcases h.sl.key s hs with e | e<;>rw [e]
    · exact ⟨0,p1,by decide⟩
    · exact ⟨1,p2,by decide⟩
  have l1:Ok (DP false 0 b l) (dP (fun y=>y.2.2=l) (fun _=>False)):=by
    refine cQ (fun xx=>xx.2.2.1=b∧xx.2.2.2=l∧0≤xx.2.1∧xx.2.1≤(l.aW.length:Int)) (fun xx=>((l.aW.length:Int) - xx.2.1).toNat) ?_ _ _ ⟨rfl,rfl,by dsimp only;omega,by dsimp only;omega⟩ (by dsimp only;omega)
    rintro ⟨b_,k_,x_,l_⟩ ⟨h1,h2,h3,h4⟩
    dsimp only at h1 h2 h3 h4
    subst h1;subst h2
    unfold Au IV
    dsimp only
    refine az (fun hi=>?_) (fun _=>dW rfl)
    have hw:aF (k_+1)=k_+1:=bF (by omega)
    refine al (bw fun s hs=>aT (hpl s hs.1) fun r hr=>?_)
    obtain ⟨e1,e2,e3,e4,e5,e6⟩:=h.sl.2 s hs.1
    rw [decide_eq_false (show ¬ r < 0 by omega),decide_eq_false (show ¬ s.dy < 0 by omega),decide_eq_false (show ¬ s.dy > s.bj by omega),decide_eq_false (show ¬ s.eO < 0 by omega),decide_eq_false (show ¬ s.eO > s.cE by omega),decide_eq_false (show ¬ s.bj > 2199023255552 by omega),decide_eq_false (show ¬ s.cE > 2199023255552 by omega)]
    simp only [cond_false]
    have g3:=h3
    have g4:=h4
    clear h3 h4
    have inner:Ok (Dc b_ k_ 0 x_ l_ s) (dP (fun y=>y.2.1=k_∧y.2.2.1=x_∧y.2.2.2.1=l_) (fun _=>False)):=by
      refine cQ (fun xx=>xx.2.1=k_∧xx.2.2.2.1=x_∧xx.2.2.2.2.1=l_∧xx.2.2.2.2.2=s∧0≤xx.2.2.1∧xx.2.2.1≤k_) (fun xx=>(k_ - xx.2.2.1).toNat) ?_ _ _ ⟨rfl,rfl,rfl,rfl,by dsimp only;omega,by dsimp only;omega⟩ (by dsimp only;omega)
      rintro ⟨c_,i_,j_,y_,m_,t_⟩ ⟨h1,h2,h3,h4,h5,h6⟩
      dsimp only at h1 h2 h3 h4 h5 h6
      subst h1;subst h2;subst h3;subst h4
      unfold An I1
      dsimp only
      refine az (fun hj=>?_) (fun _=>dW ⟨rfl,rfl,rfl⟩)
      have hw:aF (j_+1)=j_+1:=bF (by omega)
      refine al (bw fun t ht=>?_)
      rw [h.sl.ne ht.2 hs.2 (by omega),cond_false,hw]
      refine cF ?_
      dsimp only;exact ⟨⟨rfl,rfl,rfl,rfl,by omega,by omega⟩,by omega⟩
    refine aT inner fun y hy=>eG hy (fun z hz=>cF ?_) (fun _ h=>h.elim)
    obtain ⟨z1,z2,z3⟩:=hz
    dsimp only
    rw [z1,z2,z3,hw]
    exact ⟨⟨rfl,rfl,by omega,by omega⟩,by omega⟩
  unfold th
  refine aT l1 fun y hy=>eG hy (fun z hz=>?_) (fun _ h=>h.elim)
  obtain ⟨z1,z2,z3⟩:=z
  dsimp only at hz ⊢
  subst hz
  refine az (fun _=>by omega) fun _=>az (fun _=>by omega) fun _=>aT (Qk _ h.ids) fun r hr=>?_
  rw [hr]
  refine aT (OC _ (by omega) h.up) fun r hr=>?_
  rw [hr]
  simp only [Bool.not_true,cond_false]
  refine mq ?_ fun _=>aR rfl
  refine cQ (fun xx=>xx.2.2=z3∧0≤xx.2.1∧xx.2.1≤(z3.used.length:Int)) (fun xx=>((z3.used.length:Int) - xx.2.1).toNat) ?_ _ _ ⟨rfl,by dsimp only;omega,by dsimp only;omega⟩ (by dsimp only;omega)
  rintro ⟨b_,k_,l_⟩ ⟨h1,h2,h3⟩
  dsimp only at h1 h2 h3
  subst h1
  unfold AR H0
  dsimp only
  refine az (fun hi=>?_) (fun _=>dW trivial)
  have hw:aF (k_+1)=k_+1:=bF (by omega)
  refine al (bw fun n hn=>aT (S5 _ n (by omega)) fun r hr=>?_)
  cases r with
  | false=>exact absurd (h.am n hn.1) (by simpa using hr)
  | true =>
    refine cF ?_
    dsimp only;exact ⟨⟨rfl,by omega,by omega⟩,by omega⟩
theorem xD {α:Type}(f:α→Int){l:List α}{k:Nat}{e:α}(he:l[k]?=some e):sm f (l.take (k+1))=sm f (l.take k)+f e:=by
  obtain ⟨h1,h2⟩:=List.getElem?_eq_some_iff.1 he
  rw [List.take_succ_eq_append_getElem h1,h2,lE]
  simp [sm]
theorem xf {α:Type}{f:α→Int}{l:List α}(h:∀ x∈l,0≤f x)(k:Nat):0≤sm f (l.take k)∧sm f (l.take k)≤sm f l:=by
  have h1:=jg (f:=f) (l:=l.take k) (fun x hx=>h x (List.mem_of_mem_take hx))
  have h2:=jg (f:=f) (l:=l.drop k) (fun x hx=>h x (List.mem_of_mem_drop hx))
  have h3:=lE f (l.take k) (l.drop k)
  rw [List.take_append_drop] at h3
  omega
theorem aDZ {U B:Nat}(b:aG)(h:ef U B b)(c:bP)(hc:c∈b.af):Ok (tp b c.key) (fun r=>0≤r.a2∧0≤r.a5):=by
  have hln:=h.ln
  have hle:∀ t k,sm (lv t k) b.aK≤30:=fun t k=>by
    have h1:=h.rt t k
    have h2:=Ci k
    have h3:=jg (DM h.cn (d:=t) (k:=k))
    unfold Rt at h1;omega
  have loop:∀ (k:ByteArray) (ax:eY) (c:bP),Ok (qm k 0 0 0 b ax c) (fun y=>y.1=sm (lv true k) b.aK∧y.2.1=sm (lv false k) b.aK∧y.2.2.2.2=c):=fun k ax c=>by
    refine cQ (fun xx=>xx.1=k∧xx.2.2.2.2.1=b∧xx.2.2.2.2.2.2=c∧0≤xx.2.2.2.1∧xx.2.2.2.1≤(b.aK.length:Int)∧xx.2.1=sm (lv true k) (b.aK.take xx.2.2.2.1.toNat)∧xx.2.2.1=sm (lv false k) (b.aK.take xx.2.2.2.1.toNat)) (fun xx=>((b.aK.length:Int) - xx.2.2.2.1).toNat) ?_ _ _ ⟨rfl,rfl,rfl,by dsimp only;omega,by dsimp only;omega,rfl,rfl⟩ (by dsimp only;omega)
    rintro ⟨s_,i_,j_,k_,b_,x_,c_⟩ ⟨h1,h2,h3,h4,h5,h6,h7⟩
    dsimp only at h1 h2 h3 h4 h5 h6 h7
    subst h1;subst h2;subst h3;subst h6;subst h7
    unfold B9 JE
    dsimp only
    refine az (fun hi=>?_) (fun _=>dg ⟨by dsimp only;rw [List.take_of_length_le (by omega)],by dsimp only;rw [List.take_of_length_le (by omega)],rfl⟩)
    have hw:aF (k_+1)=k_+1:=bF (by omega)
    have ht:(k_+1).toNat=k_.toNat+1:=by omega
    obtain ⟨l,hl⟩:∃ l,b_.aK[k_.toNat]?=some l:=⟨_,List.getElem?_eq_getElem (by omega)⟩
    have hlm:=List.mem_of_getElem? hl
    have hls:=h.ls l hlm
    have hsl:=hls.sl.len
    have u1:=xf (f:=lv true s_) (fun x hx=>(h.ls x hx).lv) k_.toNat
    have u2:=xf (f:=lv false s_) (fun x hx=>(h.ls x hx).lv) k_.toNat
    have u3:=hle true s_
    have u4:=hle false s_
    have inner:∀ p q:Int,0≤p→p≤30→0≤q→q≤30→Ok (Ct s_ p q k_ 0 b_ x_ c_) (fun y=>y.1=s_∧y.2.1=p+lv true s_ l∧y.2.2.1=q+lv false s_ l∧y.2.2.2.1=k_∧y.2.2.2.2.1=b_∧y.2.2.2.2.2.2=c_):=fun p q p0 p1 q0 q1=>by
      refine cQ (fun y=>y.1=s_∧y.2.2.2.1=k_∧y.2.2.2.2.2.1=b_∧y.2.2.2.2.2.2.2=c_∧0≤y.2.2.2.2.1∧y.2.2.2.2.1≤(l.aW.length:Int)∧y.2.1=p+sm (sv true s_) (l.aW.take y.2.2.2.2.1.toNat)∧y.2.2.1=q+sm (sv false s_) (l.aW.take y.2.2.2.2.1.toNat)) (fun y=>((l.aW.length:Int) - y.2.2.2.2.1).toNat) ?_ _ _ ⟨rfl,rfl,rfl,rfl,by dsimp only;omega,by dsimp only;omega,by simp [sm],by simp [sm]⟩ (by dsimp only;omega)
      rintro ⟨s1,i1,j1,m1,n1,b1,x1,c1⟩ ⟨g1,g2,g3,g4,g5,g6,g7,g8⟩
      dsimp only at g1 g2 g3 g4 g5 g6 g7 g8
      subst g1;subst g2;subst g3;subst g4;subst g7;subst g8
      unfold AE Hk
      dsimp only
      rw [hl]
      refine al ?_
      simp only [bG]
      refine az (fun hi=>?_) (fun _=>dg ⟨rfl,by dsimp only;rw [List.take_of_length_le (by omega)];rfl,by dsimp only;rw [List.take_of_length_le (by omega)];rfl,rfl,rfl,rfl⟩)
      have hw:aF (n1+1)=n1+1:=bF (by omega)
      have ht:(n1+1).toNat=n1.toNat+1:=by omega
      refine al (al (bw fun s hs=>cF ?_))
      obtain ⟨e1,e2,e3,e4,e5,e6⟩:=hls.sl.2 s hs.1
      have v1:=xf (f:=sv true s1) (fun x hx=>xE (hls.sl.2 x hx)) n1.toNat
      have v2:=xf (f:=sv false s1) (fun x hx=>xE (hls.sl.2 x hx)) n1.toNat
      have v3:=qp (f:=lv true s1) (fun x hx=>(h.ls x hx).lv) l hlm
      have v4:=qp (f:=lv false s1) (fun x hx=>(h.ls x hx).lv) l hlm
      have v5:sm (sv true s1) l.aW=lv true s1 l:=rfl
      have v6:sm (sv false s1) l.aW=lv false s1 l:=rfl
      dsimp only
      rw [hw,ht,xD _ hs.2,xD _ hs.2]
      generalize sm (sv true s1) (l.aW.take n1.toNat)=A at v1 ⊢
      generalize sm (sv false s1) (l.aW.take n1.toNat)=D at v2 ⊢
      rw [bF (n:=p+A+s.bj) (by omega),bF (n:=p+A+s.bj - s.dy) (by omega),bF (n:=q+D+s.cE) (by omega),bF (n:=q+D+s.cE - s.eO) (by omega)]
      refine ⟨⟨rfl,rfl,rfl,rfl,by omega,by omega,?_,?_⟩,by omega⟩<;>(unfold sv;cases cA s.key s1<;>simp only [cond_true,cond_false]<;>omega)
    refine aT (inner _ _ (by omega) (by omega) (by omega) (by omega)) fun y hy=>cF ?_
    obtain ⟨y1,y2,y3,y4,y5,y6⟩:=hy
    dsimp only
    rw [y1,y2,y3,y4,y5,y6,hw,ht,xD _ hl,xD _ hl]
    exact ⟨⟨rfl,rfl,rfl,by omega,by omega,rfl,rfl⟩,by omega⟩
  have hR:∀ t,sm (cv t c.key) b.af+sm (lv t c.key) b.aK≤gD c.key:=fun t=>h.rt t c.key
  have hR1:=hR true
  have hR2:=hR false
  have hn1:=jg (f:=lv true c.key) (l:=b.aK) (fun x hx=>(h.ls x hx).lv)
  have hn2:=jg (f:=lv false c.key) (l:=b.aK) (fun x hx=>(h.ls x hx).lv)
  have hle1:=hle true c.key
  have hle2:=hle false c.key
  obtain ⟨p1,p2⟩:=CO b h.cn
  have hpo:=h.cn.2
  obtain ⟨u,v,x,z,hcn⟩:=h.cn.two
  unfold tp
  have aa:cA cV cV=true:=by decide
  have bb:cA cX cX=true:=by decide
  have ab:cA cV cX=false:=by decide
  have ba:cA cX cV=false:=by decide
  rw [hcn] at hc hR1 hR2 hpo
  rcases List.mem_cons.1 hc with rfl | hc
  · have hq:=hpo _ (List.mem_cons_self ..)
    simp only [sm,cv,gD,aa,ba,cond_true,cond_false] at hR1 hR2 hq
    rw [p1,hcn]
    simp only [bG]
    refine az (fun h=>by omega) fun _=>al ?_
    show Ok (ob (qm cV 0 0 0 b (eY.mk 0 0 0 0 0 0) _) _) _
    refine aT (loop cV _ _) fun y hy=>?_
    obtain ⟨y1,y2,y3⟩:=hy
    rw [y1,y2,y3]
    refine aR ?_
    dsimp only at *
    generalize sm (lv true cV) b.aK=P at *
    generalize sm (lv false cV) b.aK=Q at *
    rw [bF (n:=20 - 10) (by omega),bF (n:=20 - 10 - u) (by omega),bF (n:=20 - 10 - u - P) (by omega),bF (n:=10 - 0) (by omega),bF (n:=10 - 0 - v) (by omega),bF (n:=10 - 0 - v - Q) (by omega)]
    omega
  · have hc:=List.mem_singleton.1 hc
    subst hc
    have hq:=hpo _ (List.mem_cons_of_mem _ (List.mem_cons_self ..))
    simp only [sm,cv,gD,bb,ab,ba,cond_true,cond_false] at hR1 hR2 hq
    rw [p2,hcn]
    simp only [bG]
    refine az (fun h=>by omega) fun _=>al ?_
    show Ok (ob (qm cX 0 0 0 b (eY.mk 0 0 0 0 0 0) _) _) _
    refine aT (loop cX _ _) fun y hy=>?_
    obtain ⟨y1,y2,y3⟩:=hy
    rw [y1,y2,y3]
    refine aR ?_
    dsimp only at *
    generalize sm (lv true cX) b.aK=P at *
    generalize sm (lv false cX) b.aK=Q at *
    rw [bF (n:=30 - 0) (by omega),bF (n:=30 - 0 - x) (by omega),bF (n:=30 - 0 - x - P) (by omega),bF (n:=0 - -30) (by omega),bF (n:=0 - -30 - z) (by omega),bF (n:=0 - -30 - z - Q) (by omega)]
    omega
theorem aES {U B:Nat}(b:aG)(h:ef U B b)(hU:U≤100000)(hB:B≤1000000):Ok (tk b) (fun y=>y=true):=by
  have hln:=h.ln
  have hbd:=h.bd
  unfold tk
  refine cw (by simp) ?_
  have l1:Ok (Da false ([]++[b.free]) 0 b) (fun y=>y.2.1=b.free::b.aK.map (·.ids)∧y.2.2=b):=by
    refine cQ (fun xx=>xx.2.2.2=b∧0≤xx.2.2.1∧xx.2.2.1≤(b.aK.length:Int)∧xx.2.1=b.free::(b.aK.take xx.2.2.1.toNat).map (·.ids)) (fun xx=>((b.aK.length:Int) - xx.2.2.1).toNat) ?_ _ _ ⟨rfl,by dsimp only;omega,by dsimp only;omega,rfl⟩ (by dsimp only;omega)
    rintro ⟨b_,l_,k_,x_⟩ ⟨h1,h2,h3,h4⟩
    dsimp only at h1 h2 h3 h4
    subst h1;subst h4
    unfold Aw II
    dsimp only
    refine az (fun hi=>?_) (fun _=>dg ⟨by dsimp only;rw [List.take_of_length_le (by omega)],rfl⟩)
    have hw:aF (k_+1)=k_+1:=bF (by omega)
    have ht:(k_+1).toNat=k_.toNat+1:=by omega
    refine al (bw fun l hl=>cw (by simp only [List.length_append,List.length_cons,List.length_map,List.length_take,List.length_nil];omega) (cF ?_))
    obtain ⟨p1,p2⟩:=List.getElem?_eq_some_iff.1 hl.2
    dsimp only
    rw [hw,ht,List.take_succ_eq_append_getElem p1,p2,List.map_append]
    exact ⟨⟨rfl,by omega,by omega,rfl⟩,by omega⟩
  refine aT l1 fun y hy=>?_
  obtain ⟨y1,y2,y3⟩:=y
  obtain ⟨q1,q2⟩:=hy
  dsimp only at q1 q2 ⊢
  have hrow:∀ l∈y2,SR l∧∀ n∈b.bB,¬ In l n:=fun l hl=>by
    rw [q1] at hl
    rcases List.mem_cons.1 hl with rfl | hl
    · exact ⟨h.free,fun n hn w=>h.a3 n hn w⟩
    · obtain ⟨m,hm,rfl⟩:=List.mem_map.1 hl
      exact ⟨(h.ls m hm).ids,fun n hn w=>h.a4 n hn m hm w⟩
  have hpw:y2.Pairwise Dj:=by
    rw [q1]
    refine List.pairwise_cons.2 ⟨fun l hl=>?_,List.pairwise_map.2 h.a2⟩
    obtain ⟨m,hm,rfl⟩:=List.mem_map.1 hl
    exact h.a1 m hm
  have hl2:y2.length≤1001:=by rw [q1,List.length_cons,List.length_map];omega
  clear q1
  subst q2
  refine mq ?_ fun _=>aR rfl
  refine cQ (fun xx=>xx.2.1=y2∧xx.2.2.2=y3∧0≤xx.2.2.1∧xx.2.2.1≤(y2.length:Int)) (fun xx=>((y2.length:Int) - xx.2.2.1).toNat) ?_ _ _ ⟨rfl,rfl,by dsimp only;omega,by dsimp only;omega⟩ (by dsimp only;omega)
  rintro ⟨b_,l_,k_,x_⟩ ⟨h1,h2,h3,h4⟩
  dsimp only at h1 h2 h3 h4
  subst h1;subst h2
  unfold Ax JC
  dsimp only
  refine az (fun hi=>?_) (fun _=>dW trivial)
  have hw:aF (k_+1)=k_+1:=bF (by omega)
  have g3:=h3
  have g4:=h4
  clear h3 h4
  obtain ⟨r,hr⟩:∃ r,l_[k_.toNat]?=some r:=⟨_,List.getElem?_eq_getElem (by omega)⟩
  have hrm:=hrow r (List.mem_of_getElem? hr)
  have i1:Ok (C4 b_ l_ k_ 0 x_) (dP (fun y=>y.2.1=l_∧y.2.2.1=k_∧y.2.2.2=x_) (fun _=>False)):=by
    refine cQ (fun xx=>xx.2.1=l_∧xx.2.2.1=k_∧xx.2.2.2.2=x_∧0≤xx.2.2.2.1∧xx.2.2.2.1≤k_) (fun xx=>(k_ - xx.2.2.2.1).toNat) ?_ _ _ ⟨rfl,rfl,rfl,by dsimp only;omega,by dsimp only;omega⟩ (by dsimp only;omega)
    rintro ⟨c_,m_,i_,j_,y_⟩ ⟨h1,h2,h3,h4,h5⟩
    dsimp only at h1 h2 h3 h4 h5
    subst h1;subst h2;subst h3
    unfold Ae H8
    dsimp only
    refine az (fun hj=>?_) (fun _=>dW ⟨rfl,rfl,rfl⟩)
    have hw:aF (j_+1)=j_+1:=bF (by omega)
    rw [hr]
    refine al (al ?_)
    simp only [bG]
    refine al (al (bw fun t ht=>aT (aFd r t hrm.1 (hrow t ht.1).1 (fun x w1 w2=>qY hpw ht.2 hr (by omega) x w2 w1)) fun q hq=>?_))
    rw [hq,cond_false,hw]
    refine cF ?_
    dsimp only;exact ⟨⟨rfl,rfl,rfl,by omega,by omega⟩,by omega⟩
  have i2:∀ c,Ok (CZ c l_ k_ 0 x_) (dP (fun y=>y.2.1=l_∧y.2.2.1=k_∧y.2.2.2=x_) (fun _=>False)):=by
    intro c0
    refine cQ (fun xx=>xx.2.1=l_∧xx.2.2.1=k_∧xx.2.2.2.2=x_∧0≤xx.2.2.2.1∧xx.2.2.2.1≤(x_.bB.length:Int)) (fun xx=>((x_.bB.length:Int) - xx.2.2.2.1).toNat) ?_ _ _ ⟨rfl,rfl,rfl,by dsimp only;omega,by dsimp only;omega⟩ (by dsimp only;omega)
    rintro ⟨c_,m_,i_,j_,y_⟩ ⟨h1,h2,h3,h4,h5⟩
    dsimp only at h1 h2 h3 h4 h5
    subst h1;subst h2;subst h3
    unfold AX Gy
    dsimp only
    refine az (fun hj=>?_) (fun _=>dW ⟨rfl,rfl,rfl⟩)
    have hw:aF (j_+1)=j_+1:=bF (by omega)
    rw [hr]
    refine al (al ?_)
    simp only [bG]
    have hrl:=hrm.1.len
    refine al (bw fun n hn=>aT (S5 r n (by omega)) fun q hq=>?_)
    cases q with
    | true=>exact absurd (by simpa using hq) (hrm.2 n hn.1)
    | false =>
      rw [cond_false,hw]
      refine cF ?_
      dsimp only;exact ⟨⟨rfl,rfl,rfl,by omega,by omega⟩,by omega⟩
  refine aT i1 fun y hy=>eG hy (fun z hz=>?_) (fun _ h=>h.elim)
  obtain ⟨z0,z1,z2,z3⟩:=z
  obtain ⟨w1,w2,w3⟩:=hz
  dsimp only at w1 w2 w3 ⊢
  subst w1;subst w2;subst w3
  refine aT (i2 z0) fun y hy=>eG hy (fun z hz=>cF ?_) (fun _ h=>h.elim)
  obtain ⟨w1,w2,w3⟩:=hz
  dsimp only
  rw [w1,w2,w3,hw]
  exact ⟨⟨rfl,rfl,by omega,by omega⟩,by omega⟩
theorem aEa {U B:Nat}(b:aG)(h:ef U B b)(hU:U≤100000)(hB:B≤1000000):mZ b=some true:=by
  have hln:=h.ln
  have hbd:=h.bd
  have hcl:=h.cn.len
  obtain ⟨p1,p2⟩:=CO b h.cn
  have hct:∀ (k:Nat) c,b.af[k]?=some c→tP c=some true∧kj b c.key=some (k:Int):=fun k c hc=>by
    obtain ⟨u,v,x,z,hcn⟩:=h.cn.two
    have hk:=(List.getElem?_eq_some_iff.1 hc).1
    rw [hcn] at hc
    have:k=0∨k=1:=by omega
    rcases this with rfl | rfl<;>cases hc
    · exact ⟨by kernel_rfl,p1⟩
    · exact ⟨by kernel_rfl,p2⟩
  have l1:Ok (Dh false 0 b) (dP (fun y=>y.2=b) (fun _=>False)):=by
    refine cQ (fun xx=>xx.2.2=b∧0≤xx.2.1∧xx.2.1≤(b.af.length:Int)) (fun xx=>((b.af.length:Int) - xx.2.1).toNat) ?_ _ _ ⟨rfl,by dsimp only;omega,by dsimp only;omega⟩ (by dsimp only;omega)
    rintro ⟨b_,k_,x_⟩ ⟨h1,h2,h3⟩
    dsimp only at h1 h2 h3
    subst h1
    unfold Az JD
    dsimp only
    refine az (fun hi=>?_) (fun _=>dW rfl)
    have hw:aF (k_+1)=k_+1:=bF (by omega)
    refine al (bw fun c hc=>?_)
    obtain ⟨c1,c2⟩:=hct _ c hc.2
    obtain ⟨q1,q2,q3,q4⟩:=h.cn.2 c hc.1
    rw [c1,c2]
    simp only [bG,Bool.not_true,cond_false]
    have hkk:((k_.toNat:Int) != k_)=false:=by rw [Int.toNat_of_nonneg h2];simp
    rw [hkk,decide_eq_false (show ¬ c.bj < 0 by omega),decide_eq_false (show ¬ c.cE < 0 by omega),decide_eq_false (show ¬ c.bj > 2199023255552 by omega),decide_eq_false (show ¬ c.cE > 2199023255552 by omega)]
    simp only [cond_false,hw]
    refine cF ?_
    dsimp only;exact ⟨⟨rfl,by omega,by omega⟩,by omega⟩
  have l2:∀ c,Ok (Dv c 0 b) (dP (fun y=>y.2=b) (fun _=>False)):=fun c=>by
    refine cQ (fun xx=>xx.2.2=b∧0≤xx.2.1∧xx.2.1≤(b.aK.length:Int)) (fun xx=>((b.aK.length:Int) - xx.2.1).toNat) ?_ _ _ ⟨rfl,by dsimp only;omega,by dsimp only;omega⟩ (by dsimp only;omega)
    rintro ⟨b_,k_,x_⟩ ⟨h1,h2,h3⟩
    dsimp only at h1 h2 h3
    subst h1
    unfold B7 Hr
    dsimp only
    refine az (fun hi=>?_) (fun _=>dW rfl)
    have hw:aF (k_+1)=k_+1:=bF (by omega)
    have fin:∀ _:Bool,(x_=x_∧0≤aF (k_+1)∧aF (k_+1)≤(x_.aK.length:Int))∧((x_.aK.length:Int) - aF (k_+1)).toNat < ((x_.aK.length:Int) - k_).toNat:=fun _=>⟨⟨rfl,by omega,by omega⟩,by omega⟩
    refine al (bw fun l hl=>aT (aFB x_ l h.cn (h.ls l hl.1) hU) fun r hr=>?_)
    rw [hr,Bool.not_true,cond_false]
    refine az (fun hk=>?_) fun _=>cF (fin true)
    have hw1:aF (k_ - 1)=k_ - 1:=bF (by omega)
    refine al (bw fun m hm=>al ?_)
    rw [hl.2,bG]
    refine az (fun hc=>?_) fun _=>cF (fin true)
    have:=qY h.od hm.2 hl.2 (by omega);omega
  have l3:∀ c,Ok (C9 c 0 b) (dP (fun y=>y.2=b) (fun _=>False)):=fun c=>by
    refine cQ (fun xx=>xx.2.2=b∧0≤xx.2.1∧xx.2.1≤(b.af.length:Int)) (fun xx=>((b.af.length:Int) - xx.2.1).toNat) ?_ _ _ ⟨rfl,by dsimp only;omega,by dsimp only;omega⟩ (by dsimp only;omega)
    rintro ⟨b_,k_,x_⟩ ⟨h1,h2,h3⟩
    dsimp only at h1 h2 h3
    subst h1
    unfold Ab H5
    dsimp only
    refine az (fun hi=>?_) (fun _=>dW rfl)
    have hw:aF (k_+1)=k_+1:=bF (by omega)
    refine al (bw fun c hc=>aT (aDZ x_ h c hc.1) fun r hr=>o4 (fun hb=>by omega) fun _ _=>cF ?_)
    dsimp only;exact ⟨⟨rfl,by omega,by omega⟩,by omega⟩
  refine jv ?_
  unfold mZ
  refine aT l1 fun y hy=>eG hy (fun z hz=>?_) (fun _ h=>h.elim)
  rw [hz]
  refine aT (l2 _) fun y hy=>eG hy (fun z hz=>?_) (fun _ h=>h.elim)
  rw [hz]
  refine aT (l3 _) fun y hy=>eG hy (fun z hz=>?_) (fun _ h=>h.elim)
  rw [hz]
  refine aT (Qk _ h.free) fun r hr=>?_
  rw [hr]
  refine aT (OC _ (by omega) h.bs) fun r hr=>?_
  rw [hr]
  exact aT (aES b h hU hB) fun r hr=>aR hr
theorem CQ (c:ag)(k:ByteArray)(h:fM c)(hk:k=cV∨k=cX):kq c k=some (cs k c):=by
  obtain ⟨v,r,e,g,s,b⟩:=c
  have aa:cA cV cV=true:=by decide
  have bb:cA cX cX=true:=by decide
  have ab:cA cV cX=false:=by decide
  have ba:cA cX cV=false:=by decide
  unfold fM at h
  unfold cs
  dsimp only at h ⊢
  rcases h with h | h | h | h
  · rw [List.map_eq_nil_iff.1 h]
    rcases hk with rfl | rfl<;>(show kq _ _=some _)<;>kernel_rfl
  · obtain ⟨x,rfl⟩:=o6 h
    rcases hk with rfl | rfl<;>simp only [sm,aa,ab,cond_true,cond_false,Int.add_zero]<;>(show kq _ _=some _)<;>kernel_rfl
  · obtain ⟨x,rfl⟩:=o6 h
    rcases hk with rfl | rfl<;>simp only [sm,ba,bb,cond_true,cond_false,Int.add_zero]<;>(show kq _ _=some _)<;>kernel_rfl
  · obtain ⟨x,y,rfl⟩:=EZ h
    rcases hk with rfl | rfl<;>simp only [sm,aa,bb,ab,ba,cond_true,cond_false,Int.add_zero,Int.zero_add]<;>(show kq _ _=some _)<;>kernel_rfl
def TX (s:ByteArray):Prop:=(s.size:Int)≤40∧∀ i:Nat,i < s.size→¬ ((s[i]?.getD 0).toNat:Int) < 32∧((s[i]?.getD 0).toNat:Int)≠127
theorem PT (s:ByteArray)(hs:s.size≤1000):Ok (m9 s) (fun y=>y=true→TX s):=by
  unfold m9
  refine aT (P:=dP (fun y=>y.1=s∧∀ i:Nat,i < s.size→¬ ((s[i]?.getD 0).toNat:Int) < 32∧((s[i]?.getD 0).toNat:Int)≠127) (fun y=>y.2=false)) ?_ fun y hy=>eG hy (fun a ha=>aR fun h=>⟨by rw [← ha.1];exact of_decide_eq_true h,ha.2⟩) (fun b hb=>aR fun h=>by rw [hb] at h;cases h)
  refine cQ (fun xx=>xx.1=s∧xx.2.2.1=(s.size:Int)∧0≤xx.2.2.2∧xx.2.2.2≤(s.size:Int)∧(∀ i:Nat,(i:Int) < xx.2.2.2→¬ ((s[i]?.getD 0).toNat:Int) < 32∧((s[i]?.getD 0).toNat:Int)≠127)) (fun xx=>((s.size:Int) - xx.2.2.2).toNat) ?_ _ _ ⟨rfl,rfl,by dsimp only;omega,by dsimp only;omega,(fun i h=>by dsimp only at h;omega)⟩ (by dsimp only;omega)
  rintro ⟨s_,b_,n_,k_⟩ ⟨h1,h2,h3,h4,h5⟩
  dsimp only at h1 h2 h3 h4 h5
  subst h1;subst h2
  unfold uC zn
  dsimp only
  refine az (fun hi=>?_) (fun hi=>dW ⟨rfl,fun i h=>h5 i (by omega)⟩)
  have hw:aF (k_+1)=k_+1:=bF (by omega)
  refine al (al (az (fun _=>ez rfl) fun c1=>al (al (de (fun _=>ez rfl) fun c2=>cF ?_))))
  dsimp only
  refine ⟨⟨rfl,rfl,by omega,by omega,fun i h=>?_⟩,by omega⟩
  by_cases hik:i=k_.toNat
  · subst hik;exact ⟨c1,c2⟩
  · exact h5 i (by omega)
theorem P0 (s:ByteArray)(h:TX s):nl s=some true:=by
  obtain ⟨h1,h2⟩:=h
  refine jv ?_
  unfold nl
  refine az (fun _=>by omega) fun _=>mq ?_ fun _=>aR rfl
  refine cQ (fun xx=>xx.1=s∧0≤xx.2.2∧xx.2.2≤(s.size:Int)) (fun xx=>((s.size:Int) - xx.2.2).toNat) ?_ _ _ ⟨rfl,by dsimp only;omega,by dsimp only;omega⟩ (by dsimp only;omega)
  rintro ⟨s_,b_,k_⟩ ⟨h1,h2,h3⟩
  dsimp only at h1 h2 h3
  subst h1
  unfold Ba I6
  dsimp only
  refine az (fun hi=>?_) (fun hi=>dW trivial)
  have hw:aF (k_+1)=k_+1:=bF (by omega)
  obtain ⟨q1,q2⟩:=h2 k_.toNat (by omega)
  refine al (al (az (fun h=>absurd h q1) fun c1=>al (al (de (fun h=>absurd h q2) fun c2=>cF ?_))))
  dsimp only
  exact ⟨⟨rfl,by omega,by omega⟩,by omega⟩
theorem wb (a b:Int):(a < b∧gZ a b=some (-1))∨(a=b∧gZ a b=some 0)∨(b < a∧gZ a b=some 1):=by
  unfold gZ lX
  simp only [bG,bne_self_eq_false,cond_false]
  by_cases h1:a < b
  · exact .inl ⟨h1,by rw [decide_eq_true h1];rfl⟩
  · by_cases h2:a > b
    · exact .inr (.inr ⟨h2,by rw [decide_eq_false h1,decide_eq_true h2];rfl⟩)
    · exact .inr (.inl ⟨by omega,by rw [decide_eq_false h1,decide_eq_false h2];rfl⟩)
theorem TB (a b:Int):∃ r,gZ a b=some r:=by
  rcases wb a b with ⟨_,h⟩ | ⟨_,h⟩ | ⟨_,h⟩<;>exact ⟨_,h⟩
theorem aL4 (r s:Int):iC [-1,r,s]=some (-1):=by kernel_rfl
theorem aMb (r s:Int):iC [1,r,s]=some 1:=by kernel_rfl
theorem aHx (s:Int):iC [0,-1,s]=some (-1):=by kernel_rfl
theorem aGP (s:Int):iC [0,1,s]=some 1:=by kernel_rfl
theorem aF9:iC [0,0,-1]=some (-1):=by kernel_rfl
theorem aFT:iC [0,0,1]=some 1:=by kernel_rfl
theorem aFX:iC [0,0,0]=some 0:=by kernel_rfl
theorem aCZ (a b:aL):Ok (n5 a b) (fun r=>r < 0→jt a b=some true):=by
  unfold n5 jt
  obtain ⟨r,hr⟩:=TB a.aA b.aA
  obtain ⟨q,hq⟩:=TB a.seq b.seq
  rcases wb a.device b.device with ⟨d1,d2⟩ | ⟨d1,d2⟩ | ⟨d1,d2⟩
  · rw [d2,hr,hq]
    simp only [bG,aL4]
    exact aR fun _=>by rw [bne_iff_ne.2 (show a.device≠b.device by omega),decide_eq_true d1];rfl
  · rcases wb a.aA b.aA with ⟨e1,e2⟩ | ⟨e1,e2⟩ | ⟨e1,e2⟩
    · rw [d2,e2,hq]
      simp only [bG,aHx]
      exact aR fun _=>by rw [d1,bne_self_eq_false,bne_iff_ne.2 (show a.aA≠b.aA by omega),decide_eq_true e1];rfl
    · rcases wb a.seq b.seq with ⟨s1,s2⟩ | ⟨s1,s2⟩ | ⟨s1,s2⟩
      · rw [d2,e2,s2]
        simp only [bG,aF9]
        exact aR fun _=>by rw [d1,e1,bne_self_eq_false,bne_self_eq_false,decide_eq_true s1];rfl
      · rw [d2,e2,s2]
        simp only [bG,aFX]
        exact aR fun h=>by omega
      · rw [d2,e2,s2]
        simp only [bG,aFT]
        exact aR fun h=>by omega
    · rw [d2,e2,hq]
      simp only [bG,aGP]
      exact aR fun h=>by omega
  · rw [d2,hr,hq]
    simp only [bG,aMb]
    exact aR fun h=>by omega
def DD (l:List aL):Prop:=l.length≤8∧∀ (i:Nat) a b,l[i]?=some a→l[i+1]?=some b→jt a b=some true
theorem aFm (l:List aL):Ok (nq l) (fun y=>y=0→DD l):=by
  unfold nq
  refine az (fun _=>aR (fun h=>by cases h)) fun hl=>?_
  refine aT (P:=dP (fun _=>∀ (i:Nat) a b,l[i]?=some a→l[i+1]?=some b→jt a b=some true) (fun y=>y≠0)) ?_ fun y hy=>eG hy (fun _ h=>aR (fun _=>⟨by omega,h⟩)) (fun _ h=>aR (fun hz=>absurd hz h))
  refine cQ (fun xx=>xx.1=l∧xx.2.2.1=(l.length:Int)∧0≤xx.2.2.2∧xx.2.2.2≤(l.length:Int)∧(∀ (i:Nat) a b,(i:Int)+1 < xx.2.2.2→l[i]?=some a→l[i+1]?=some b→jt a b=some true)) (fun xx=>((l.length:Int) - xx.2.2.2).toNat) ?_ _ _ ⟨rfl,rfl,by dsimp only;omega,by dsimp only;omega,(fun i a b h=>by dsimp only at h;omega)⟩ (by dsimp only;omega)
  rintro ⟨l_,a_,n_,k_⟩ ⟨h1,h2,h3,h4,h5⟩
  dsimp only at h1 h2 h3 h4 h5
  subst h1;subst h2
  unfold uW zq
  dsimp only
  refine az (fun hi=>?_) (fun hi=>dW fun i a b ha hb=>h5 i a b (by have:=(List.getElem?_eq_some_iff.1 hb).1;omega) ha hb)
  have hw:aF (k_+1)=k_+1:=bF (by omega)
  have hw1:aF (k_ - 1)=k_ - 1:=bF (by omega)
  refine az (fun hk=>?_) (fun hk=>cF ?_)
  · refine al (bw fun a ha=>al (bw fun b hb=>aT (aCZ a b) fun r hr=>az (fun _=>ez (by decide)) fun hlt=>cF ?_))
    dsimp only
    refine ⟨⟨rfl,rfl,by omega,by omega,fun i a' b' h ha' hb'=>?_⟩,by omega⟩
    by_cases hik:(i:Int)+1 < k_
    · exact h5 i a' b' hik ha' hb'
    · have e1:i=(aF (k_ - 1)).toNat:=by omega
      have e2:i+1=k_.toNat:=by omega
      rw [e2,hb.2] at hb'
      rw [e1,ha.2] at ha'
      cases ha';cases hb'
      exact hr (by omega)
  · dsimp only
    exact ⟨⟨rfl,rfl,by omega,by omega,fun i a' b' h _ _=>by omega⟩,by omega⟩
structure E6 (o:Op):Prop where
  dv:0≤o.aP.device∧o.aP.device≤5
  ep:1≤o.aP.aA∧o.aP.aA≤1073741824
  sq:1≤o.aP.seq∧o.aP.seq≤1073741824
  co:0≤o.bc∧o.bc≤2
  ve:1≤o.cW∧o.cW≤3
  ti:0≤o.time∧o.time≤1099511627776
  kd:1≤o.kind∧o.kind≤5
  ky:TX o.key
  tx:TX o.text
  ke:o.kind≠5→cA o.key cr=false
  dd:o.kind=3→DD o.cz
  cn:o.kind=4→o.n≠0 ∧ -1099511627776≤o.n∧o.n≤1099511627776
  bn:o.kind=5→0≤o.n∧o.n≤999
theorem aFr (o:Op):Ok (nk o) (fun y=>y=0→(o.kind≠5→1≤o.kind→o.kind≤5→cA o.key cr=false)∧(o.kind=3→DD o.cz)∧(o.kind=4→o.n≠0 ∧ -1099511627776≤o.n∧o.n≤1099511627776)∧(o.kind=5→0≤o.n∧o.n≤999)):=by
  unfold nk
  refine de (fun k3=>?_) fun k3=>bo (fun k12=>?_) fun k12=>de (fun k4=>?_) fun k4=>de (fun k5=>?_) fun k5=>?_
  · cases hE:cA o.key cr with
    | true=>exact aR fun h=>by cases h
    | false =>
      refine aT (aFm _) fun y hy=>aR fun hz=>⟨fun _ _ _=>rfl,fun _=>hy hz,fun h=>by omega,fun h=>by omega⟩
  · have hk:o.kind≠4∧o.kind≠5:=by constructor<;>intro h<;>rw [h] at k12<;>cases k12
    cases hE:cA o.key cr with
    | true=>exact aR fun h=>by cases h
    | false=>exact aR fun _=>⟨fun _ _ _=>rfl,fun h=>absurd h k3,fun h=>absurd h hk.1,fun h=>absurd h hk.2⟩
  · cases hE:cA o.key cr with
    | true=>exact aR fun h=>by cases h
    | false =>
      refine de (fun _=>aR fun h=>by cases h) fun hn=>aT (ga _ _ _) fun r hr=>bo (fun _=>aR fun h=>by cases h) fun hc=>aR fun _=>⟨fun _ _ _=>rfl,fun h=>absurd h k3,fun _=>⟨hn,hr (by cases r<;>simp at hc ⊢)⟩,fun h=>by omega⟩
  · exact aT (ga _ _ _) fun r hr=>bo (fun _=>aR fun h=>by cases h) fun hc=>aR fun _=>⟨fun h=>absurd k5 h,fun h=>absurd h k3,fun h=>absurd h k4,fun _=>hr (by cases r<;>simp at hc ⊢)⟩
  · refine aR fun _=>⟨fun _ h1 h5=>?_,fun h=>absurd h k3,fun h=>absurd h k4,fun h=>absurd h k5⟩
    have:o.kind=1∨o.kind=2:=by omega
    rcases this with h | h<;>rw [h] at k12<;>cases k12
theorem aEv (o:Op)(ho:kZ o)(h:js o=some 0):E6 o:=by
  have key:Ok (js o) (fun y=>y=0→E6 o):=by
    unfold js
    refine aT (ga _ _ _) fun r1 h1=>bo (fun _=>aR (fun h=>by cases h)) fun c1=>aT (ga _ _ _) fun r2 h2=>bo (fun _=>aR (fun h=>by cases h)) fun c2=>aT (ga _ _ _) fun r3 h3=>bo (fun _=>aR (fun h=>by cases h)) fun c3=>aT (ga _ _ _) fun r4 h4=>bo (fun _=>aR (fun h=>by cases h)) fun c4=>aT (ga _ _ _) fun r5 h5=>bo (fun _=>aR (fun h=>by cases h)) fun c5=>aT (ga _ _ _) fun r6 h6=>bo (fun _=>aR (fun h=>by cases h)) fun c6=>aT (ga _ _ _) fun r7 h7=>bo (fun _=>aR (fun h=>by cases h)) fun c7=>aT (PT _ ho.2.1) fun r8 h8=>bo (fun _=>aR (fun h=>by cases h)) fun c8=>aT (PT _ ho.2.2) fun r9 h9=>bo (fun _=>aR (fun h=>by cases h)) fun c9=>aT (aFr o) fun r10 h10=>aR fun hz=>?_
    have tr:∀ r:Bool,(!r)=false→r=true:=fun r h=>by cases r<;>simp at h ⊢
    obtain ⟨w1,w2,w3,w4⟩:=h10 hz
    have h7:=h7 (tr _ c7)
    exact ⟨h1 (tr _ c1),h2 (tr _ c2),h3 (tr _ c3),h4 (tr _ c4),h5 (tr _ c5),h6 (tr _ c6),h7,h8 (tr _ c8),h9 (tr _ c9),fun h=>w1 h h7.1 h7.2,w2,w3,w4⟩
  obtain ⟨y,h1,h2⟩:=key
  rw [h] at h1
  exact h2 (Option.some.inj h1).symm
theorem aEx (o:Op)(h:E6 o):vF o=some 0:=by
  obtain ⟨h1,h2,h3,h4,h5,h6,h7,h8,h9,h10,h11,h12,h13⟩:=h
  refine jv ?_
  unfold vF
  rw [decide_eq_false (show ¬ o.aP.device < 0 by omega),decide_eq_false (show ¬ o.aP.device≥6 by omega),decide_eq_false (show ¬ o.aP.aA < 1 by omega),decide_eq_false (show ¬ o.aP.aA > 1073741824 by omega),decide_eq_false (show ¬ o.aP.seq < 1 by omega),decide_eq_false (show ¬ o.aP.seq > 1073741824 by omega),decide_eq_false (show ¬ o.bc < 0 by omega),decide_eq_false (show ¬ o.bc≥3 by omega),decide_eq_false (show ¬ o.cW < 1 by omega),decide_eq_false (show ¬ o.cW > 3 by omega),decide_eq_false (show ¬ o.time < 0 by omega),decide_eq_false (show ¬ o.time > 1099511627776 by omega),decide_eq_false (show ¬ o.kind < 1 by omega),decide_eq_false (show ¬ o.kind > 5 by omega),P0 _ h8,P0 _ h9]
  simp only [cond_false,bG,Bool.not_true]
  have hke:(cond (o.kind != 5) (cA o.key cr) false)=false:=by
    by_cases h:o.kind=5
    · rw [h];rfl
    · rw [bne_iff_ne.2 h,h10 h];rfl
  rw [hke,cond_false]
  refine de (fun k3=>?_) fun _=>de (fun k4=>?_) fun _=>de (fun k5=>?_) fun _=>aR rfl
  · obtain ⟨d1,d2⟩:=h11 k3
    refine az (fun _=>by omega) fun _=>mq ?_ fun _=>aR rfl
    refine cQ (fun xx=>xx.2.2=o∧1≤xx.2.1∧xx.2.1≤(o.cz.length:Int)+1) (fun xx=>((o.cz.length:Int) - xx.2.1).toNat) ?_ _ _ ⟨rfl,by dsimp only;omega,by dsimp only;omega⟩ (by dsimp only;omega)
    rintro ⟨a_,k_,o_⟩ ⟨h1,h2,h3⟩
    dsimp only at h1 h2 h3
    subst h1
    unfold AH G7
    dsimp only
    refine az (fun hi=>?_) (fun _=>dW trivial)
    have hw:aF (k_+1)=k_+1:=bF (by omega)
    have hw1:aF (k_ - 1)=k_ - 1:=bF (by omega)
    refine al (bw fun a ha=>al (bw fun b hb=>?_))
    rw [d2 _ a b ha.2 (by rw [show (aF (k_ - 1)).toNat+1=k_.toNat by omega];exact hb.2),bG,Bool.not_true,cond_false]
    refine cF ?_
    dsimp only;exact ⟨⟨rfl,by omega,by omega⟩,by omega⟩
  · obtain ⟨n1,n2,n3⟩:=h12 k4
    rw [beq_false_of_ne n1,decide_eq_false (show ¬ o.n < -1099511627776 by omega),decide_eq_false (show ¬ o.n > 1099511627776 by omega)]
    exact aR rfl
  · obtain ⟨n1,n2⟩:=h13 k5
    exact o4 (fun h=>by omega) fun _ _=>aR rfl
theorem wL {a b:ByteArray}(h:a≠b):cA a b=false:=by
  cases h2:cA a b with
  | false=>rfl
  | true=>exact absurd (mh.1 h2) h
theorem sj (t:Bool)(k:ByteArray):Rt t k oT.book=gD k:=by
  have aa:cA cV cV=true:=by decide
  have bb:cA cX cX=true:=by decide
  have ab:cA cV cX=false:=by decide
  have ba:cA cX cV=false:=by decide
  unfold Rt gD oT
  simp only [sm,cv]
  by_cases h1:k=cV
  · rw [h1,aa,ba];cases t<;>rfl
  · by_cases h2:k=cX
    · rw [h2,ab,bb,ba];cases t<;>rfl
    · rw [wL h1,wL h2,wL (fun h=>h1 h.symm),wL (fun h=>h2 h.symm)];rfl
theorem MB:dV 0 0 0 0 0 oT∧dp oT:=by
  have hc:eo 0 (ag.mk [] [] [] [] [] []):=⟨Nat.le_refl _,Nat.le_refl _,Nat.le_refl _,Nat.le_refl _,Nat.le_refl _,Nat.le_refl _⟩
  have h0:∀ k,cs k (ag.mk [] [] [] [] [] [])=0:=fun _=>rfl
  refine ⟨⟨⟨⟨rfl,fun c hc=>?_⟩,⟨(fun x hx=>by rw [List.mem_singleton.1 hx];exact ⟨by decide,by decide,by decide⟩),List.pairwise_singleton _ _⟩,by decide,(fun l hl=>by cases hl),Nat.le_refl _,.nil,.nil,(fun l hl=>by cases hl),.nil,(fun l hl=>by cases hl),(fun l hl=>by cases hl),fun t k=>by rw [sj];exact Int.le_refl _⟩,Nat.le_refl _,hc,hc,hc,by decide,(fun o ho=>by cases ho),Nat.le_refl _,⟨dh _ _,dh _ _,dh _ _,dh _ _,dh _ _,dh _ _⟩⟩,⟨.inl rfl,.inl rfl,.inl rfl,fun k=>?_,fun k c hc=>?_,(fun o ho=>by cases ho),.nil,(fun k o ho=>by cases ho),(fun o ho=>by cases ho)⟩⟩
  · rcases List.mem_cons.1 hc with rfl | hc
    · decide
    · rw [List.mem_singleton.1 hc];decide
  · rw [sj,sj,Int.sub_self];rfl
  · rw [sj,sj,Int.sub_self]
    rcases hc with rfl | rfl | rfl<;>exact ⟨Int.le_refl _,Int.le_refl _⟩
theorem aF5 {U B K N Z:Nat}(l:List Act)(i:Int)(d:aw)(h:dV U B K N Z d)(hS:dp d):Ok (nB l false i 0 d) (dP (fun a=>a.1=l∧a.2.1=false∧a.2.2.1=i∧a.2.2.2=d) (fun _=>False)):=by
  have hcl:=h.bk.cn.len
  refine cQ (fun xx=>xx.1=l∧xx.2.1=false∧xx.2.2.1=i∧xx.2.2.2.2=d∧0≤xx.2.2.2.1∧xx.2.2.2.1≤(d.book.af.length:Int)) (fun xx=>((d.book.af.length:Int) - xx.2.2.2.1).toNat) ?_ _ _ ⟨rfl,rfl,rfl,rfl,by dsimp only;omega,by dsimp only;omega⟩ (by dsimp only;omega)
  rintro ⟨l_,b_,i_,k_,d_⟩ ⟨h1,h2,h3,h4,h5,h6⟩
  dsimp only at h1 h2 h3 h4 h5 h6
  subst h1;subst h2;subst h3;subst h4
  unfold B6 Ih
  dsimp only
  refine az (fun hi=>?_) (fun _=>dW ⟨rfl,rfl,rfl,rfl⟩)
  have hw:aF (k_+1)=k_+1:=bF (by omega)
  refine al (bw fun c hc=>?_)
  have hk:c.key=cV∧c.start=10∧c.lo=0∧c.hi=20∧gD c.key=10∨c.key=cX∧c.start=0∧c.lo = -30∧c.hi=30∧gD c.key=30:=by
    obtain ⟨u,v,x,z,hcn⟩:=h.bk.cn.two
    have hc:=hc.1
    rw [hcn] at hc
    rcases List.mem_cons.1 hc with rfl | hc
    · exact .inl ⟨rfl,rfl,rfl,rfl,by show gD cV=10;decide⟩
    · rw [List.mem_singleton.1 hc];exact .inr ⟨rfl,rfl,rfl,rfl,by show gD cX=30;decide⟩
  have hkk:c.key=cV∨c.key=cX:=hk.elim (fun h=>.inl h.1) (fun h=>.inr h.1)
  rw [CQ _ _ hS.s0 hkk,CQ _ _ hS.s1 hkk,CQ _ _ hS.s2 hkk]
  simp only [bG]
  have c1:=hS.cn c.key
  have c2:=hS.cb c.key _ (.inl rfl)
  have c3:=hS.cb c.key _ (.inr (.inl rfl))
  have c4:=hS.cb c.key _ (.inr (.inr rfl))
  have n1:=w8 h.bk true c.key
  have n2:=w8 h.bk false c.key
  have m1:=h.bk.rt true c.key
  have m2:=h.bk.rt false c.key
  generalize cs c.key d_.aI.a0=p at *
  generalize cs c.key d_.aI.a1=q at *
  generalize cs c.key d_.aI.a2=r at *
  generalize Rt true c.key d_.book=R at *
  generalize Rt false c.key d_.book=T at *
  generalize gD c.key=M at *
  have hst:c.start=10∧c.lo=0∧c.hi=20∧M=10∨c.start=0∧c.lo = -30∧c.hi=30∧M=30:=hk.elim (fun h=>.inl h.2) (fun h=>.inr h.2)
  rw [bF (n:=c.start+p) (by omega),bF (n:=c.start+p+q) (by omega),bF (n:=c.start+p+q+r) (by omega)]
  refine o4 (fun hb=>by omega) fun _ _=>cF ?_
  dsimp only;exact ⟨⟨rfl,rfl,rfl,rfl,by omega,by omega⟩,by omega⟩
theorem aHh {U B K N Z:Nat}(d:aw)(h:dV U B K N Z d)(hS:dp d):Ok (xK false 0 d) U3:=by
  have hlg:=h.lg
  refine cQ (fun xx=>xx.2.2=d∧0≤xx.2.1∧xx.2.1≤(d.log.length:Int)) (fun xx=>((d.log.length:Int) - xx.2.1).toNat) ?_ _ _ ⟨rfl,by dsimp only;omega,by dsimp only;omega⟩ (by dsimp only;omega)
  rintro ⟨b_,k_,d_⟩ ⟨h1,h2,h3⟩
  dsimp only at h1 h2 h3
  subst h1
  unfold As Ii
  dsimp only
  refine az (fun hi=>?_) (fun _=>dW trivial)
  have hw:aF (k_+1)=k_+1:=bF (by omega)
  refine al (bw fun o ho=>?_)
  have g2:=h2
  have g3:=h3
  clear h2 h3
  have inner:Ok (Dz b_ k_ 0 0 d_ o) (dP (fun a=>a.2.1=k_∧a.2.2.1=(((d_.log.take k_.toNat).filter (eU o.aP.device o.aP.aA)).length:Int)∧a.2.2.2.1=d_∧a.2.2.2.2=o) (fun _=>False)):=by
    refine cQ (fun xx=>xx.2.1=k_∧xx.2.2.2.2.1=d_∧xx.2.2.2.2.2=o∧0≤xx.2.2.2.1∧xx.2.2.2.1≤k_∧xx.2.2.1=(((d_.log.take xx.2.2.2.1.toNat).filter (eU o.aP.device o.aP.aA)).length:Int)) (fun xx=>(k_ - xx.2.2.2.1).toNat) ?_ _ _ ⟨rfl,rfl,rfl,by dsimp only;omega,by dsimp only;omega,rfl⟩ (by dsimp only;omega)
    rintro ⟨c_,i_,n_,j_,e_,q_⟩ ⟨h1,h2,h3,h4,h5,h6⟩
    dsimp only at h1 h2 h3 h4 h5 h6
    subst h1;subst h2;subst h3;subst h6
    unfold BY IP
    dsimp only
    refine az (fun hj=>?_) (fun hj=>dW ⟨rfl,by dsimp only;rw [show j_=i_ by omega],rfl,rfl⟩)
    have hw:aF (j_+1)=j_+1:=bF (by omega)
    have ht:(j_+1).toNat=j_.toNat+1:=by omega
    obtain ⟨p,hp⟩:∃ p,e_.log[j_.toNat]?=some p:=⟨_,List.getElem?_eq_getElem (by omega)⟩
    have hfl:((e_.log.take j_.toNat).filter (eU q_.aP.device q_.aP.aA)).length≤2000:=Nat.le_trans (List.length_filter_le _ _) (by rw [List.length_take];omega)
    have hnext:(((e_.log.take (j_.toNat+1)).filter (eU q_.aP.device q_.aP.aA)).length:Int)=((e_.log.take j_.toNat).filter (eU q_.aP.device q_.aP.aA)).length+(if eU q_.aP.device q_.aP.aA p=true then 1 else 0):=by
      obtain ⟨e1,e2⟩:=List.getElem?_eq_some_iff.1 hp
      rw [List.take_succ_eq_append_getElem e1,e2,List.filter_append,List.length_append]
      cases hs:eU q_.aP.device q_.aP.aA p with
      | true=>rw [List.filter_cons_of_pos hs];simp
      | false=>rw [List.filter_cons_of_neg (by rw [hs];decide)];simp
    have hw2:aF ((((e_.log.take j_.toNat).filter (eU q_.aP.device q_.aP.aA)).length:Int)+1)=(((e_.log.take j_.toNat).filter (eU q_.aP.device q_.aP.aA)).length:Int)+1:=bF (by omega)
    have fin:p.aP.device=q_.aP.device→(i_=i_∧e_=e_∧q_=q_∧0≤aF (j_+1)∧aF (j_+1)≤i_∧(cond (p.aP.aA == q_.aP.aA) (aF ((((e_.log.take j_.toNat).filter (eU q_.aP.device q_.aP.aA)).length:Int)+1)) (((e_.log.take j_.toNat).filter (eU q_.aP.device q_.aP.aA)).length:Int))=(((e_.log.take (aF (j_+1)).toNat).filter (eU q_.aP.device q_.aP.aA)).length:Int))∧(i_ - aF (j_+1)).toNat < (i_ - j_).toNat:=fun hd=>by
      rw [hw,ht,hw2,hnext]
      refine ⟨⟨rfl,rfl,rfl,by omega,by omega,?_⟩,by omega⟩
      unfold eU
      rw [hd,beq_self_eq_true,Bool.true_and]
      cases p.aP.aA == q_.aP.aA<;>simp
    have fin2:p.aP.device≠q_.aP.device→(i_=i_∧e_=e_∧q_=q_∧0≤aF (j_+1)∧aF (j_+1)≤i_∧(((e_.log.take j_.toNat).filter (eU q_.aP.device q_.aP.aA)).length:Int)=(((e_.log.take (aF (j_+1)).toNat).filter (eU q_.aP.device q_.aP.aA)).length:Int))∧(i_ - aF (j_+1)).toNat < (i_ - j_).toNat:=fun hd=>by
      rw [hw,ht,hnext]
      refine ⟨⟨rfl,rfl,rfl,by omega,by omega,?_⟩,by omega⟩
      rw [if_neg (by unfold eU;rw [beq_false_of_ne hd,Bool.false_and];decide)];omega
    rw [hp]
    simp only [bG]
    refine de (fun k5=>al (de (fun p5=>al (de (fun hn=>?_) fun _=>al ?_)) fun _=>al ?_)) fun _=>al ?_
    · exact absurd hn.symm (qY hS.nd hp ho.2 (by omega) p5 k5)
    all_goals exact de (fun hd=>al (cF (fin hd))) fun hd=>cF (fin2 hd)
  refine aT inner fun y hy=>eG hy (fun z hz=>?_) (fun _ h=>h.elim)
  obtain ⟨z1,z2,z3,z4⟩:=hz
  have hfl:((d_.log.take k_.toNat).filter (eU o.aP.device o.aP.aA)).length≤2000:=Nat.le_trans (List.length_filter_le _ _) (by rw [List.length_take];omega)
  rw [z1,z2,z3,z4,bF (n:=(((d_.log.take k_.toNat).filter (eU o.aP.device o.aP.aA)).length:Int)+1) (by omega)]
  have hsq:=hS.sq _ o ho.2
  obtain ⟨o1,o2⟩:=hS.ok o ho.1
  refine fv (fun hne=>by omega) fun _=>?_
  rw [aEx o (aEv o o2 o1),bG,hw]
  refine fv (fun hne=>absurd rfl hne) fun _=>cF ?_
  dsimp only;exact ⟨⟨rfl,by omega,by omega⟩,by omega⟩
theorem Zn (l:List Act)(hl:l.length≤9223372036854775807):Ao l=some true:=by
  obtain ⟨f,hf,hf2⟩:=aHN l hl
  unfold Ao
  rw [ZQ,bG,Bool.not_true,cond_false,hf,bG]
  cases f with
  | false=>rfl
  | true =>
    obtain ⟨h60,hw⟩:=hf2 rfl
    rw [Bool.not_true,cond_false,aEE,bG]
    have key:Ok (EI l false 0 oT) (dP (fun a=>a.1=false∧∃ U B K N Z,dV U B K N Z a.2∧dp a.2) (fun _=>False)):=by
      refine cQ (fun xx:List Act×Bool×Int×aw=>xx.1=l∧xx.2.1=false∧0≤xx.2.2.1∧xx.2.2.1≤(l.length:Int)∧dV (20 * xx.2.2.1.toNat) (1200 * xx.2.2.1.toNat) (20 * xx.2.2.1.toNat) xx.2.2.1.toNat xx.2.2.1.toNat xx.2.2.2∧dp xx.2.2.2) (fun xx=>((l.length:Int) - xx.2.2.1).toNat) ?_ _ _ ⟨rfl,rfl,by dsimp only;omega,by dsimp only;omega,MB.1,MB.2⟩ (by dsimp only;omega)
      rintro ⟨l_,b_,k_,d_⟩ ⟨h1,h2,h3,h4,h5,h6⟩
      dsimp only at h1 h2 h3 h4 h5 h6
      subst h1;subst h2
      unfold Bg JJ
      dsimp only
      refine az (fun hi=>?_) (fun _=>dW ⟨rfl,_,_,_,_,_,h5,h6⟩)
      have hw1:aF (k_+1)=k_+1:=bF (by omega)
      have ht:(k_+1).toNat=k_.toNat+1:=by omega
      have hlg:=h5.lg
      obtain ⟨a,ha⟩:∃ a,l_[k_.toNat]?=some a:=⟨_,List.getElem?_eq_getElem (by omega)⟩
      obtain ⟨c,hc,hcg⟩:=aDH a d_ h5.bk (by omega) (by omega) (by have:=hw a (List.mem_of_getElem? ha);omega)
      rw [ha]
      simp only [bG,hc]
      refine dk h3 (aT (aLJ d_ c h5 h6 (by omega) (by omega) (by omega) (by omega) (by omega) hcg) fun y hy=>dk h3 ?_)
      obtain ⟨y1,y2,y3⟩:=hy
      have fin:(l_=l_∧false=false∧0≤aF (k_+1)∧aF (k_+1)≤(l_.length:Int)∧dV (20 * (aF (k_+1)).toNat) (1200 * (aF (k_+1)).toNat) (20 * (aF (k_+1)).toNat) (aF (k_+1)).toNat (aF (k_+1)).toNat y.1∧dp y.1)∧((l_.length:Int) - aF (k_+1)).toNat < ((l_.length:Int) - k_).toNat:=by
        rw [hw1,ht]
        exact ⟨⟨rfl,rfl,by omega,by omega,y1.mono (by omega) (by omega) (by omega) (Nat.le_refl _) (Nat.le_refl _),y2⟩,by omega⟩
      have hsd:=aEa y.1.book y1.bk (by omega) (by omega)
      have hsame:=aF4 d_ h5 (by omega) (by omega) (by omega) (by omega)
      have tail:Ok (ob (nB l_ false k_ 0 y.1) fun z=>two z (fun a=>some (.inl (a.1,a.2.1,aF (a.2.2.1+1),a.2.2.2))) (fun b=>some (.inr (.inr (b.2.1,b.2.2.2))))) (dP (fun x':List Act×Bool×Int×aw=>(x'.1=l_∧x'.2.1=false∧0≤x'.2.2.1∧x'.2.2.1≤(l_.length:Int)∧dV (20 * x'.2.2.1.toNat) (1200 * x'.2.2.1.toNat) (20 * x'.2.2.1.toNat) x'.2.2.1.toNat x'.2.2.1.toNat x'.2.2.2∧dp x'.2.2.2)∧((l_.length:Int) - x'.2.2.1).toNat < ((l_.length:Int) - k_).toNat) (dP (fun a:Bool×aw=>a.1=false∧∃ U B K N Z,dV U B K N Z a.2∧dp a.2) (fun _:Bool×aw=>False))):=by
        refine aT (aF5 l_ k_ y.1 y1 y2) fun z hz=>eG hz (fun a ha=>cF ?_) (fun _ h=>h.elim)
        obtain ⟨a1,a2,a3,a4⟩:=ha
        rw [a1,a2,a3,a4]
        exact fin
      refine fv (fun hne=>az (fun hk3=>fv (fun hk4=>?_) fun _=>?_) fun _=>?_) fun _=>?_
      · have hsm:=y3 hne hk3 hk4
        rw [hsm] at hsd tail ⊢
        rw [hsame,bG,Bool.not_true,cond_false,hsd,bG,Bool.not_true,cond_false]
        exact tail
      all_goals
        rw [hsd,bG,Bool.not_true,cond_false]
        exact tail
    obtain ⟨y,k1,k2⟩:=key
    rw [k1]
    cases y with
    | inl a =>
      obtain ⟨a1,a2⟩:=a
      obtain ⟨q1,U,B,K,N,Z,q2,q3⟩:=k2
      dsimp only at q1 q2 q3
      subst q1
      obtain ⟨z,z1,z2⟩:=aHh a2 q2 q3
      show ob (xK false 0 a2) _=_
      rw [z1]
      cases z with
      | inl _=>rfl
      | inr b=>exact z2.elim
    | inr b=>exact k2.elim
end Go.Proofs.YtcjpeijiaojeiaaGreat
