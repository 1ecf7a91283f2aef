/- By joint.py: the texts P Da Db Dc Dd De Df Dg Dh Di Dj Ga Gb Gc Gd Ge Gf Gg Gh Gi Gj Gk in one. -/
import Derived.Test.YtcjpeijiaojeiaaGreatF
import Derived.IntWalk
namespace Go.Proofs.YtcjpeijiaojeiaaGreat
open Go Go.Ev
set_option maxRecDepth 100000
theorem aC7:known=some true:=by kernel_rfl
theorem Qq {n:Int}(h1 : -9223372036854775808≤n)(h2:n < 9223372036854775808):aF n=n:=by
  unfold aF
  exact IntWalk.i64_in n (by omega)
theorem aD1 {a n:Int}(hn:0 < n)(hm:n < 4611686018427387904):within a n=some (a % n):=by
  unfold within
  have h0:decide (n=0)=false:=by simp;omega
  simp only [h0,cond_false]
  have h1:=Int.emod_nonneg a (by omega:n≠0)
  have h2:=Int.emod_lt_of_pos a hn
  have h3:a.tmod n=a % n∨a.tmod n=a % n - n:=by
    rw [Int.tmod_eq_emod]
    split
    · left;omega
    · right;omega
  congr 1
  rcases h3 with h3 | h3
  · rw [h3]
    have:decide (a % n < 0)=false:=by simp;omega
    simp [this]
  · rw [h3]
    have:decide (a % n - n < 0)=true:=by simp;omega
    simp only [this,cond_true]
    rw [Qq (by omega) (by omega)]
    omega
theorem bH {X Y:Type}(x:X)(k:X→Option Y):ob (some x) k=k x:=rfl
def Ok {α:Type}(o:Option α)(P:α→Prop):Prop:=∃ y,o=some y∧P y
def eI {X Y:Type}(I:X→Prop)(Q:Y→Prop):X⊕Y→Prop
  | .inl x=>I x
  | .inr y=>Q y
section
variable {α β X Y:Type}
theorem Ok.ob {o:Option α}{k:α→Option β}{P:α→Prop}{Q:β→Prop}(h:Ok o P)(hk:∀ y,P y→Ok (k y) Q):Ok (ob o k) Q:=by
  obtain ⟨y,rfl,hy⟩:=h
  exact hk y hy
theorem Ok.cond {c:Bool}{a b:Option α}{Q:α→Prop}(h1:c=true→Ok a Q)(h2:c=false→Ok b Q):Ok (cond c a b) Q:=by
  cases c with
  | true=>exact h1 rfl
  | false=>exact h2 rfl
theorem Ok.dec {p:Prop}[Decidable p]{a b:Option α}{Q:α→Prop}(h1:p→Ok a Q)(h2:¬ p→Ok b Q):Ok (_root_.cond (decide p) a b) Q :=
  .cond (fun h=>h1 (of_decide_eq_true h)) (fun h=>h2 (of_decide_eq_false h))
theorem Ok.aw {p:Prop}[Decidable p]{a b:Option α}{Q:α→Prop}(h:p)(h1:Ok a Q):Ok (_root_.cond (decide p) a b) Q:=by
  rw [decide_eq_true h];exact h1
theorem Ok.fM {p q:Prop}[Decidable p][Decidable q]{a b:Option α}{Q:α→Prop}(h:p)(h':q)(h1:Ok a Q):Ok (_root_.cond (decide p && decide q) a b) Q:=by
  rw [decide_eq_true h,decide_eq_true h'];exact h1
theorem Ok.beq {x y:Int}{a b:Option α}{Q:α→Prop}(h1:x=y→Ok a Q)(h2:x≠y→Ok b Q):Ok (_root_.cond (x == y) a b) Q :=
  .cond (fun h=>h1 (beq_iff_eq.1 h)) (fun h=>h2 (beq_eq_false_iff_ne.1 h))
theorem Ok.bne {x y:Int}{a b:Option α}{Q:α→Prop}(h1:x≠y→Ok a Q)(h2:x=y→Ok b Q):Ok (_root_.cond (x != y) a b) Q :=
  .cond (fun h=>h1 (bne_iff_ne.1 h)) (fun h=>h2 (by simpa using h))
theorem Ok.or {p q:Prop}[Decidable p][Decidable q]{a b:Option α}{Q:α→Prop}(h1:p∨q→Ok a Q)(h2:¬ p→¬ q→Ok b Q):Ok (_root_.cond (_root_.cond (decide p) true (decide q)) a b) Q:=by
  by_cases hp:p
  · rw [decide_eq_true hp];exact h1 (.inl hp)
  · by_cases hq:q
    · rw [decide_eq_false hp,decide_eq_true hq];exact h1 (.inr hq)
    · rw [decide_eq_false hp,decide_eq_false hq];exact h2 hp hq
theorem Ok.fit {n:Nat}{a b:Option α}{Q:α→Prop}(h:n≤1073741824)(h1:Ok a Q):Ok (_root_.cond (fits n) a b) Q:=by
  rw [show fits n=true from decide_eq_true h];exact h1
theorem Ok.ret {y:α}{Q:α→Prop}(h:Q y):Ok (some y) Q:=⟨y,rfl,h⟩
theorem Ok.inl {x:X}{I:X→Prop}{Q:Y→Prop}(h:I x):Ok (some (.inl x)) (eI I Q):=⟨_,rfl,h⟩
theorem Ok.inr {y:Y}{I:X→Prop}{Q:Y→Prop}(h:Q y):Ok (some (.inr y)) (eI I Q):=⟨_,rfl,h⟩
theorem Ok.fk {X Y Z:Type}{y:Y}{I:X→Prop}{Q:Y→Prop}{R:Z→Prop}(h:Q y):Ok (some (.inr (.inl y))) (eI I (eI Q R)):=⟨_,rfl,h⟩
theorem Ok.fN {X Y Z:Type}{y:Z}{I:X→Prop}{Q:Y→Prop}{R:Z→Prop}(h:R y):Ok (some (.inr (.inr y))) (eI I (eI Q R)):=⟨_,rfl,h⟩
theorem Ok.mono {o:Option α}{P Q:α→Prop}(h:Ok o P)(hk:∀ y,P y→Q y):Ok o Q:=by
  obtain ⟨y,h1,h2⟩:=h
  exact ⟨y,h1,hk y h2⟩
theorem Ok.two {y:α⊕β}{f:α→Option X}{g:β→Option X}{P:α→Prop}{R:β→Prop}{Q:X→Prop}(hy:eI P R y)(h1:∀ a,P a→Ok (f a) Q)(h2:∀ b,R b→Ok (g b) Q):Ok (two y f g) Q:=by
  cases y with
  | inl a=>exact h1 a hy
  | inr b=>exact h2 b hy
theorem Ok.get {l:List α}{i:Nat}(h:i < l.length):Ok l[i]? (fun e=>e∈l∧l[i]?=some e):=⟨l[i],List.getElem?_eq_getElem h,List.getElem_mem h,List.getElem?_eq_getElem h⟩
theorem Ok.iter {stp:X→Option (X⊕Y)}{bW:Y→Prop}(I:X→Prop)(m:X→Nat)(h:∀ x,I x→Ok (stp x) (eI (fun x'=>I x'∧m x' < m x) bW)):∀ (fuel:Nat) (x:X),I x→m x < fuel→Ok (bm stp fuel x) bW
  | 0,x,_,hf=>absurd hf (Nat.not_lt_zero _)
  | f+1,x,hi,hf=>by
    obtain ⟨r,h1,h2⟩:=h x hi
    cases r with
    | inl x' =>
      obtain ⟨y,h3,h4⟩:=Ok.iter I m h f x' h2.1 (by have:=h2.2;omega)
      exact ⟨y,by simp only [bm,h1,bH,Go.Ev.two];exact h3,h4⟩
    | inr y=>exact ⟨y,by simp only [bm,h1,bH,Go.Ev.two],h2⟩
end
theorem cK {n:Int}(h : -9223372036854775808≤n∧n < 9223372036854775808):aF n=n:=Qq h.1 h.2
theorem sM {a n:Int}(hn:0 < n)(hm:n < 4611686018427387904):Ok (within a n) (fun r=>0≤r∧r < n∧r=a % n) :=
  ⟨_,aD1 hn hm,Int.emod_nonneg a (by omega),Int.emod_lt_of_pos a hn,rfl⟩
theorem aCr {a n:Int}(hn:0 < n)(hm:n < 4611686018427387904):Ok (rK a n) (fun r=>0≤r∧r < n∧r=a % n):=sM hn hm
theorem iS {a n:Int}(hn:0 < n)(hm:n < 4611686018427387904):Ok (gU a n) (fun r=>0≤r∧r < n∧r=a % n):=sM hn hm
def RG (r:Range):Prop:=0≤r.from_∧r.from_ < r.bt∧r.bt≤1073741824
def rl:List Range→Int
  | []=>0
  | x::r=>(x.bt - x.from_)+rl r
theorem aCz (a b:aL):Ok (xY a b) (fun _=>True):=by
  unfold xY
  repeat' first
    | refine Ok.aw (by omega) ?_
    | refine Ok.fM (by omega) (by omega) ?_
    | refine Ok.fit (by simp only [List.length_append,List.length_cons,List.length_nil,List.length_take,List.length_drop,List.length_set,List.nil_append];omega) ?_
    | refine Ok.ob (Ok.get (by omega)) fun e he=>?_
    | refine Ok.aw (by simp only [List.length_append,List.length_cons,List.length_nil,List.length_take,List.length_drop,List.length_set,List.nil_append];omega) ?_
    | refine Ok.ob (Ok.get (by simp only [List.length_append,List.length_cons,List.length_nil,List.length_take,List.length_drop,List.length_set,List.nil_append];omega)) fun e he=>?_
    | refine Ok.or (fun hc=>?_) (fun hc hc2=>?_)
    | refine Ok.dec (fun hc=>?_) (fun hc=>?_)
    | refine Ok.beq (fun hc=>?_) (fun hc=>?_)
    | refine Ok.bne (fun hc=>?_) (fun hc=>?_)
    | refine Ok.cond (fun hc=>?_) (fun hc=>?_)
    | refine Ok.inl ?_
    | refine Ok.fN ?_
    | refine Ok.fk ?_
    | refine Ok.inr ?_
    | refine Ok.ret ?_
  all_goals trivial
theorem aAA (r:Range)(hr:RG r):Ok (xB [r]) (fun n=>n=r.bt - r.from_):=by
  obtain ⟨h1,h2,h3⟩:=hr
  have e:xB [r]=some (aF (aF (0+r.bt) - r.from_)):=by kernel_rfl
  rw [e,cK (n:=0+r.bt) (by omega),cK (by omega)]
  exact Ok.ret (by omega)
theorem XX (d:bI)(v e:Int)(hl:d.log.length≤1000000):Ok (jo d v e) (fun n=>0≤n∧n≤(d.log.length:Int)):=by
  unfold jo
  have hloop:Ok (Eo v e 0 0 d) (fun y=>0≤y.1∧y.1≤(d.log.length:Int)):=by
    refine Ok.iter (fun x=>x.2.2.2.2=d∧0≤x.2.2.2.1∧x.2.2.2.1≤(d.log.length:Int)∧0≤x.2.2.1∧x.2.2.1≤x.2.2.2.1) (fun x=>d.log.length - x.2.2.2.1.toNat) ?_ _ _ ⟨rfl,by dsimp only;omega,by dsimp only;omega,by dsimp only;omega,by dsimp only;omega⟩ (by dsimp only;omega)
    rintro ⟨v',e',n,i,d'⟩ ⟨h1,h2,h3,h4,h5⟩
    dsimp only at h1 h2 h3 h4 h5
    subst h1
    unfold wN MF
    dsimp only
    refine Ok.dec (fun hi=>?_) (fun _=>Ok.inr ⟨h4,by dsimp only;omega⟩)
    have hw:aF (i+1)=i+1:=cK (by omega)
    have hn:aF (n+1)=n+1:=cK (by omega)
    refine Ok.aw (by omega) (Ok.ob (Ok.get (by omega)) fun o _=>Ok.beq (fun _=>?_) (fun _=>Ok.inl ?_))
    · refine Ok.aw (by omega) (Ok.ob (Ok.get (by omega)) fun o' _=>Ok.inl ?_)
      dsimp only
      cases (o'.al.aB == e') with
      | true=>simp only [cond_true];exact ⟨⟨trivial,by omega,by omega,by omega,by omega⟩,by omega⟩
      | false=>simp only [cond_false];exact ⟨⟨trivial,by omega,by omega,by omega,by omega⟩,by omega⟩
    · dsimp only
      exact ⟨⟨rfl,by omega,by omega,by omega,by omega⟩,by omega⟩
  exact Ok.ob hloop fun y hy=>Ok.ret hy
structure yy (U:Nat) (l:aI):Prop where
  sl:l.aX.length≤10
  ids:∀ x∈l.ids,RG x
  used:l.used.length≤U
def V5:List aI→Int
  | []=>0
  | x::r=>rl x.ids+V5 r
structure yr (U B:Nat) (b:aG):Prop where
  cn:b.ak.length≤10
  free:∀ x∈b.free,RG x
  ln:b.aP.length≤1000
  ls:∀ l∈b.aP,yy U l
  bd:b.bF.length≤B
  sum:rl b.free+V5 b.aP≤1000
theorem mC {n:Nat}(h:n≤1073741824):fits n=true:=decide_eq_true h
theorem aHZ (l:aI)(h1:l.aX.length≤1000000)(h2:l.ids.length≤1000000)(h3:l.used.length≤1000000):uN l=some l:=by
  unfold uN
  simp only [List.nil_append]
  rw [mC (n:=l.aX.length) (by omega),mC (n:=l.ids.length) (by omega),mC (n:=l.used.length) (by omega)]
  rfl
theorem li {α:Type}{P:α→Prop}{l:List α}{x:α}(h:∀ z∈l,P z)(hx:P x):∀ z∈l++[x],P z:=by
  intro z hz
  rcases List.mem_append.1 hz with hz | hz
  · exact h z hz
  · rw [List.mem_singleton.1 hz];exact hx
theorem yy.mono {U V:Nat}{l:aI}(h:yy U l)(hu:U≤V):yy V l:=⟨h.sl,h.ids,Nat.le_trans h.used hu⟩
theorem yr.mono {U V B C:Nat}{b:aG}(h:yr U B b)(hu:U≤V)(hb:B≤C):yr V C b:=⟨h.cn,h.free,h.ln,fun l hl=>(h.ls l hl).mono hu,Nat.le_trans h.bd hb,h.sum⟩
structure er (K:Nat) (c:ah):Prop where
  v:c.v.length≤K
  be:c.be.length≤K
  bY:c.bY.length≤K
  gone:c.gone.length≤100 * K
  bc:c.bc.length≤K
  binds:c.binds.length≤K
theorem er.mono {K M:Nat}{c:ah}(h:er K c)(hk:K≤M):er M c:=⟨Nat.le_trans h.v hk,Nat.le_trans h.be hk,Nat.le_trans h.bY hk,by have:=h.gone;omega,Nat.le_trans h.bc hk,Nat.le_trans h.binds hk⟩
structure qA (r:aO):Prop where
  sl:r.aD.aX.length≤10
  id:r.aD.ids.length≤1000
  us:r.aD.used.length≤1000
structure aN0 (v:dw):Prop where
  h0:qA v.a0.aA
  h1:qA v.a1.aA
  h2:qA v.a2.aA
  h3:qA v.a3.aA
  h4:qA v.a4.aA
  h5:qA v.a5.aA
structure zA (U B K N Z:Nat) (d:bI):Prop where
  bk:yr U B d.book
  ln:d.book.aP.length≤N
  c0:er K d.aM.a0
  c1:er K d.aM.a1
  c2:er K d.aM.a2
  lg:d.log.length≤2000
  op:∀ o∈d.log,0≤o.cC∧o.cC < 3∧o.dG.length≤100
  ls:d.lost.length≤Z
  dv:aN0 d.dev
theorem zA.mono {U B K N Z U' B' K' N' Z':Nat}{d:bI}(h:zA U B K N Z d)(h1:U≤U')(h2:B≤B')(h3:K≤K')(h4:N≤N')(h5:Z≤Z'):zA U' B' K' N' Z' d :=
  ⟨h.bk.mono h1 h2,Nat.le_trans h.ln h4,h.c0.mono h3,h.c1.mono h3,h.c2.mono h3,h.lg,h.op,Nat.le_trans h.ls h5,h.dv⟩
theorem lQ {K:Nat}{c:Bool}{a b:ah}(ha:er K a)(hb:er K b):er K (ah.cW c a b):=by
  cases c with
  | true=>exact ha
  | false=>exact hb
theorem aLI {K:Nat}{c:Bool}{a b:ah}(ha:er K a)(hb:er K b):er K (ah.mk (cond c a.v b.v) (cond c a.be b.be) (cond c a.bY b.bY) (cond c a.gone b.gone) (cond c a.bc b.bc) (cond c a.binds b.binds)):=lQ (c:=c) ha hb
theorem pZ {α:Type}{P:α→Prop}{x1 x2 x3 x4 x5:α}{b1 b2 b3 b4:Bool}(h1:P x1)(h2:P x2)(h3:P x3)(h4:P x4)(h5:P x5):P (cond b1 x1 (cond b2 x2 (cond b3 x3 (cond b4 x4 x5)))):=by
  cases b1 with
  | true=>exact h1
  | false=>cases b2 with
    | true=>exact h2
    | false=>cases b3 with
      | true=>exact h3
      | false=>cases b4 with
        | true=>exact h4
        | false=>exact h5
section
variable {U B K N Z:Nat} (d:bI) (c:bg) (h:zA U B K N Z d) (hU:U≤8000) (hB:B≤800000) (hN:N≤800) (hZ:Z≤800000) (h0:0≤c.device) (h6:c.device < 6)
include h hU hB hN hZ h0 h6
end
theorem aIn (l:List Act)(hl:l.length≤9223372036854775807):Ok (yH l) (fun r=>r=true→l.length≤60∧∀ a∈l,a.cP.length≤8):=by
  unfold yH
  have hloop:Ok (Eg l false 0) (eI (fun a=>a.1=l∧∀ x∈l,x.cP.length≤8) (fun b=>b.2=false)):=by
    refine Ok.iter (fun x:List Act×Bool×Int=>x.1=l∧0≤x.2.2∧x.2.2≤(l.length:Int)∧∀ (j:Nat) a,(j:Int) < x.2.2→l[j]?=some a→a.cP.length≤8) (fun x=>l.length - x.2.2.toNat) ?_ _ _ ⟨rfl,by dsimp only;omega,by dsimp only;omega,fun j a h=>by dsimp only at h;omega⟩ (by dsimp only;omega)
    rintro ⟨l',b,i⟩ ⟨h1,h2,h3,h4⟩
    dsimp only at h1 h2 h3 h4
    subst h1
    unfold vr Kx
    dsimp only
    refine Ok.dec (fun hi=>?_) (fun hi=>Ok.fk ⟨rfl,fun x hx=>?_⟩)
    · have hw:aF (i+1)=i+1:=cK (by omega)
      have he:l'[i.toNat]?=some (l'[i.toNat]'(by omega)):=List.getElem?_eq_getElem _
      generalize (l'[i.toNat]'(by omega))=e at he
      simp only [he,bH]
      refine Ok.aw h2 (Ok.dec (fun _=>Ok.fN rfl) fun h8=>Ok.aw h2 (Ok.dec (fun _=>Ok.fN rfl) fun h22=>?_))
      have hin:Ok (Ed l' b i 0) (eI (fun a=>a.1=l'∧a.2.2=i) (fun c=>c.2.1=false)):=by
        refine Ok.iter (fun x:List Act×Bool×Int×Int=>x.1=l'∧x.2.2.1=i∧0≤x.2.2.2∧x.2.2.2≤(e.ops.length:Int)) (fun x=>e.ops.length - x.2.2.2.toNat) ?_ _ _ ⟨rfl,rfl,by dsimp only;omega,by dsimp only;omega⟩ (by dsimp only;omega)
        rintro ⟨l1,b1,i1,k⟩ ⟨g1,g2,g3,g4⟩
        dsimp only at g1 g2 g3 g4
        subst g1;subst g2
        unfold wL LJ
        dsimp only
        simp only [he,bH]
        refine Ok.aw h2 (Ok.dec (fun hk=>?_) (fun _=>Ok.fk ⟨rfl,rfl⟩))
        have hwk:aF (k+1)=k+1:=cK (by omega)
        refine Ok.aw h2 (Ok.aw g3 (Ok.ob (Ok.get (by omega)) fun o _=>?_))
        unfold Ep
        rw [bH]
        refine Ok.cond (fun _=>Ok.fN rfl) (fun _=>Ok.inl ?_)
        dsimp only
        exact ⟨⟨rfl,rfl,by omega,by omega⟩,by omega⟩
      refine Ok.ob hin fun y hy=>Ok.two hy (fun a ha=>?_) (fun c hc=>Ok.fN hc)
      obtain ⟨a1,a2,a3⟩:=a
      obtain ⟨g1,g2⟩:=ha
      dsimp only at g1 g2
      subst g1;subst g2
      dsimp only
      have hin2:Ok (Dt a1 a2 a3 0) (eI (fun a=>a.1=a1∧a.2.2=a3) (fun c=>c.2.1=false)):=by
        refine Ok.iter (fun x:List Act×Bool×Int×Int=>x.1=a1∧x.2.2.1=a3∧0≤x.2.2.2∧x.2.2.2≤(e.cP.length:Int)) (fun x=>e.cP.length - x.2.2.2.toNat) ?_ _ _ ⟨rfl,rfl,by dsimp only;omega,by dsimp only;omega⟩ (by dsimp only;omega)
        rintro ⟨l1,b1,i1,k⟩ ⟨g1,g2,g3,g4⟩
        dsimp only at g1 g2 g3 g4
        subst g1;subst g2
        unfold vc Kg
        dsimp only
        simp only [he,bH]
        refine Ok.aw h2 (Ok.dec (fun hk=>?_) (fun _=>Ok.fk ⟨rfl,rfl⟩))
        have hwk:aF (k+1)=k+1:=cK (by omega)
        refine Ok.aw h2 (Ok.aw g3 (Ok.ob (Ok.get (by omega)) fun o _=>Ok.dec (fun _=>Ok.fN rfl) (fun _=>Ok.inl ?_)))
        dsimp only
        exact ⟨⟨rfl,rfl,by omega,by omega⟩,by omega⟩
      refine Ok.ob hin2 fun y hy=>Ok.two hy (fun a ha=>Ok.inl ?_) (fun c hc=>Ok.fN hc)
      obtain ⟨p1,p2,p3⟩:=a
      obtain ⟨g1,g2⟩:=ha
      dsimp only at g1 g2
      subst g1;subst g2
      dsimp only
      refine ⟨⟨rfl,by omega,by omega,fun j a hj ha=>?_⟩,by omega⟩
      by_cases hji:(j:Int) < p3
      · exact h4 j a hji ha
      · have:j=p3.toNat:=by omega
        subst this
        rw [he] at ha;cases ha;omega
    · obtain ⟨j,hj,rfl⟩:=List.getElem_of_mem hx
      exact h4 j _ (by omega) (List.getElem?_eq_getElem hj)
  refine Ok.ob hloop fun y hy=>Ok.two hy (fun a ha=>Ok.ret fun hd=>⟨?_,ha.2⟩) (fun b hb=>Ok.ret fun h=>by rw [hb] at h;cases h)
  have:=of_decide_eq_true hd
  rw [ha.1] at this
  omega
def Ey:bI:=bI.mk (aG.mk [bl.mk iN 0 0 20 10 10 10,bl.mk jH 1 (-30) 30 0 30 30] [Range.mk 0 40] [] []) (fw.mk (ah.mk [] [] [] [] [] []) (ah.mk [] [] [] [] [] []) (ah.mk [] [] [] [] [] [])) [] (dw.mk (Device.mk 0 0 (aO.mk 0 0 (aI.mk 0 0 0 0 [] [] []))) (Device.mk 0 0 (aO.mk 0 0 (aI.mk 0 0 0 0 [] [] []))) (Device.mk 0 0 (aO.mk 0 0 (aI.mk 0 0 0 0 [] [] []))) (Device.mk 0 0 (aO.mk 0 0 (aI.mk 0 0 0 0 [] [] []))) (Device.mk 0 0 (aO.mk 0 0 (aI.mk 0 0 0 0 [] [] []))) (Device.mk 0 0 (aO.mk 0 0 (aI.mk 0 0 0 0 [] [] [])))) [] 0
theorem aFt:C9=some Ey:=by kernel_rfl
theorem tB (a b:Int):Ok (iQ a b) (fun _=>True):=by
  unfold iQ l7
  simp only [bH]
  repeat' first
    | refine Ok.dec (fun hc=>?_) (fun hc=>?_)
    | refine Ok.bne (fun hc=>?_) (fun hc=>?_)
    | refine Ok.ret ?_
  all_goals trivial
theorem oE (a b:ByteArray):Ok (iP a b) (fun _=>True):=by
  unfold iP tg
  simp only [bH]
  repeat' first
    | refine Ok.cond (fun hc=>?_) (fun hc=>?_)
    | refine Ok.ret ?_
  all_goals trivial
theorem tL (l:List Int)(hl:l.length≤1000):Ok (jy l) (fun _=>True):=by
  unfold jy
  refine Ok.ob (P:=eI (fun _=>True) (fun _=>True)) ?_ fun y hy=>Ok.two hy (fun _ _=>Ok.ret trivial) (fun _ _=>Ok.ret trivial)
  refine Ok.iter (fun xx=>xx.2.1=0∧xx.2.2.1=l∧xx.2.2.2.1=(l.length:Int)∧0≤xx.2.2.2.2∧xx.2.2.2.2≤(l.length:Int)) (fun xx=>((l.length:Int) - xx.2.2.2.2).toNat) ?_ _ _ ⟨rfl,rfl,rfl,by dsimp only;omega,by dsimp only;omega⟩ (by dsimp only;omega)
  rintro ⟨a_,b_,l_,n_,k_⟩ ⟨h1,h2,h3,h4,h5⟩
  dsimp only at h1 h2 h3 h4 h5
  subst h1;subst h2;subst h3
  unfold vU Kb
  dsimp only
  refine Ok.dec (fun hi=>?_) (fun _=>Ok.fk trivial)
  have hw:aF (k_+1)=k_+1:=cK (by omega)
  repeat' first
    | refine Ok.aw (by omega) ?_
    | refine Ok.ob (Ok.get (by omega)) fun e he=>?_
    | refine Ok.bne (fun hc=>?_) (fun hc=>?_)
    | refine Ok.inl ?_
    | refine Ok.fN ?_
  all_goals first | trivial | (dsimp only;exact ⟨⟨rfl,rfl,rfl,by omega,by omega⟩,by omega⟩)
theorem WE (a b:fE):Ok (q8 a b) (fun _=>True):=by
  unfold q8
  repeat' first
    | refine Ok.ob (tB _ _) fun y hy=>?_
    | refine Ok.ob (tL _ (by simp)) fun y hy=>?_
    | refine Ok.ret ?_
  trivial
theorem aFF (a b:aL):Ok (vA a b) (fun _=>True):=by
  unfold vA
  repeat' first
    | refine Ok.ob (tB _ _) fun y hy=>?_
    | refine Ok.ob (tL _ (by simp)) fun y hy=>?_
    | refine Ok.ret ?_
  trivial
theorem pC (a b:aL):Ok (jJ a b) (fun _=>True):=by
  unfold jJ
  repeat' first
    | refine Ok.ob (tB _ _) fun y hy=>?_
    | refine Ok.ob (tL _ (by simp)) fun y hy=>?_
    | refine Ok.ret ?_
  trivial
theorem T8 (l:List aL)(p:fE)(hl:l.length≤1000000):Ok (ru l p) (fun y=>0≤y.1∧y.1≤(l.length:Int)∧(y.2=true→y.1 < (l.length:Int))):=by
  unfold ru lf
  refine Ok.ob (P:=fun y=>y.1=l∧0≤y.2.1∧y.2.1≤(l.length:Int)) ?_ fun y hy=>?_
  · refine Ok.iter (fun xx=>xx.1=l∧0≤xx.2.1∧xx.2.1≤(l.length:Int)) (fun xx=>((l.length:Int) - xx.2.1).toNat) ?_ _ _ ⟨rfl,by dsimp only;omega,by dsimp only;omega⟩ (by dsimp only;omega)
    rintro ⟨l_,k_,p_⟩ ⟨h1,h2,h3⟩
    dsimp only at h1 h2 h3
    subst h1
    unfold v8 JJ
    dsimp only
    unfold lf
    simp only [bH]
    refine Ok.dec (fun hi=>?_) (fun _=>Ok.inr ⟨rfl,h2,h3⟩)
    have hw:aF (k_+1)=k_+1:=cK (by omega)
    repeat' first
      | refine Ok.aw (by omega) ?_
      | refine Ok.ob (Ok.get (by omega)) fun e he=>?_
      | refine Ok.ob (WE _ _) fun y hy=>?_
      | refine Ok.dec (fun hc=>?_) (fun hc=>?_)
      | refine Ok.inl ?_
      | refine Ok.inr ?_
    · dsimp only;exact ⟨⟨rfl,by omega,by omega⟩,by omega⟩
    · exact ⟨rfl,h2,h3⟩
  · obtain ⟨l',i,q⟩:=y
    obtain ⟨h1,h2,h3⟩:=hy
    dsimp only at h1 h2 h3
    subst h1
    dsimp only
    simp only [bH]
    repeat' first
      | refine Ok.aw (by omega) ?_
      | refine Ok.ob (Ok.get (by omega)) fun e he=>?_
      | refine Ok.ob (WE _ _) fun y hy=>?_
      | refine Ok.dec (fun hc=>?_) (fun hc=>?_)
      | refine Ok.ret ?_
    · dsimp only;exact ⟨h2,h3,fun _=>by omega⟩
    · dsimp only;exact ⟨h2,h3,by simp⟩
theorem aIr (l:List aL)(a b:Int)(hl:l.length≤1000000):Ok (wj l a b) (fun _=>True):=by
  unfold wj
  refine Ok.ob (T8 l _ hl) fun y hy=>Ok.cond (fun _=>Ok.ret trivial) fun h=>?_
  have:=hy.2.2 (by cases h2:y.2 with | true=>rfl | false=>rw [h2] at h;cases h)
  repeat' first
    | refine Ok.aw (by omega) ?_
    | refine Ok.ob (Ok.get (by omega)) fun e he=>?_
    | refine Ok.ret ?_
  trivial
theorem Dw (a b:Nat):Nat.min a b=min a b:=rfl
theorem aH9 (l:List aL)(e:aL)(hl:l.length≤1000000):Ok (laid l [e]) (fun y=>y.length≤l.length+1):=by
  unfold laid
  have h1:([e].length:Int)=1:=rfl
  have hcp:((l.take (Nat.min l.length ((List.replicate (((l.length:Int)).toNat) (aL.mk 0 0 0)).length)))++(((List.replicate (((l.length:Int)).toNat) (aL.mk 0 0 0)).take ((List.replicate (((l.length:Int)).toNat) (aL.mk 0 0 0)).length)).drop (Nat.min l.length ((List.replicate (((l.length:Int)).toNat) (aL.mk 0 0 0)).length))))=l:=by
    rw [List.length_replicate,Dw,Int.toNat_natCast,Nat.min_self,List.take_length,List.drop_eq_nil_of_le (by simp),List.append_nil]
  rw [hcp,h1,cK (n:=(l.length:Int)+1) (by omega)]
  refine Ok.aw (by omega) (Ok.aw (by omega) (Ok.fit (by omega) ?_))
  refine Ok.ob (P:=fun y=>y.length≤l.length+1) ?_ fun y hy=>Ok.fit (by simp only [List.nil_append];omega) (Ok.ret (by simpa using hy))
  refine Ok.iter (fun xx=>xx.2.1=[e]∧xx.2.2.1=1∧0≤xx.2.2.2∧xx.2.2.2≤1∧(xx.1.length:Int)≤l.length+xx.2.2.2) (fun xx=>(1 - xx.2.2.2).toNat) ?_ _ _ ⟨rfl,rfl,by dsimp only;omega,by dsimp only;omega,by dsimp only;omega⟩ (by dsimp only;omega)
  rintro ⟨m_,l_,n_,k_⟩ ⟨h1,h2,h3,h4,h5⟩
  dsimp only at h1 h2 h3 h4 h5
  subst h1;subst h2
  unfold ur KG
  dsimp only
  refine Ok.dec (fun hi=>?_) (fun _=>Ok.inr (by omega))
  have hw:aF (k_+1)=k_+1:=cK (by omega)
  unfold lf
  simp only [bH]
  refine Ok.aw (by omega) (Ok.ob (Ok.get (by simp only [List.length_singleton];omega)) fun e0 _=>Ok.ob (T8 m_ _ (by omega)) fun r hr=>?_)
  obtain ⟨r1,r2,r3⟩:=hr
  have hwr:aF (r.1+1)=r.1+1:=cK (by omega)
  refine Ok.cond (fun hc=>?_) (fun hc=>?_)
  · have:=r3 hc
    repeat' first
      | refine Ok.aw (by omega) ?_
      | refine Ok.ob (Ok.get (by omega)) fun e he=>?_
      | refine Ok.inl ?_
    dsimp only
    exact ⟨⟨rfl,rfl,by omega,by omega,by simp only [List.length_set];omega⟩,by omega⟩
  · have hA:(m_++[aL.mk 0 0 0]).length=m_.length+1:=by simp
    generalize m_++[aL.mk 0 0 0]=A at hA
    rw [hwr,List.take_length,hA,Int.toNat_natCast,← hA,List.take_length]
    have hB:((A.take (r.1+1).toNat++(A.drop r.1.toNat).take (Nat.min (A.drop r.1.toNat).length (A.length - (r.1+1).toNat)))++A.drop ((r.1+1).toNat+Nat.min (A.drop r.1.toNat).length (A.length - (r.1+1).toNat))).length=A.length:=by
      simp only [Dw,List.length_append,List.length_take,List.length_drop];omega
    generalize (A.take (r.1+1).toNat++(A.drop r.1.toNat).take (Nat.min (A.drop r.1.toNat).length (A.length - (r.1+1).toNat)))++A.drop ((r.1+1).toNat+Nat.min (A.drop r.1.toNat).length (A.length - (r.1+1).toNat))=C at hB
    repeat' first
      | refine Ok.aw (by omega) ?_
      | refine Ok.fit (by omega) ?_
      | refine Ok.ob (Ok.get (by omega)) fun e he=>?_
      | refine Ok.inl ?_
    dsimp only
    exact ⟨⟨rfl,rfl,by omega,by omega,by simp only [List.length_set];omega⟩,by omega⟩
theorem aHh (l:List aL)(e:aL)(hl:l.length≤1000000):Ok (vE l e) (fun y=>y.1.length≤l.length+1):=by
  unfold vE Bq
  refine Ok.cond (fun _=>Ok.ret (Nat.zero_le _)) fun _=>Ok.ob (P:=fun _=>True) (Ok.dec (fun _=>Ok.ob (aIr l _ _ hl) fun _ _=>Ok.ret trivial) (fun _=>Ok.ret trivial)) fun _ _=>Ok.cond (fun _=>Ok.ret (Nat.zero_le _)) fun _=>Ok.ob (aH9 l e hl) fun y hy=>Ok.ret hy
theorem P1 {α:Type}{l:List α}{k:Nat}{e:α}(h:l[k]?=some e):l.set k e=l:=by
  obtain ⟨h1,h2⟩:=List.getElem?_eq_some_iff.1 h
  rw [← h2,List.set_getElem_self]
theorem mL {α:Type}{o:Option α}{x:α}(h:Ok o (fun y=>y=x)):o=some x:=by
  obtain ⟨y,h1,h2⟩:=h
  rw [h1,h2]
def jV (l:aI):Prop:=l.aX.length≤1000000∧l.ids.length≤1000000∧l.used.length≤1000000
theorem gm (l:aI)(h:jV l):gT l=some l:=by
  unfold gT
  rw [mC (n:=l.aX.length) (by have:=h.1;omega),mC (n:=l.ids.length) (by have:=h.2.1;omega),mC (n:=l.used.length) (by have:=h.2.2;omega)]
  rfl
theorem n8 (l:aI)(h:jV l):fO l=some l:=gm l h
structure zD (b:aG):Prop where
  cn:b.ak.length≤1000000
  fr:b.free.length≤1000000
  ln:b.aP.length≤1000000
  bd:b.bF.length≤1000000
  ls:∀ l∈b.aP,jV l
theorem RK (b:aG)(h:zD b):xH b=some b:=by
  obtain ⟨h1,h2,h3,h4,h5⟩:=h
  refine mL ?_
  unfold xH
  refine Ok.fit (by omega) (Ok.fit (by omega) (Ok.fit (by omega) (Ok.fit (by omega) ?_)))
  refine Ok.ob (P:=fun y=>y.1=b) ?_ fun y hy=>Ok.ret hy
  refine Ok.iter (fun xx=>xx.1=(b.aP.length:Int)∧xx.2.2.1=b∧0≤xx.2.1∧xx.2.1≤(b.aP.length:Int)) (fun xx=>((b.aP.length:Int) - xx.2.1).toNat) ?_ _ _ ⟨rfl,rfl,by dsimp only;omega,by dsimp only;omega⟩ (by dsimp only;omega)
  rintro ⟨n_,k_,b_,p_⟩ ⟨h1,h2,h3,h4⟩
  dsimp only at h1 h2 h3 h4
  subst h1;subst h2
  unfold wI Lg
  dsimp only
  refine Ok.dec (fun hi=>?_) (fun _=>Ok.inr rfl)
  have hw:aF (k_+1)=k_+1:=cK (by omega)
  refine Ok.aw (by omega) (Ok.aw (by omega) (Ok.ob (Ok.get (by omega)) fun e he=>?_))
  rw [gm e (h5 e he.1),bH]
  refine Ok.aw (by omega) (Ok.aw (by omega) (Ok.ob (Ok.get (by omega)) fun _ _=>Ok.inl ?_))
  dsimp only
  rw [P1 he.2]
  exact ⟨⟨rfl,rfl,by omega,by omega⟩,by omega⟩
theorem tF (b:aG)(h:zD b):fP b=some b:=RK b h
theorem aJp (l:List Op)(h:l.length≤1000000)(hd:∀ o∈l,o.dG.length≤1000000):xj l=some l:=by
  refine mL ?_
  unfold xj
  refine Ok.fit (by omega) ?_
  refine Ok.ob (P:=fun y=>y=l) ?_ fun y hy=>Ok.ret hy
  refine Ok.iter (fun xx=>xx.2.1=(l.length:Int)∧xx.1=l∧0≤xx.2.2∧xx.2.2≤(l.length:Int)) (fun xx=>((l.length:Int) - xx.2.2).toNat) ?_ _ _ ⟨rfl,rfl,by dsimp only;omega,by dsimp only;omega⟩ (by dsimp only;omega)
  rintro ⟨l_,n_,k_⟩ ⟨h1,h2,h3,h4⟩
  dsimp only at h1 h2 h3 h4
  subst h1;subst h2
  unfold wV LZ
  dsimp only
  refine Ok.dec (fun hi=>?_) (fun _=>Ok.inr rfl)
  have hw:aF (k_+1)=k_+1:=cK (by omega)
  refine Ok.aw (by omega) (Ok.aw (by omega) (Ok.ob (Ok.get (by omega)) fun e he=>Ok.fit (by have:=hd e he.1;omega) (Ok.aw (by omega) (Ok.aw (by omega) (Ok.ob (Ok.get (by omega)) fun e' he'=>Ok.inl ?_)))))
  have:=he.2.symm.trans he'.2
  cases this
  dsimp only
  rw [show Op.mk e.al e.cC e.cU e.kind e.key e.text e.n e.time e.dG=e from rfl,P1 he.2]
  exact ⟨⟨rfl,rfl,by omega,by omega⟩,by omega⟩
structure Fh (c:ah):Prop where
  v:c.v.length≤1000000
  be:c.be.length≤1000000
  bY:c.bY.length≤1000000
  gone:c.gone.length≤1000000
  bc:c.bc.length≤1000000
  binds:c.binds.length≤1000000
theorem R0 (c:ah)(h:Fh c):eK c=some c:=by
  obtain ⟨h1,h2,h3,h4,h5,h6⟩:=h
  refine mL ?_
  unfold eK
  exact Ok.fit (by omega) (Ok.fit (by omega) (Ok.fit (by omega) (Ok.fit (by omega) (Ok.fit (by omega) (Ok.fit (by omega) (Ok.ret rfl))))))
theorem er.f {K:Nat}{c:ah}(h:er K c)(hK:K≤10000):Fh c:=by
  obtain ⟨h1,h2,h3,h4,h5,h6⟩:=h
  constructor<;>omega
def RS (x:Range):Prop:=0≤x.from_∧x.from_ < x.bt∧x.bt≤1000
def lq (a b:Range):Prop:=a.bt < b.from_
def SR (l:List Range):Prop:=(∀ x∈l,RS x)∧l.Pairwise lq
theorem Dm:SR []:=⟨(fun x h=>by cases h),.nil⟩
theorem RA:∀ (l:List Range) (lo:Nat),(∀ x∈l,(lo:Int)≤x.from_∧x.from_ < x.bt∧x.bt≤1000)→l.Pairwise lq→l.length≤1000 - lo
  | [],lo,_,_=>Nat.zero_le _
  | x::r,lo,h,hp=>by
    obtain ⟨h1,h2,h3⟩:=h x (by simp)
    obtain ⟨p1,p2⟩:=List.pairwise_cons.1 hp
    have:=RA r (lo+1) (fun y hy=>by
      have:=p1 y hy;unfold lq at this
      have:=h y (by simp [hy])
      omega) p2
    simp only [List.length_cons]
    omega
theorem SR.len {l:List Range}(h:SR l):l.length≤1000:=RA l 0 (fun x hx=>h.1 x hx) h.2
structure jn (U:Nat) (l:aI):Prop where
  sl:l.aX.length≤10
  ids:SR l.ids
  used:l.used.length≤U
  ky:∀ s∈l.aX,s.key.size≤1000
theorem jn.mono {U V:Nat}{l:aI}(h:jn U l)(hu:U≤V):jn V l:=⟨h.sl,h.ids,Nat.le_trans h.used hu,h.ky⟩
theorem jn.f {U:Nat}{l:aI}(h:jn U l)(hU:U≤100000):jV l:=by
  have h1:=h.sl
  have h2:=h.used
  have h3:=h.ids.len
  exact ⟨by omega,by omega,by omega⟩
structure fq (U B:Nat) (b:aG):Prop where
  cn:b.ak.length≤10
  free:SR b.free
  ln:b.aP.length≤1000
  ls:∀ l∈b.aP,jn U l
  bd:b.bF.length≤B
theorem fq.mono {U V B C:Nat}{b:aG}(h:fq U B b)(hu:U≤V)(hb:B≤C):fq V C b:=⟨h.cn,h.free,h.ln,fun l hl=>(h.ls l hl).mono hu,Nat.le_trans h.bd hb⟩
theorem fq.f {U B:Nat}{b:aG}(h:fq U B b)(hU:U≤100000)(hB:B≤1000000):zD b:=by
  have h1:=h.cn
  have h2:=h.free.len
  have h3:=h.ln
  have h4:=h.bd
  exact ⟨by omega,by omega,by omega,by omega,fun l hl=>(h.ls l hl).f hU⟩
structure eW (r:aO):Prop where
  sl:r.aD.aX.length≤10
  id:r.aD.ids.length≤1000
  us:r.aD.used.length≤1000
structure DvG (v:dw):Prop where
  h0:eW v.a0.aA
  h1:eW v.a1.aA
  h2:eW v.a2.aA
  h3:eW v.a3.aA
  h4:eW v.a4.aA
  h5:eW v.a5.aA
structure dJ (U B K N Z:Nat) (d:bI):Prop where
  bk:fq U B d.book
  ln:d.book.aP.length≤N
  c0:er K d.aM.a0
  c1:er K d.aM.a1
  c2:er K d.aM.a2
  lg:d.log.length≤2000
  op:∀ o∈d.log,o.dG.length≤100
  ls:d.lost.length≤Z
  dv:DvG d.dev
theorem dJ.mono {U B K N Z U' B' K' N' Z':Nat}{d:bI}(h:dJ U B K N Z d)(h1:U≤U')(h2:B≤B')(h3:K≤K')(h4:N≤N')(h5:Z≤Z'):dJ U' B' K' N' Z' d :=
  ⟨h.bk.mono h1 h2,Nat.le_trans h.ln h4,h.c0.mono h3,h.c1.mono h3,h.c2.mono h3,h.lg,h.op,Nat.le_trans h.ls h5,h.dv⟩
theorem cu (e n:Int):eW (aO.mk e n (aI.mk 0 0 0 0 [] [] [])):=⟨Nat.zero_le _,Nat.zero_le _,Nat.zero_le _⟩
theorem eW.f {r:aO}(h:eW r):jV r.aD:=by
  obtain ⟨h1,h2,h3⟩:=h
  exact ⟨by omega,by omega,by omega⟩
theorem Qw {U B K N Z:Nat}(d:bI)(h:dJ U B K N Z d)(hU:U≤100000)(hB:B≤1000000)(hK:K≤10000)(hZ:Z≤1000000):dm d=some d:=by
  have hls:=h.ls
  have hlg:=h.lg
  have hv:=h.dv
  obtain ⟨a1,a2,a3,a4,a5,a6⟩:=h.c0.f hK
  obtain ⟨b1,b2,b3,b4,b5,b6⟩:=h.c1.f hK
  obtain ⟨c1,c2,c3,c4,c5,c6⟩:=h.c2.f hK
  refine mL ?_
  unfold dm
  rw [RK d.book (h.bk.f hU hB),aJp d.log (by omega) (fun o ho=>by have:=h.op o ho;omega),gm _ hv.h0.f,gm _ hv.h1.f,gm _ hv.h2.f,gm _ hv.h3.f,gm _ hv.h4.f,gm _ hv.h5.f]
  simp only [bH]
  repeat' refine Ok.fit (by omega) ?_
  exact Ok.ret rfl
theorem j3 (a b c:Int):Ok (hP a b c) (fun y=>y=true→b≤a∧a≤c):=by
  unfold hP
  refine Ok.ret ?_
  by_cases h:a≥b
  · rw [decide_eq_true h];exact fun h2=>⟨h,of_decide_eq_true h2⟩
  · rw [decide_eq_false h];exact fun h=>by cases h
theorem nP (a b c:Int):Ok (jL a b c) (fun y=>y=true→b≤a∧a≤c):=j3 a b c
theorem se (l:List aL)(v e:Int)(h:l.length≤1000000):Ok (j2 l v e) (fun _=>True):=by
  unfold j2
  exact Ok.fit (by omega) (Ok.ret trivial)
theorem mQ (l:List Op)(v e:Int)(h:l.length≤1000000):jX l v e=some (iF (fun o:Op=>o.al.device == v && o.al.aB == e) (fun o=>o.al.seq) l):=by
  unfold jX
  rw [mC (by omega)]
  rfl
theorem Nj (b:aG)(s:ByteArray)(hl:b.ak.length≤1000000):Ok (ml b s) (fun r=>r < 0∨0≤r∧r < (b.ak.length:Int)):=by
  unfold ml
  refine Ok.ob (P:=eI (fun _=>True) (fun y=>0≤y.1∧y.1 < (b.ak.length:Int))) ?_ fun y hy=>Ok.two hy (fun _ _=>Ok.ret (.inl (by omega))) (fun _ hb=>Ok.ret (.inr hb))
  refine Ok.iter (fun xx=>xx.1=b.ak∧xx.2.2.1=(b.ak.length:Int)∧0≤xx.2.2.2.1∧xx.2.2.2.1≤(b.ak.length:Int)) (fun xx=>((b.ak.length:Int) - xx.2.2.2.1).toNat) ?_ _ _ ⟨rfl,rfl,by dsimp only;omega,by dsimp only;omega⟩ (by dsimp only;omega)
  rintro ⟨l_,a_,n_,k_,s_⟩ ⟨h1,h2,h3,h4⟩
  dsimp only at h1 h2 h3 h4
  subst h1;subst h2
  unfold ui JN
  dsimp only
  refine Ok.dec (fun hi=>?_) (fun _=>Ok.fk trivial)
  have hw:aF (k_+1)=k_+1:=cK (by omega)
  repeat' first
    | refine Ok.aw (by omega) ?_
    | refine Ok.ob (Ok.get (by omega)) fun e he=>?_
    | refine Ok.cond (fun hc=>?_) (fun hc=>?_)
    | refine Ok.inl ?_
    | refine Ok.fN ?_
  · exact ⟨h3,hi⟩
  · dsimp only;exact ⟨⟨rfl,rfl,by omega,by omega⟩,by omega⟩
def jI (l:List aI)(v e:Int):Int:=match l.findIdx? (fun x=>x.device == v && x.aB == e) with
  | some k=>(k:Int)
  | none => -1
theorem FZ (b:aG)(v e:Int)(hl:b.aP.length≤1000000):nW b v e=some (jI b.aP v e):=by
  refine mL ?_
  unfold nW
  refine Ok.ob (P:=eI (fun _=>jI b.aP v e = -1) (fun y=>y.1=jI b.aP v e)) ?_ fun y hy=>Ok.two hy (fun _ ha=>Ok.ret ha.symm) (fun _ hb=>Ok.ret hb)
  refine Ok.iter (fun xx=>xx.1=b.aP∧xx.2.2.1=(b.aP.length:Int)∧xx.2.2.2.2.1=v∧xx.2.2.2.2.2=e∧0≤xx.2.2.2.1∧xx.2.2.2.1≤(b.aP.length:Int)∧∀ (j:Nat) q,(j:Int) < xx.2.2.2.1→b.aP[j]?=some q→(q.device == v && q.aB == e)=false) (fun xx=>((b.aP.length:Int) - xx.2.2.2.1).toNat) ?_ _ _ ⟨rfl,rfl,rfl,rfl,by dsimp only;omega,by dsimp only;omega,fun j q h=>by dsimp only at h;omega⟩ (by dsimp only;omega)
  rintro ⟨l_,a_,n_,k_,v_,e_⟩ ⟨h1,h2,h3,h4,h5,h6,h7⟩
  dsimp only at h1 h2 h3 h4 h5 h6 h7
  subst h1;subst h2;subst h3;subst h4
  unfold tm Gd
  dsimp only
  refine Ok.dec (fun hi=>?_) (fun hi=>Ok.fk ?_)
  · have hw:aF (k_+1)=k_+1:=cK (by omega)
    refine Ok.aw (by omega) (Ok.ob (Ok.get (by omega)) fun x hx=>Ok.cond (fun hc=>Ok.fN ?_) (fun hc=>Ok.inl ?_))
    · have hlt:k_.toNat < b.aP.length:=by omega
      have hs:b.aP.findIdx? (fun x=>x.device == v_ && x.aB == e_)=some k_.toNat:=by
        refine List.findIdx?_eq_some_iff_getElem.2 ⟨hlt,?_,fun j hj=>?_⟩
        · have:=hx.2;rw [List.getElem?_eq_getElem hlt] at this;cases this
          revert hc;cases (b.aP[k_.toNat].device == v_)<;>simp
        · have:=h7 j b.aP[j] (by omega) (List.getElem?_eq_getElem (by omega));simpa using this
      dsimp only
      unfold jI;rw [hs];dsimp only;omega
    · dsimp only
      refine ⟨⟨rfl,rfl,rfl,rfl,by omega,by omega,fun j x' hj hx'=>?_⟩,by omega⟩
      by_cases hji:(j:Int) < k_
      · exact h7 j x' hji hx'
      · have:j=k_.toNat:=by omega
        subst this
        rw [hx.2] at hx';cases hx'
        revert hc;cases (x.device == v_)<;>simp
  · have hs:b.aP.findIdx? (fun x=>x.device == v_ && x.aB == e_)=none:=by
      refine List.findIdx?_eq_none_iff.2 fun e he=>?_
      obtain ⟨j,hj,rfl⟩:=List.getElem_of_mem he
      have:=h7 j b.aP[j] (by omega) (List.getElem?_eq_getElem hj);simpa using this
    unfold jI;rw [hs]
theorem EB {l:List aI}{v e:Int}(h:0≤jI l v e):jI l v e < (l.length:Int)∧∃ x,l[(jI l v e).toNat]?=some x∧x.device=v∧x.aB=e:=by
  unfold jI at h ⊢
  split
  · rename_i k hk
    obtain ⟨h1,h2,_⟩:=List.findIdx?_eq_some_iff_getElem.1 hk
    refine ⟨by omega,l[k],?_,by simpa using h2⟩
    rw [Int.toNat_natCast]
    exact List.getElem?_eq_getElem h1
  · rename_i hk
    rw [hk] at h
    simp at h
theorem yW {U B:Nat}(b:aG)(v e:Int)(h:fq U B b)(hU:U≤100000):Ok (nH b v e) (fun y=>(y.2=false→y.1=aI.mk 0 0 0 0 [] [] [])∧(y.2=true→0≤jI b.aP v e∧b.aP[(jI b.aP v e).toNat]?=some y.1∧y.1∈b.aP∧y.1.device=v∧y.1.aB=e)):=by
  unfold nH
  rw [FZ b v e (by have:=h.ln;omega),bH]
  refine Ok.dec (fun _=>Ok.ret ⟨fun _=>rfl,fun h=>by cases h⟩) (fun hneg=>?_)
  obtain ⟨a1,x,a2,a3,a4⟩:=EB (l:=b.aP) (v:=v) (e:=e) (by omega)
  refine Ok.aw (by omega) (Ok.ob (Ok.get (by omega)) fun l hl=>?_)
  have:=hl.2.symm.trans a2
  cases this
  rw [n8 x ((h.ls x hl.1).f hU),bH]
  exact Ok.ret ⟨fun h=>by simp at h,fun _=>⟨by omega,hl.2,hl.1,a3,a4⟩⟩
theorem yR (l:List Range)(hl:l.length≤1000000):kv l=some l:=by
  refine mL ?_
  unfold kv
  have hcp:((l.take (Nat.min l.length ((List.replicate (((l.length:Int)).toNat) (Range.mk 0 0)).length)))++(((List.replicate (((l.length:Int)).toNat) (Range.mk 0 0)).take ((List.replicate (((l.length:Int)).toNat) (Range.mk 0 0)).length)).drop (Nat.min l.length ((List.replicate (((l.length:Int)).toNat) (Range.mk 0 0)).length))))=l:=by
    rw [List.length_replicate,Dw,Int.toNat_natCast,Nat.min_self,List.take_length,List.drop_eq_nil_of_le (by simp),List.append_nil]
  rw [hcp]
  exact Ok.aw (by omega) (Ok.fit (by omega) (Ok.ret rfl))
theorem aJf (l:List Range)(hl:l.length≤1000000):Ok (wh l) (fun _=>True):=by
  unfold wh
  refine Ok.ob (P:=fun _=>True) ?_ fun y hy=>Ok.ret trivial
  refine Ok.iter (fun xx=>xx.2.1=l∧xx.2.2.1=(l.length:Int)∧0≤xx.2.2.2∧xx.2.2.2≤(l.length:Int)) (fun xx=>((l.length:Int) - xx.2.2.2).toNat) ?_ _ _ ⟨rfl,rfl,by dsimp only;omega,by dsimp only;omega⟩ (by dsimp only;omega)
  rintro ⟨m_,l_,n_,k_⟩ ⟨h1,h2,h3,h4⟩
  dsimp only at h1 h2 h3 h4
  subst h1;subst h2
  unfold uq JV
  dsimp only
  refine Ok.dec (fun hi=>?_) (fun _=>Ok.inr trivial)
  have hw:aF (k_+1)=k_+1:=cK (by omega)
  repeat' first
    | refine Ok.aw (by omega) ?_
    | refine Ok.ob (Ok.get (by omega)) fun e he=>?_
    | refine Ok.inl ?_
  dsimp only;exact ⟨⟨rfl,rfl,by omega,by omega⟩,by omega⟩
theorem Rn (l:List Range)(n:Int)(hl:l.length≤1000000):Ok (rz l n) (fun _=>True):=by
  unfold rz
  refine Ok.ob (P:=eI (fun _=>True) (fun _=>True)) ?_ fun y hy=>Ok.two hy (fun _ _=>Ok.ret trivial) (fun _ _=>Ok.ret trivial)
  refine Ok.iter (fun xx=>xx.2.2.1=l∧xx.2.2.2.1=(l.length:Int)∧0≤xx.2.2.2.2∧xx.2.2.2.2≤(l.length:Int)) (fun xx=>((l.length:Int) - xx.2.2.2.2).toNat) ?_ _ _ ⟨rfl,rfl,by dsimp only;omega,by dsimp only;omega⟩ (by dsimp only;omega)
  rintro ⟨a_,b_,l_,n_,k_⟩ ⟨h1,h2,h3,h4⟩
  dsimp only at h1 h2 h3 h4
  subst h1;subst h2
  unfold uz K6
  dsimp only
  refine Ok.dec (fun hi=>?_) (fun _=>Ok.fk trivial)
  have hw:aF (k_+1)=k_+1:=cK (by omega)
  repeat' first
    | refine Ok.aw (by omega) ?_
    | refine Ok.ob (Ok.get (by omega)) fun e he=>?_
    | refine Ok.cond (fun hc=>?_) (fun hc=>?_)
    | refine Ok.inl ?_
    | refine Ok.fN ?_
  all_goals first | trivial | (dsimp only;exact ⟨⟨rfl,rfl,by omega,by omega⟩,by omega⟩)
structure AP (a l:List Range) (k:Nat):Prop where
  sr:SR a
  lt:∀ z∈a,∀ w∈l.drop k,lq z w
theorem AP.nil {l:List Range}{k:Nat}:AP [] l k:=⟨Dm,(fun z h=>by cases h)⟩
theorem AP.skip {a l:List Range}{k:Nat}(h:AP a l k):AP a l (k+1):=⟨h.sr,fun z hz w hw=>h.lt z hz w (by
  have:l.drop (k+1)=(l.drop k).drop 1:=by rw [List.drop_drop]
  rw [this] at hw
  exact List.mem_of_mem_drop hw)⟩
theorem sX {α:Type}{l:List α}{k:Nat}{e:α}(he:l[k]?=some e):l.drop k=e::l.drop (k+1):=by
  obtain ⟨h1,h2⟩:=List.getElem?_eq_some_iff.1 he
  rw [List.drop_eq_getElem_cons h1,h2]
theorem SR.next {l:List Range}{k:Nat}{e:Range}(h:SR l)(he:l[k]?=some e):∀ w∈l.drop (k+1),lq e w:=by
  have:=h.2.sublist (List.drop_sublist k l)
  rw [sX he] at this
  exact (List.pairwise_cons.1 this).1
theorem AP.FU {a l ps:List Range}{k:Nat}{e:Range}(h:AP a l k)(hl:SR l)(he:l[k]?=some e)(hp:∀ p∈ps,e.from_≤p.from_∧p.from_ < p.bt∧p.bt≤e.bt)(hw:ps.Pairwise lq):AP (a++ps) l (k+1):=by
  have hm:e∈l.drop k:=by rw [sX he];simp
  have hr:=hl.1 e (List.mem_of_mem_drop hm)
  refine ⟨⟨fun x hx=>?_,List.pairwise_append.2 ⟨h.sr.2,hw,fun z hz p hp'=>?_⟩⟩,fun z hz w hw'=>?_⟩
  · rcases List.mem_append.1 hx with hx | hx
    · exact h.sr.1 x hx
    · have:=hp x hx;unfold RS at hr ⊢;omega
  · have h1:=h.lt z hz e hm
    have:=hp p hp'
    unfold lq at h1 ⊢;omega
  · rcases List.mem_append.1 hz with hz | hz
    · exact h.skip.lt z hz w hw'
    · have h1:=hl.next he w hw'
      have:=hp z hz
      unfold lq at h1 ⊢;omega
theorem AP.add {a l:List Range}{k:Nat}{e p:Range}(h:AP a l k)(hl:SR l)(he:l[k]?=some e)(h1:e.from_≤p.from_)(h2:p.from_ < p.bt)(h3:p.bt≤e.bt):AP (a++[p]) l (k+1) :=
  h.FU hl he (fun q hq=>by rw [List.mem_singleton.1 hq];exact ⟨h1,h2,h3⟩) (List.pairwise_singleton _ _)
theorem aHV (l:List Range)(n:Int)(hv:SR l)(hn:n≤100000):Ok (rP l n) (fun y=>y.2.2=0→SR y.1∧SR y.2.1):=by
  have hll:=hv.len
  unfold rP
  refine Ok.dec (fun _=>Ok.ret (fun h=>by cases h)) fun hn0=>Ok.ob (aJf l (by omega)) fun r0 _=>Ok.dec (fun _=>Ok.ret (fun h=>by cases h)) fun _=>?_
  refine Ok.ob (P:=fun y=>SR y.1∧SR y.2) ?_ fun y hy=>?_
  · refine Ok.iter (fun xx=>xx.2.2.2.1=l∧xx.2.2.2.2.1=(l.length:Int)∧0≤xx.1∧xx.1≤100000∧0≤xx.2.2.2.2.2∧xx.2.2.2.2.2≤(l.length:Int)∧AP xx.2.1 l xx.2.2.2.2.2.toNat∧AP xx.2.2.1 l xx.2.2.2.2.2.toNat) (fun xx=>((l.length:Int) - xx.2.2.2.2.2).toNat) ?_ _ _ ⟨rfl,rfl,by dsimp only;omega,by dsimp only;omega,by dsimp only;omega,by dsimp only;omega,.nil,.nil⟩ (by dsimp only;omega)
    rintro ⟨n_,a_,b_,l_,m_,k_⟩ ⟨h1,h2,h3,h4,h5,h6,h7,h8⟩
    dsimp only at h1 h2 h3 h4 h5 h6 h7 h8
    subst h1;subst h2
    unfold uo Kn
    dsimp only
    refine Ok.dec (fun hi=>?_) (fun hi=>Ok.inr ⟨h7.sr,h8.sr⟩)
    have hw:aF (k_+1)=k_+1:=cK (by omega)
    have ht:(k_+1).toNat=k_.toNat+1:=by omega
    refine Ok.aw (by omega) (Ok.ob (Ok.get (by omega)) fun e he=>?_)
    obtain ⟨e1,e2,e3⟩:=hv.1 e he.1
    have hL7:=h7.sr.len
    have hL8:=h8.sr.len
    have hk:min2 n_ (aF (e.bt - e.from_))=min n_ (e.bt - e.from_):=by rw [cK (by omega)];unfold min2;split<;>omega
    simp only [hk]
    have hk1:0≤min n_ (e.bt - e.from_):=by omega
    have hk2:min n_ (e.bt - e.from_)≤e.bt - e.from_:=by omega
    have hk3:min n_ (e.bt - e.from_)≤n_:=by omega
    generalize min n_ (e.bt - e.from_)=q at hk1 hk2 hk3 ⊢
    have hwf:aF (e.from_+q)=e.from_+q:=cK (by omega)
    have hwn:aF (n_ - q)=n_ - q:=cK (by omega)
    rw [hwf,hwn,hw]
    repeat' first
      | refine Ok.aw (by omega) ?_
      | refine Ok.fit (by simp only [List.length_append,List.length_cons,List.length_nil]<;>omega) ?_
      | refine Ok.dec (fun hc=>?_) (fun hc=>?_)
      | refine Ok.inl ?_
    all_goals dsimp only
    all_goals rw [ht]
    · exact ⟨⟨rfl,rfl,by omega,by omega,by omega,by omega,h7.add hv he.2 (by dsimp only;omega) (by dsimp only;omega) (by dsimp only;omega),h8.add hv he.2 (by dsimp only;omega) (by dsimp only;omega) (by dsimp only;omega)⟩,by omega⟩
    · exact ⟨⟨rfl,rfl,by omega,by omega,by omega,by omega,h7.add hv he.2 (by dsimp only;omega) (by dsimp only;omega) (by dsimp only;omega),h8.skip⟩,by omega⟩
    · exact ⟨⟨rfl,rfl,by omega,by omega,by omega,by omega,h7.skip,h8.add hv he.2 (by dsimp only;omega) (by dsimp only;omega) (by dsimp only;omega)⟩,by omega⟩
  · rw [yR y.1 (by have:=hy.1.len;omega),bH,yR y.2 (by have:=hy.2.len;omega),bH]
    exact Ok.ret fun _=>hy
theorem SN (l:List Range)(r:Range)(hv:SR l)(hr:RS r):Ok (nK l r) SR:=by
  have hl:=hv.len
  have hr':=hr
  obtain ⟨hr1,hr2,hr3⟩:=hr
  unfold nK
  refine Ok.cond (fun hc=>?_) (fun _=>?_)
  · exfalso
    rw [decide_eq_false (by omega),decide_eq_false (by omega),decide_eq_false (by omega)] at hc
    cases hc
  refine Ok.ob (P:=fun y=>y.1=l∧y.2.2.2=r∧0≤y.2.2.1∧y.2.2.1≤(l.length:Int)∧AP y.2.1 l y.2.2.1.toNat∧∀ z∈y.2.1,lq z r) ?_ fun y hy=>?_
  · refine Ok.iter (fun xx=>xx.1=l∧xx.2.2.2=r∧0≤xx.2.2.1∧xx.2.2.1≤(l.length:Int)∧AP xx.2.1 l xx.2.2.1.toNat∧(∀ z∈xx.2.1,lq z r)) (fun xx=>((l.length:Int) - xx.2.2.1).toNat) ?_ _ _ ⟨rfl,rfl,by dsimp only;omega,by dsimp only;omega,.nil,by simp⟩ (by dsimp only;omega)
    rintro ⟨l_,a_,k_,r_⟩ ⟨h1,h2,h3,h4,h5,h6⟩
    dsimp only at h1 h2 h3 h4 h5 h6
    subst h1;subst h2
    unfold vP KY
    dsimp only
    refine Ok.dec (fun hi=>?_) (fun hi=>Ok.inr ⟨rfl,rfl,h3,h4,h5,h6⟩)
    have hw:aF (k_+1)=k_+1:=cK (by omega)
    have ht:(k_+1).toNat=k_.toNat+1:=by omega
    refine Ok.aw (by omega) (Ok.ob (Ok.get (by omega)) fun e he=>Ok.dec (fun hlt=>?_) (fun _=>Ok.inr ⟨rfl,rfl,h3,h4,h5,h6⟩))
    refine Ok.aw (by omega) (Ok.ob (Ok.get (by omega)) fun e' he'=>Ok.fit (by have:=h5.sr.len;simp only [List.length_append,List.length_cons,List.length_nil]<;>omega) (Ok.inl ?_))
    have:=he.2.symm.trans he'.2
    cases this
    dsimp only
    rw [hw,ht]
    exact ⟨⟨rfl,rfl,by omega,by omega,h5.add hv he.2 (Int.le_refl _) (hv.1 e he.1).2.1 (Int.le_refl _),li h6 hlt⟩,by omega⟩
  obtain ⟨l',a,k,r'⟩:=y
  obtain ⟨h1,h2,h3,h4,h5,h7⟩:=hy
  dsimp only at h1 h2 h3 h4 h5 h7
  subst h1;subst h2
  dsimp only
  refine Ok.ob (P:=fun y=>y.1=l'∧y.2.1=a∧k≤y.2.2.1∧y.2.2.1≤(l'.length:Int)∧RS y.2.2.2∧AP a l' y.2.2.1.toNat∧(∀ z∈a,lq z y.2.2.2)∧∀ w∈l'.drop y.2.2.1.toNat,lq y.2.2.2 w) ?_ fun y hy=>?_
  · refine Ok.iter (fun xx=>xx.1=l'∧xx.2.1=a∧k≤xx.2.2.1∧xx.2.2.1≤(l'.length:Int)∧RS xx.2.2.2∧AP a l' xx.2.2.1.toNat∧(∀ z∈a,lq z xx.2.2.2)) (fun xx=>((l'.length:Int) - xx.2.2.1).toNat) ?_ _ _ ⟨rfl,rfl,by dsimp only;omega,by dsimp only;omega,hr',h5,h7⟩ (by dsimp only;omega)
    rintro ⟨l_,a_,k_,r_⟩ ⟨h1,h2,h3,h4,h5,h6,h7⟩
    dsimp only at h1 h2 h3 h4 h5 h6 h7
    subst h1;subst h2
    unfold vJ KD
    dsimp only
    refine Ok.dec (fun hi=>?_) (fun hi=>Ok.inr ⟨rfl,rfl,by omega,by omega,by assumption,by assumption,by assumption,?_⟩)
    · have hw:aF (k_+1)=k_+1:=cK (by omega)
      have ht:(k_+1).toNat=k_.toNat+1:=by omega
      refine Ok.aw (by omega) (Ok.ob (Ok.get (by omega)) fun e he=>Ok.dec (fun _=>?_) (fun hg=>Ok.inr ⟨rfl,rfl,by omega,by omega,by assumption,by assumption,by assumption,?_⟩))
      · refine Ok.aw (by omega) (Ok.ob (Ok.get (by omega)) fun e1 he1=>Ok.aw (by omega) (Ok.ob (Ok.get (by omega)) fun e2 he2=>Ok.inl ?_))
        have:=he.2.symm.trans he1.2
        cases this
        have:=he.2.symm.trans he2.2
        cases this
        obtain ⟨q1,q2,q3⟩:=hv.1 e he.1
        have g:RS r_:=by assumption
        obtain ⟨g1,g2,g3⟩:=g
        have hap:AP a_ l_ k_.toNat:=by assumption
        have hz:∀ z∈a_,lq z r_:=by assumption
        dsimp only
        rw [hw,ht]
        refine ⟨⟨rfl,rfl,by omega,by omega,?_,hap.skip,fun z hz'=>?_⟩,by omega⟩
        · unfold RS min2 max2
          dsimp only
          split<;>split<;>omega
        · have w1:=hz z hz'
          have w2:=hap.lt z hz' e (by rw [sX he.2];simp)
          unfold lq min2 at *
          dsimp only
          split<;>omega
      · intro w hw
        dsimp only at hw ⊢
        rw [sX he.2] at hw
        have q:=hv.1 e he.1
        rcases List.mem_cons.1 hw with rfl | hw
        · unfold lq;omega
        · have:=hv.next he.2 w hw
          unfold lq RS at *;omega
    · intro w hw
      dsimp only at hw
      rw [List.drop_eq_nil_of_le (by omega)] at hw
      cases hw
  obtain ⟨l2,a2,k2,r2⟩:=y
  obtain ⟨f1,f2,f3,f4,f5,f6,f7,f8⟩:=hy
  dsimp only at f1 f2 f3 f4 f5 f6 f7 f8
  subst f1;subst f2
  dsimp only
  rw [Int.toNat_natCast,List.take_length,Int.toNat_natCast,List.take_length]
  have hG:SR (a2++[r2]++l2.drop k2.toNat):=by
    refine ⟨fun x hx=>?_,List.pairwise_append.2 ⟨List.pairwise_append.2 ⟨f6.sr.2,List.pairwise_singleton _ _,fun z hz p hp=>by rw [List.mem_singleton.1 hp];exact f7 z hz⟩,hv.2.sublist (List.drop_sublist _ _),fun z hz w hw=>?_⟩⟩
    · rcases List.mem_append.1 hx with hx | hx
      · exact li f6.sr.1 f5 x hx
      · exact hv.1 x (List.mem_of_mem_drop hx)
    · rcases List.mem_append.1 hz with hz | hz
      · exact f6.lt z hz w hw
      · rw [List.mem_singleton.1 hz];exact f8 w hw
  have hL:=hG.len
  have hL2:=f6.sr.len
  rw [yR _ (by omega)]
  simp only [bH]
  repeat' first
    | refine Ok.aw (by omega) ?_
    | refine Ok.fit (by omega) ?_
    | refine Ok.fit (by simp only [List.length_append,List.length_cons,List.length_nil]<;>omega) ?_
    | refine Ok.aw (by simp only []<;>omega) ?_
    | refine Ok.ret ?_
  exact hG
theorem QU (n:Int)(a l:List Range)(p q:Int)(ps:List Range)(hl:a.length≤1000000)(hp:ps.length≤2):xz n a l p q ps (ps.length:Int) 0=some (n,a++ps.filter (fun r=>decide (r.from_ < r.bt)),l,p,q,ps):=by
  refine mL ?_
  refine Ok.iter (fun xx=>xx.1=n∧xx.2.2.1=l∧xx.2.2.2.1=p∧xx.2.2.2.2.1=q∧xx.2.2.2.2.2.1=ps∧xx.2.2.2.2.2.2.1=(ps.length:Int)∧0≤xx.2.2.2.2.2.2.2∧xx.2.2.2.2.2.2.2≤(ps.length:Int)∧xx.2.1++(ps.drop xx.2.2.2.2.2.2.2.toNat).filter (fun r=>decide (r.from_ < r.bt))=a++ps.filter (fun r=>decide (r.from_ < r.bt))∧(xx.2.1.length:Int)≤a.length+xx.2.2.2.2.2.2.2) (fun xx=>((ps.length:Int) - xx.2.2.2.2.2.2.2).toNat) ?_ _ _ ⟨rfl,rfl,rfl,rfl,rfl,rfl,by dsimp only;omega,by dsimp only;omega,rfl,by dsimp only;omega⟩ (by dsimp only;omega)
  rintro ⟨n_,a_,l_,p_,q_,s_,m_,k_⟩ ⟨h1,h2,h3,h4,h5,h6,h7,h8,h9,h10⟩
  dsimp only at h1 h2 h3 h4 h5 h6 h7 h8 h9 h10
  subst h1;subst h2;subst h3;subst h4;subst h5;subst h6
  unfold uS IJ
  dsimp only
  have hw:aF (k_+1)=k_+1:=cK (by omega)
  have ht:(k_+1).toNat=k_.toNat+1:=by omega
  refine Ok.dec (fun hi=>?_) (fun hi=>Ok.inr ?_)
  · refine Ok.aw (by omega) (Ok.aw (by omega) (Ok.ob (Ok.get (by omega)) fun e he=>?_))
    rw [sX he.2] at h9
    refine Ok.dec (fun hc=>Ok.fit (by simp only [List.length_append,List.length_cons,List.length_nil]<;>omega) (Ok.inl ?_)) (fun hc=>Ok.inl ?_)
    · rw [List.filter_cons_of_pos (by simpa using hc)] at h9
      dsimp only
      rw [hw,ht,List.append_assoc]
      exact ⟨⟨rfl,rfl,rfl,rfl,rfl,rfl,by omega,by omega,h9,by simp only [List.length_append,List.length_cons,List.length_nil]<;>omega⟩,by omega⟩
    · rw [List.filter_cons_of_neg (by simpa using hc)] at h9
      dsimp only
      rw [hw,ht]
      exact ⟨⟨rfl,rfl,rfl,rfl,rfl,rfl,by omega,by omega,h9,by omega⟩,by omega⟩
  · rw [List.drop_eq_nil_of_le (by omega)] at h9
    rw [← h9]
    simp
theorem aHi (l:List Range)(n:Int)(hv:SR l):Ok (u5 l n) (fun y=>y.2=true→SR y.1):=by
  have hll:=hv.len
  unfold u5
  refine Ok.ob (Rn l n (by omega)) fun b _=>Ok.cond (fun _=>Ok.ret (by simp)) fun _=>?_
  refine Ok.ob (P:=SR) ?_ fun y hy=>by rw [yR y (by have:=hy.len;omega),bH];exact Ok.ret fun _=>hy
  refine Ok.iter (fun xx=>xx.2.2.1=l∧xx.1=n∧xx.2.2.2.1=(l.length:Int)∧0≤xx.2.2.2.2∧xx.2.2.2.2≤(l.length:Int)∧AP xx.2.1 l xx.2.2.2.2.toNat) (fun xx=>((l.length:Int) - xx.2.2.2.2).toNat) ?_ _ _ ⟨rfl,rfl,rfl,by dsimp only;omega,by dsimp only;omega,.nil⟩ (by dsimp only;omega)
  rintro ⟨n_,a_,l_,m_,k_⟩ ⟨h1,h2,h3,h4,h5,h6⟩
  dsimp only at h1 h2 h3 h4 h5 h6
  subst h1;subst h2;subst h3
  unfold vC JQ
  dsimp only
  have hw:aF (k_+1)=k_+1:=cK (by omega)
  have ht:(k_+1).toNat=k_.toNat+1:=by omega
  have hL:=h6.sr.len
  refine Ok.dec (fun hi=>?_) (fun hi=>Ok.inr h6.sr)
  refine Ok.aw (by omega) (Ok.ob (Ok.get (by omega)) fun e he=>?_)
  obtain ⟨e1,e2,e3⟩:=hv.1 e he.1
  refine Ok.cond (fun hc=>?_) (fun hc=>?_)
  · have hin:e.from_≤n_∧n_ < e.bt:=by
      by_cases h:n_≥e.from_
      · rw [decide_eq_true h] at hc;exact ⟨h,of_decide_eq_true hc⟩
      · rw [decide_eq_false h] at hc;cases hc
    have hwn:aF (n_+1)=n_+1:=cK (by omega)
    rw [QU _ _ _ _ _ [Range.mk e.from_ n_,Range.mk (aF (n_+1)) e.bt] (by omega) (by simp),bH]
    refine Ok.inl ?_
    dsimp only
    rw [hw,ht,hwn]
    refine ⟨⟨rfl,rfl,rfl,by omega,by omega,h6.FU hv he.2 (fun p hp=>?_) (List.Pairwise.filter _ ?_)⟩,by omega⟩
    · obtain ⟨p1,p2⟩:=List.mem_filter.1 hp
      have p2:=of_decide_eq_true p2
      rcases List.mem_cons.1 p1 with rfl | p1
      · dsimp only at *;omega
      · have:=List.mem_singleton.1 p1;subst this;dsimp only at *;omega
    · refine List.pairwise_cons.2 ⟨fun q hq=>?_,List.pairwise_singleton _ _⟩
      rw [List.mem_singleton.1 hq];unfold lq;dsimp only;omega
  · rw [QU _ _ _ _ _ [e] (by omega) (by simp),bH]
    refine Ok.inl ?_
    dsimp only
    rw [hw,ht]
    refine ⟨⟨rfl,rfl,rfl,by omega,by omega,h6.FU hv he.2 (fun p hp=>?_) (List.Pairwise.filter _ (List.pairwise_singleton _ _))⟩,by omega⟩
    obtain ⟨p1,p2⟩:=List.mem_filter.1 hp
    rw [List.mem_singleton.1 p1];omega
theorem aHQ (a b:Int):Ok (ub a b) (fun _=>True):=by
  unfold ub l7
  simp only [bH]
  repeat' first
    | refine Ok.bne (fun hc=>?_) (fun hc=>?_)
    | refine Ok.ret ?_
  all_goals trivial
theorem aMc (a b:Int)(h1:0≤a)(h2:a < b)(h3:b≤1000000):aF (IntKind.u64.wrap (aF (a+b)) / 2)=(a+b) / 2:=by
  rw [cK (n:=a+b) (by omega),show IntKind.u64.wrap (a+b)=a+b from by unfold IntKind.wrap;simp [IntKind.bits,IntKind.signed];omega,cK (by omega)]
theorem VS (l:List Int)(n:Int)(hl:l.length≤1000000):Ok (qw l n) (fun y=>0≤y.1∧y.1≤(l.length:Int)):=by
  unfold qw tj
  refine Ok.ob (P:=fun y=>y.1=l∧y.2.2.1=(l.length:Int)∧0≤y.2.2.2∧y.2.2.2≤(l.length:Int)) ?_ fun y hy=>?_
  · refine Ok.iter (fun xx=>xx.1=l∧xx.2.2.1=(l.length:Int)∧0≤xx.2.2.2.1∧xx.2.2.2.1≤xx.2.2.2.2∧xx.2.2.2.2≤(l.length:Int)) (fun xx=>(xx.2.2.2.2 - xx.2.2.2.1).toNat) ?_ _ _ ⟨rfl,rfl,by dsimp only;omega,by dsimp only;omega,by dsimp only;omega⟩ (by dsimp only;omega)
    rintro ⟨l_,a_,n_,i_,j_⟩ ⟨h1,h2,h3,h4,h5⟩
    dsimp only at h1 h2 h3 h4 h5
    subst h1;subst h2
    unfold uj KZ
    dsimp only
    refine Ok.dec (fun hi=>?_) (fun _=>Ok.inr ⟨rfl,rfl,h3,by dsimp only;omega⟩)
    rw [aMc i_ j_ h3 hi (by omega)]
    have hw:aF ((i_+j_) / 2+1)=(i_+j_) / 2+1:=cK (by omega)
    refine Ok.aw (by omega) (Ok.ob (Ok.get (by omega)) fun e _=>Ok.ob (aHQ _ _) fun r _=>Ok.inl ?_)
    dsimp only
    cases r with
    | true=>simp only [cond_true];exact ⟨⟨trivial,trivial,by omega,by omega,by omega⟩,by omega⟩
    | false=>simp only [cond_false];exact ⟨⟨trivial,trivial,by omega,by omega,by omega⟩,by omega⟩
  · obtain ⟨l',a,m,k⟩:=y
    obtain ⟨h1,h4,h2,h3⟩:=hy
    dsimp only at h1 h2 h3 h4
    subst h1;subst h4
    dsimp only
    simp only [bH]
    repeat' first
      | refine Ok.aw (by omega) ?_
      | refine Ok.ob (Ok.get (by omega)) fun e he=>?_
      | refine Ok.dec (fun hc=>?_) (fun hc=>?_)
      | refine Ok.bne (fun hc=>?_) (fun hc=>?_)
      | refine Ok.ret ?_
    all_goals exact ⟨h2,h3⟩
structure WG (b:aG) (l:aI) (b':aG) (l':aI):Prop where
  ls:b'.aP=b.aP
  bd:b'.bF=b.bF
  cn:b'.ak.length=b.ak.length
  fr:SR b'.free
  id:SR l'.ids
  sl:l'.aX.length≤l.aX.length+1
  us:l'.used=l.used
  ky:∀ s∈l'.aX,s.key.size≤1000
theorem aGx (r:Int)(t:List Range)(b:aG)(l:aI)(w:Want)(ht:SR t)(hi:SR l.ids) :
    Ok (xi r t (t.length:Int) 0 b l w) (fun y=>y.1=r∧y.2.1=b∧y.2.2.2=w∧SR y.2.2.1.ids∧y.2.2.1.aX=l.aX∧y.2.2.1.used=l.used):=by
  have htl:=ht.len
  refine Ok.iter (fun xx=>xx.1=r∧xx.2.1=t∧xx.2.2.1=(t.length:Int)∧xx.2.2.2.2.1=b∧xx.2.2.2.2.2.2=w∧0≤xx.2.2.2.1∧xx.2.2.2.1≤(t.length:Int)∧SR xx.2.2.2.2.2.1.ids∧xx.2.2.2.2.2.1.aX=l.aX∧xx.2.2.2.2.2.1.used=l.used) (fun xx=>((t.length:Int) - xx.2.2.2.1).toNat) ?_ _ _ ⟨rfl,rfl,rfl,rfl,rfl,by dsimp only;omega,by dsimp only;omega,hi,rfl,rfl⟩ (by dsimp only;omega)
  rintro ⟨r_,l_,n_,k_,b_,x_,w_⟩ ⟨h1,h2,h3,h4,h5,h6,h7,h8,h9,h10⟩
  dsimp only at h1 h2 h3 h4 h5 h6 h7 h8 h9 h10
  subst h1;subst h2;subst h3;subst h4;subst h5
  unfold uP Iq
  dsimp only
  have hw:aF (k_+1)=k_+1:=cK (by omega)
  refine Ok.dec (fun hi=>?_) (fun hi=>Ok.inr ⟨rfl,rfl,rfl,h8,h9,h10⟩)
  refine Ok.aw (by omega) (Ok.ob (Ok.get (by omega)) fun e he=>Ok.ob (SN x_.ids e h8 (ht.1 e he.1)) fun y hy=>Ok.inl ?_)
  dsimp only
  exact ⟨⟨rfl,rfl,rfl,rfl,rfl,by omega,by omega,hy,h9,h10⟩,by omega⟩
theorem aHb (b:aG)(l:aI)(w:Want)(hcn:b.ak.length≤10)(hf:SR b.free)(hi:SR l.ids)(hsl:l.aX.length≤1000)(hky:∀ s∈l.aX,s.key.size≤1000)(hw:w.key.size≤1000) :
    Ok (kq w b l) (fun y=>y.1=0→WG b l y.2.1 y.2.2):=by
  unfold kq
  refine Ok.ob (Nj b w.key (by omega)) fun r0 hr=>Ok.ob (j3 _ _ _) fun r1 _=>Ok.cond (fun _=>Ok.ret (fun h=>by cases h)) fun _=>Ok.ob (j3 _ _ _) fun r2 _=>Ok.cond (fun _=>Ok.ret (fun h=>by cases h)) fun _=>Ok.ob (j3 _ _ _) fun r3 h3=>Ok.cond (fun _=>Ok.ret (fun h=>by cases h)) fun h4=>?_
  have hids:=(h3 (by cases r3 with | true=>rfl | false=>cases h4)).2
  refine Ok.cond (fun _=>Ok.ret (fun h=>by cases h)) fun hc=>Ok.cond (fun _=>Ok.ret (fun h=>by cases h)) fun _=>?_
  have hr0:(!dk w.key dO)=true→0≤r0∧r0 < (b.ak.length:Int):=fun hk=>by
    by_cases h:r0 < 0
    · rw [decide_eq_true h,hk] at hc;cases hc
    · omega
  refine Ok.cond (fun hk=>Ok.aw (hr0 hk).1 (Ok.aw (hr0 hk).2 (Ok.ob (Ok.get (by have:=hr0 hk;omega)) fun e4 _=>Ok.dec (fun _=>Ok.ret (fun h=>by cases h)) fun _=>Ok.aw (hr0 hk).1 (Ok.aw (hr0 hk).2 (Ok.ob (Ok.get (by have:=hr0 hk;omega)) fun e5 _=>Ok.dec (fun _=>Ok.ret (fun h=>by cases h)) fun _=>?_))))) (fun hk=>?_)
  all_goals
    refine Ok.ob (aHV b.free w.ids hf (by omega)) fun y hy=>Ok.bne (fun hne=>Ok.ret (fun h=>absurd h hne)) fun hz=>?_
    obtain ⟨t1,t2⟩:=hy hz
    refine Ok.ob (aGx r0 y.1 _ l w t1 hi) fun z hz=>?_
    obtain ⟨z1,z2,z3,z4⟩:=z
    obtain ⟨q1,q2,q3,q4,q5,q6⟩:=hz
    dsimp only at q1 q2 q3 q4 q5 q6
    subst q1;subst q2;subst q3
    dsimp only
    refine Ok.cond (fun hk2=>?_) (fun _=>Ok.ret fun _=>⟨rfl,rfl,rfl,t2,q4,by dsimp only;rw [q5];omega,q6,by dsimp only;rw [q5];exact hky⟩)
    obtain ⟨i1,i2⟩:=hr0 hk2
    have hs5:z3.aX.length=l.aX.length:=by rw [q5]
    repeat' first
      | refine Ok.aw (by omega) ?_
      | refine Ok.fit (by simp only [List.length_append,List.length_cons,List.length_nil]<;>omega) ?_
      | refine Ok.ob (Ok.get (by omega)) fun e he=>?_
      | refine Ok.aw (by simp only [List.length_set]<;>omega) ?_
      | refine Ok.ob (Ok.get (by simp only [List.length_set]<;>omega)) fun e he=>?_
      | refine Ok.ret ?_
    exact fun _=>⟨rfl,rfl,by simp only [List.length_set],t2,q4,by simp only [List.length_append,List.length_cons,List.length_nil]<;>omega,q6,li (by rw [q5];exact hky) hw⟩
theorem aGy {U B:Nat}(b:aG)(v e u:Int)(w:List Want)(h:fq U B b)(hU:U≤100000)(hB:B≤1000000)(hn:b.aP.length≤900)(hw:∀ x∈w,x.key.size≤1000) :
    Ok (uM b v e u w) (fun y=>y.2.2=0→fq U B y.1∧y.1.aP.length=b.aP.length+1∧jn 0 y.2.1):=by
  have hown:=tF b (h.f hU hB)
  unfold uM
  simp only [hown,bH]
  refine Ok.ob (j3 _ _ _) fun r1 _=>Ok.cond (fun _=>Ok.ret (fun h=>by cases h)) fun _=>Ok.ob (j3 _ _ _) fun r2 _=>Ok.cond (fun _=>Ok.ret (fun h=>by cases h)) fun _=>Ok.ob (j3 _ _ _) fun r3 _=>Ok.cond (fun _=>Ok.ret (fun h=>by cases h)) fun hc=>?_
  have hwl:w.length≤5:=by
    by_cases hw:(w.length:Int) > 5
    · rw [decide_eq_true hw] at hc;revert hc;cases r3<;>exact fun h=>by cases h
    · omega
  clear hc
  have hs:Ok (BE b.aP 0 (b.aP.length:Int) 0 v) (eI (fun a=>a.2=v) (fun c=>0≤c.1)):=by
    refine Ok.iter (fun xx=>xx.1=b.aP∧xx.2.2.1=(b.aP.length:Int)∧xx.2.2.2.2=v∧0≤xx.2.2.2.1∧xx.2.2.2.1≤(b.aP.length:Int)) (fun xx=>((b.aP.length:Int) - xx.2.2.2.1).toNat) ?_ _ _ ⟨rfl,rfl,rfl,by dsimp only;omega,by dsimp only;omega⟩ (by dsimp only;omega)
    rintro ⟨l_,a_,n_,k_,v_⟩ ⟨h1,h2,h3,h4,h5⟩
    dsimp only at h1 h2 h3 h4 h5
    subst h1;subst h2;subst h3
    unfold tk Ge
    dsimp only
    refine Ok.dec (fun hi=>?_) (fun _=>Ok.fk rfl)
    have hw:aF (k_+1)=k_+1:=cK (by omega)
    repeat' first
      | refine Ok.aw (by omega) ?_
      | refine Ok.ob (Ok.get (by omega)) fun e he=>?_
      | refine Ok.dec (fun hc=>?_) (fun hc=>?_)
      | refine Ok.inl ?_
      | refine Ok.fN ?_
    · dsimp only;exact h4
    · dsimp only;exact ⟨⟨rfl,rfl,rfl,by omega,by omega⟩,by omega⟩
  refine Ok.ob hs fun y hy=>Ok.two hy (fun a ha=>?_) (fun c hc=>Ok.dec (fun _=>Ok.ret (fun h=>by cases h)) fun hn=>absurd hc hn)
  rw [ha]
  have hloop:Ok (yX w 0 w (w.length:Int) 0 b v (aG.mk [] [] [] []) (aI.mk 0 0 0 0 [] [] []) b (aI.mk v e u (-1) [] [] []))
      (eI (fun a=>a.2.2.1=v∧a.2.2.2.2.2.1.aP=b.aP∧a.2.2.2.2.2.1.bF=b.bF∧a.2.2.2.2.2.1.ak.length≤10∧SR a.2.2.2.2.2.1.free∧SR a.2.2.2.2.2.2.ids∧a.2.2.2.2.2.2.aX.length≤5∧a.2.2.2.2.2.2.used=[]∧∀ s∈a.2.2.2.2.2.2.aX,s.key.size≤1000) (fun c=>c.1≠0)):=by
    refine Ok.iter (fun xx=>xx.1=w∧xx.2.2.1=w∧xx.2.2.2.1=(w.length:Int)∧xx.2.2.2.2.2.1=b∧xx.2.2.2.2.2.2.1=v∧0≤xx.2.2.2.2.1∧xx.2.2.2.2.1≤(w.length:Int)∧xx.2.2.2.2.2.2.2.2.2.1.aP=b.aP∧xx.2.2.2.2.2.2.2.2.2.1.bF=b.bF∧xx.2.2.2.2.2.2.2.2.2.1.ak.length≤10∧SR xx.2.2.2.2.2.2.2.2.2.1.free∧SR xx.2.2.2.2.2.2.2.2.2.2.ids∧(xx.2.2.2.2.2.2.2.2.2.2.aX.length:Int)≤xx.2.2.2.2.1∧xx.2.2.2.2.2.2.2.2.2.2.used=[]∧(∀ s∈xx.2.2.2.2.2.2.2.2.2.2.aX,s.key.size≤1000)) (fun xx=>((w.length:Int) - xx.2.2.2.2.1).toNat) ?_ _ _ ⟨rfl,rfl,rfl,rfl,rfl,by dsimp only;omega,by dsimp only;omega,rfl,rfl,h.cn,h.free,Dm,by simp,rfl,by simp⟩ (by dsimp only;omega)
    rintro ⟨l_,p_,m_,n_,k_,b_,v_,c_,x_,d_,y_⟩ ⟨h1,h2,h3,h4,h5,h6,h7,h8,h9,h10,h11,h12,h13,h14,h15⟩
    dsimp only at h1 h2 h3 h4 h5 h6 h7 h8 h9 h10 h11 h12 h13 h14 h15
    subst h1;subst h2;subst h3;subst h4;subst h5
    unfold vX K7
    dsimp only
    refine Ok.dec (fun hi=>?_) (fun hi=>Ok.fk ⟨rfl,h8,h9,h10,h11,h12,by dsimp only;omega,h14,h15⟩)
    have hwk:aF (k_+1)=k_+1:=cK (by omega)
    simp only [hown,bH]
    refine Ok.aw (by omega) (Ok.ob (Ok.get (by omega)) fun x hx=>?_)
    have hs2:∀ l:List Want,l.length≤1000→Ok (EP l 0 (l.length:Int) 0 x) (eI (fun a=>a.2=x) (fun c=>0≤c.1)):=by
      intro l hl
      refine Ok.iter (fun xx=>xx.1=l∧xx.2.2.1=(l.length:Int)∧xx.2.2.2.2=x∧0≤xx.2.2.2.1∧xx.2.2.2.1≤(l.length:Int)) (fun xx=>((l.length:Int) - xx.2.2.2.1).toNat) ?_ _ _ ⟨rfl,rfl,rfl,by dsimp only;omega,by dsimp only;omega⟩ (by dsimp only;omega)
      rintro ⟨l_,a_,n_,k_,x_⟩ ⟨h1,h2,h3,h4,h5⟩
      dsimp only at h1 h2 h3 h4 h5
      subst h1;subst h2;subst h3
      unfold u9 Jr
      dsimp only
      refine Ok.dec (fun hi=>?_) (fun _=>Ok.fk rfl)
      have hw:aF (k_+1)=k_+1:=cK (by omega)
      repeat' first
        | refine Ok.aw (by omega) ?_
        | refine Ok.ob (Ok.get (by omega)) fun e he=>?_
        | refine Ok.cond (fun hc=>?_) (fun hc=>?_)
        | refine Ok.inl ?_
        | refine Ok.fN ?_
      · dsimp only;assumption
      · dsimp only;exact ⟨⟨rfl,rfl,rfl,by omega,by omega⟩,by omega⟩
    refine Ok.ob (j3 _ _ _) fun r1 _=>Ok.cond (fun _=>?_) fun _=>Ok.ob (j3 _ _ _) fun r2 _=>Ok.cond (fun _=>?_) fun _=>Ok.ob (j3 _ _ _) fun r3 _=>Ok.cond (fun _=>Ok.aw (by omega) (Ok.aw (by omega) (Ok.ob (hs2 (m_.take k_.toNat) (by simp only [List.length_take]<;>omega)) fun y hy=>Ok.two hy (fun a ha=>?_) (fun c hc=>Ok.dec (fun _=>Ok.fN (by simp)) fun hn=>absurd hc hn)))) (fun _=>?_)
    all_goals
      try rw [ha]
      refine Ok.ob (aHb d_ y_ x h10 h11 h12 (by omega) h15 (hw x hx.1)) fun y hy=>Ok.bne (fun hne=>Ok.fN hne) fun hz=>Ok.inl ?_
      obtain ⟨k1,k2,k3,k4,k5,k6,k7,k8⟩:=hy hz
      dsimp only
      exact ⟨⟨rfl,rfl,rfl,rfl,rfl,by omega,by omega,k1.trans h8,k2.trans h9,by omega,k4,k5,by omega,k7.trans h14,k8⟩,by omega⟩
  refine Ok.ob hloop fun y hy=>Ok.two hy (fun a ha=>?_) (fun c hc=>Ok.ret (fun hz=>absurd hz hc))
  obtain ⟨a1,a2,a3,a4,a5,bk,l⟩:=a
  obtain ⟨g4,g5,g6,g7,g8,g9,g10,g11,g12⟩:=ha
  dsimp only at g4 g5 g6 g7 g8 g9 g10 g11 g12
  dsimp only
  have hx:bk.aP.length≤900:=by rw [g5];exact hn
  have hloop2:Ok (yE 0 a3 a4 a5 bk l) (fun y=>0≤y.1∧y.1≤(bk.aP.length:Int)∧y.2.2.2.2.1=bk∧y.2.2.2.2.2=l):=by
    refine Ok.iter (fun xx=>0≤xx.1∧xx.1≤(bk.aP.length:Int)∧xx.2.2.2.2.1=bk∧xx.2.2.2.2.2=l) (fun xx=>((bk.aP.length:Int) - xx.1).toNat) ?_ _ _ ⟨by dsimp only;omega,by dsimp only;omega,rfl,rfl⟩ (by dsimp only;omega)
    rintro ⟨k_,v_,p_,q_,x_,l_⟩ ⟨h1,h2,h3,h4⟩
    dsimp only at h1 h2 h3 h4
    subst h3;subst h4
    unfold uR JF
    dsimp only
    refine Ok.dec (fun hi=>?_) (fun _=>Ok.inr ⟨h1,h2,rfl,rfl⟩)
    have hw:aF (k_+1)=k_+1:=cK (by omega)
    repeat' first
      | refine Ok.aw (by omega) ?_
      | refine Ok.ob (Ok.get (by omega)) fun e he=>?_
      | refine Ok.dec (fun hc=>?_) (fun hc=>?_)
      | refine Ok.inl ?_
      | refine Ok.inr ?_
    · dsimp only;exact ⟨⟨by omega,by omega,rfl,rfl⟩,by omega⟩
    · exact ⟨h1,h2,rfl,rfl⟩
  refine Ok.ob hloop2 fun z hz=>?_
  obtain ⟨k,z2,z3,z4,z5,z6⟩:=z
  obtain ⟨f1,f2,f3,f4⟩:=hz
  dsimp only at f1 f2 f3 f4
  subst f3;subst f4
  dsimp only
  have hlease:jn 0 z6:=⟨by omega,g9,by rw [g11];simp,g12⟩
  rw [n8 z6 (hlease.f (by omega)),bH,List.take_length]
  have hlen:(z5.aP.take k.toNat++[z6]++z5.aP.drop k.toNat).length=b.aP.length+1:=by
    rw [List.length_append,List.length_append,List.length_take,List.length_drop,List.length_singleton,← g5];omega
  have hbk:fq U B (aG.mk z5.ak z5.free (z5.aP.take k.toNat++[z6]++z5.aP.drop k.toNat) z5.bF):=by
    refine ⟨g7,g8,by dsimp only;omega,fun y hy=>?_,by dsimp only;rw [g6];exact h.bd⟩
    have hy:y∈z5.aP.take k.toNat++[z6]++z5.aP.drop k.toNat:=hy
    rcases List.mem_append.1 hy with hy | hy
    · rcases List.mem_append.1 hy with hy | hy
      · exact h.ls y (by rw [← g5];exact List.mem_of_mem_take hy)
      · rw [List.mem_singleton.1 hy];exact hlease.mono (Nat.zero_le _)
    · exact h.ls y (by rw [← g5];exact List.mem_of_mem_drop hy)
  rw [tF _ (hbk.f hU hB),bH]
  exact Ok.aw (by omega) (Ok.aw (by omega) (Ok.fit (by omega) (Ok.ret fun _=>⟨hbk,hlen,hlease⟩)))
theorem mem_set {α:Type}{P:α→Prop}{l:List α}{k:Nat}{x:α}(h:∀ z∈l,P z)(hx:P x):∀ z∈l.set k x,P z:=by
  intro z hz
  rcases List.mem_or_eq_of_mem_set hz with hz | hz
  · exact h z hz
  · rw [hz];exact hx
theorem aHF (l:aI)(o:Op)(h:jV l)(h2:l.used.length≤900000)(hk:∀ s∈l.aX,s.key.size≤1000) :
    Ok (uQ l o) (fun y=>y.2=0→y.1.device=l.device∧y.1.aB=l.aB∧y.1.ids=l.ids∧y.1.aX.length=l.aX.length∧y.1.used.length≤l.used.length+1∧∀ s∈y.1.aX,s.key.size≤1000):=by
  have hl:=n8 l h
  obtain ⟨f1,f2,f3⟩:=h
  unfold uQ
  simp only [hl,bH]
  refine Ok.beq (fun _=>?_) (fun _=>Ok.beq (fun _=>?_) (fun _=>Ok.ret (fun _=>⟨rfl,rfl,rfl,rfl,Nat.le_succ _,hk⟩)))
  · refine Ok.ob (P:=eI (fun _=>True) (fun c=>0≤c.1∧c.1 < (l.aX.length:Int)∧c.2.2=l.aX)) ?_ fun y hy=>Ok.two hy (fun _ _=>Ok.ret (fun h=>by cases h)) (fun c hc=>?_)
    · refine Ok.iter (fun xx=>xx.1=l.aX∧xx.2.2.1=(l.aX.length:Int)∧0≤xx.2.2.2.1∧xx.2.2.2.1≤(l.aX.length:Int)) (fun xx=>((l.aX.length:Int) - xx.2.2.2.1).toNat) ?_ _ _ ⟨rfl,rfl,by dsimp only;omega,by dsimp only;omega⟩ (by dsimp only;omega)
      rintro ⟨l_,a_,n_,k_,o_⟩ ⟨h1,h2,h3,h4⟩
      dsimp only at h1 h2 h3 h4
      subst h1;subst h2
      unfold vW Ja
      dsimp only
      refine Ok.dec (fun hi=>?_) (fun _=>Ok.fk trivial)
      have hw:aF (k_+1)=k_+1:=cK (by omega)
      repeat' first
        | refine Ok.aw (by omega) ?_
        | refine Ok.ob (Ok.get (by omega)) fun e he=>?_
        | refine Ok.cond (fun hc=>?_) (fun hc=>?_)
        | refine Ok.inl ?_
        | refine Ok.fN ?_
      · dsimp only;exact ⟨h3,hi,rfl⟩
      · dsimp only;exact ⟨⟨rfl,rfl,by omega,by omega⟩,by omega⟩
    · obtain ⟨i,o',s⟩:=c
      obtain ⟨c1,c2,c3⟩:=hc
      dsimp only at c1 c2 c3
      subst c3
      dsimp only
      have hcp:∀ (a b c d:Int) (x y:Slice),fO (aI.mk a b c d ((l.aX.set i.toNat x).set i.toNat y) l.ids l.used)=some (aI.mk a b c d ((l.aX.set i.toNat x).set i.toNat y) l.ids l.used):=fun a b c d x y=>n8 _ ⟨by simp only [List.length_set];exact f1,f2,f3⟩
      simp only [hcp,bH]
      refine Ok.dec (fun h=>absurd c1 (by omega)) fun _=>Ok.aw (by omega) (Ok.aw (by omega) (Ok.ob (Ok.get (by omega)) fun e6 _=>Ok.ob (Ok.get (by omega)) fun e7 _=>Ok.dec (fun _=>Ok.ret (fun h=>by cases h)) fun _=>Ok.ob (Ok.get (by omega)) fun e8 _=>Ok.ob (Ok.get (by omega)) fun e9 _=>Ok.dec (fun _=>Ok.ret (fun h=>by cases h)) fun _=>Ok.ob (Ok.get (by omega)) fun e12 _=>Ok.ob (Ok.get (by omega)) fun e13 he=>Ok.ob (Ok.get (by simp only [List.length_set]<;>omega)) fun e14 _=>Ok.ob (Ok.get (by simp only [List.length_set]<;>omega)) fun e15 he'=>Ok.ret ?_))
      have hp:=mem_set (P:=fun s:Slice=>s.key.size≤1000) (x:=Slice.mk e13.key e13.cO e13.cY (aF (e12.gZ+max2 o'.n 0)) e13.ir) (k:=i.toNat) hk (hk e13 he.1)
      exact fun _=>⟨rfl,rfl,rfl,by simp only [List.length_set],Nat.le_succ _,mem_set hp (hp e15 he'.1)⟩
  · refine Ok.ob (Rn _ _ f2) fun _ _=>Ok.cond (fun _=>Ok.ret (fun h=>by cases h)) fun _=>Ok.ob (VS _ _ f3) fun r hr=>Ok.cond (fun _=>Ok.ret (fun h=>by cases h)) fun _=>?_
    obtain ⟨r1,r2⟩:=hr
    have hlen:(l.used.take r.1.toNat++[o.n]++(l.used.take l.used.length).drop r.1.toNat).length=l.used.length+1:=by
      rw [List.take_length];simp only [List.length_append,List.length_cons,List.length_nil,List.length_take,List.length_drop]<;>omega
    rw [n8 (aI.mk l.device l.aB l.bC l.last l.aX l.ids (l.used.take r.1.toNat++[o.n]++(l.used.take l.used.length).drop r.1.toNat)) ⟨f1,f2,by dsimp only;omega⟩,bH]
    exact Ok.aw r1 (Ok.aw r2 (Ok.fit (by omega) (Ok.ret fun _=>⟨rfl,rfl,rfl,rfl,by dsimp only;omega,hk⟩)))
theorem Ru {U B V:Nat}(b:aG)(l:aI)(h:fq U B b)(hl:jn V l)(hUV:U≤V)(hV:V≤100000)(hB:B≤1000000) :
    Ok (re b l) (fun y=>fq V B y.1∧y.1.aP.length=b.aP.length):=by
  have hln:=h.ln
  unfold re
  rw [tF b (h.f (by omega) hB),bH,FZ b _ _ (by omega),bH,n8 l (hl.f hV)]
  refine Ok.dec (fun _=>Ok.ret ⟨h.mono hUV (Nat.le_refl _),rfl⟩) fun hneg=>?_
  obtain ⟨a1,_⟩:=EB (l:=b.aP) (v:=l.device) (e:=l.aB) (by omega)
  rw [bH]
  refine Ok.aw (by omega) (Ok.aw (by omega) (Ok.ob (Ok.get (by omega)) fun _ _=>Ok.ret ⟨⟨h.cn,h.free,by dsimp only;rw [List.length_set];exact hln,fun x hx=>?_,h.bd⟩,List.length_set⟩))
  rcases List.mem_or_eq_of_mem_set hx with hx | hx
  · exact (h.ls x hx).mono hUV
  · rw [hx];exact hl
theorem RE {U B:Nat}(b:aG)(v e:Int)(h:fq U B b)(hU:U≤10000)(hB:B≤900000) :
    Ok (qq b v e) (fun y=>fq U (B+U) y.1∧y.1.aP.length≤b.aP.length):=by
  have hln:=h.ln
  have hcn:=h.cn
  have hbd:=h.bd
  unfold qq
  rw [tF b (h.f (by omega) (by omega)),bH,FZ b _ _ (by omega),bH]
  refine Ok.dec (fun _=>Ok.ret ⟨h.mono (Nat.le_refl _) (Nat.le_add_right _ _),Nat.le_refl _⟩) fun hneg=>?_
  obtain ⟨a1,_⟩:=EB (l:=b.aP) (v:=v) (e:=e) (by omega)
  generalize jI b.aP v e=i at *
  refine Ok.aw (by omega) (Ok.aw (by omega) (Ok.ob (Ok.get (by omega)) fun l hl=>?_))
  have hls:=h.ls l hl.1
  have hsl:=hls.sl
  have hus:=hls.used
  refine Ok.ob (P:=fun y=>y.1=i∧y.2.1.free=b.free∧y.2.1.aP=b.aP∧y.2.1.bF=b.bF∧y.2.1.ak.length=b.ak.length∧y.2.2.2=l) ?_ fun z hz=>?_
  · refine Ok.iter (fun xx=>xx.1=i∧xx.2.1=l.aX∧xx.2.2.1=(l.aX.length:Int)∧0≤xx.2.2.2.1∧xx.2.2.2.1≤(l.aX.length:Int)∧xx.2.2.2.2.1.free=b.free∧xx.2.2.2.2.1.aP=b.aP∧xx.2.2.2.2.1.bF=b.bF∧xx.2.2.2.2.1.ak.length=b.ak.length∧xx.2.2.2.2.2.2=l) (fun xx=>((l.aX.length:Int) - xx.2.2.2.1).toNat) ?_ _ _ ⟨rfl,rfl,rfl,by dsimp only;omega,by dsimp only;omega,rfl,rfl,rfl,rfl,rfl⟩ (by dsimp only;omega)
    rintro ⟨i_,l_,n_,k_,b_,c_,e_⟩ ⟨h1,h2,h3,h4,h5,h6,h7,h8,h9,h10⟩
    dsimp only at h1 h2 h3 h4 h5 h6 h7 h8 h9 h10
    subst h1;subst h2;subst h3;subst h10
    unfold uv J2
    dsimp only
    refine Ok.dec (fun hi'=>?_) (fun _=>Ok.inr ⟨rfl,h6,h7,h8,h9,rfl⟩)
    have hw:aF (k_+1)=k_+1:=cK (by omega)
    refine Ok.aw (by omega) (Ok.ob (Ok.get (by omega)) fun s _=>Ok.ob (Nj b_ s.key (by omega)) fun r hr=>Ok.dec (fun hge=>?_) (fun _=>Ok.inl ?_))
    · have hr':0≤r∧r < (b_.ak.length:Int):=by omega
      clear hr
      repeat' first
        | refine Ok.aw (by omega) ?_
        | refine Ok.ob (Ok.get (by omega)) fun e he=>?_
        | refine Ok.aw (by simp only [List.length_set]<;>omega) ?_
        | refine Ok.ob (Ok.get (by simp only [List.length_set]<;>omega)) fun e he=>?_
        | refine Ok.inl ?_
      dsimp only
      exact ⟨⟨rfl,rfl,rfl,by omega,by omega,h6,h7,h8,by simp only [List.length_set];exact h9,rfl⟩,by omega⟩
    · dsimp only
      exact ⟨⟨rfl,rfl,rfl,by omega,by omega,h6,h7,h8,h9,rfl⟩,by omega⟩
  obtain ⟨z1,bz,z3,z4⟩:=z
  obtain ⟨g1,g2,g3,g4,g5,g6⟩:=hz
  dsimp only at g1 g2 g3 g4 g5 g6
  subst g1;subst g6
  dsimp only
  refine Ok.ob (P:=fun y=>y.1=z1∧SR y.2.1∧y.2.2.1.free=b.free∧y.2.2.1.aP=b.aP∧y.2.2.1.bF.length≤B+U∧y.2.2.1.ak.length=b.ak.length) ?_ fun q hq=>?_
  · refine Ok.iter (fun xx=>xx.1=z1∧SR xx.2.1∧xx.2.2.1=z4.used∧xx.2.2.2.1=(z4.used.length:Int)∧0≤xx.2.2.2.2.1∧xx.2.2.2.2.1≤(z4.used.length:Int)∧xx.2.2.2.2.2.1.free=b.free∧xx.2.2.2.2.2.1.aP=b.aP∧(xx.2.2.2.2.2.1.bF.length:Int)≤B+xx.2.2.2.2.1∧xx.2.2.2.2.2.1.ak.length=b.ak.length) (fun xx=>((z4.used.length:Int) - xx.2.2.2.2.1).toNat) ?_ _ _ ⟨rfl,hls.ids,rfl,rfl,by dsimp only;omega,by dsimp only;omega,g2,g3,by dsimp only;rw [g4];omega,g5⟩ (by dsimp only;omega)
    rintro ⟨i_,l_,m_,n_,k_,b_,c_⟩ ⟨h1,h2,h3,h4,h5,h6,h7,h8,h9,h10⟩
    dsimp only at h1 h2 h3 h4 h5 h6 h7 h8 h9 h10
    subst h1;subst h3;subst h4
    unfold uU Ii
    dsimp only
    refine Ok.dec (fun hi'=>?_) (fun _=>Ok.inr ⟨rfl,h2,h7,h8,by dsimp only;omega,h10⟩)
    have hw:aF (k_+1)=k_+1:=cK (by omega)
    refine Ok.aw (by omega) (Ok.ob (Ok.get (by omega)) fun s _=>Ok.ob (aHi l_ s h2) fun r hr=>Ok.ob (VS _ _ (by omega)) fun t ht=>?_)
    have hsr:SR (cond r.2 r.1 l_):=by
      cases hr2:r.2 with
      | true=>exact hr hr2
      | false=>exact h2
    refine Ok.cond (fun _=>?_) (fun _=>Ok.inl ?_)
    · obtain ⟨t1,t2⟩:=ht
      have hlen:(b_.bF.take t.1.toNat++[s]++(b_.bF.take b_.bF.length).drop t.1.toNat).length=b_.bF.length+1:=by
        rw [List.take_length];simp only [List.length_append,List.length_cons,List.length_nil,List.length_take,List.length_drop]<;>omega
      refine Ok.aw t1 (Ok.aw t2 (Ok.fit (by omega) (Ok.inl ?_)))
      dsimp only
      exact ⟨⟨rfl,hsr,rfl,rfl,by omega,by omega,h7,h8,by omega,h10⟩,by omega⟩
    · dsimp only
      exact ⟨⟨rfl,hsr,rfl,rfl,by omega,by omega,h7,h8,by omega,h10⟩,by omega⟩
  obtain ⟨q1,lq',bq,q4⟩:=q
  obtain ⟨e1,e2,e3,e4,e5,e6⟩:=hq
  dsimp only at e1 e2 e3 e4 e5 e6
  subst e1
  dsimp only
  have hle:=e2.len
  refine Ok.ob (P:=fun y=>y.1=q1∧SR y.2.1.free∧y.2.1.aP=b.aP∧y.2.1.bF.length≤B+U∧y.2.1.ak.length=b.ak.length) ?_ fun y hy=>?_
  · refine Ok.iter (fun xx=>xx.1=q1∧xx.2.1=lq'∧xx.2.2.1=(lq'.length:Int)∧0≤xx.2.2.2.1∧xx.2.2.2.1≤(lq'.length:Int)∧SR xx.2.2.2.2.1.free∧xx.2.2.2.2.1.aP=b.aP∧xx.2.2.2.2.1.bF.length≤B+U∧xx.2.2.2.2.1.ak.length=b.ak.length) (fun xx=>((lq'.length:Int) - xx.2.2.2.1).toNat) ?_ _ _ ⟨rfl,rfl,rfl,by dsimp only;omega,by dsimp only;omega,by dsimp only;rw [e3];exact h.free,e4,e5,e6⟩ (by dsimp only;omega)
    rintro ⟨i_,l_,n_,k_,b_,c_⟩ ⟨h1,h2,h3,h4,h5,h6,h7,h8,h9⟩
    dsimp only at h1 h2 h3 h4 h5 h6 h7 h8 h9
    subst h1;subst h2;subst h3
    unfold uO Iu
    dsimp only
    refine Ok.dec (fun hi'=>?_) (fun _=>Ok.inr ⟨rfl,h6,h7,h8,h9⟩)
    have hw:aF (k_+1)=k_+1:=cK (by omega)
    refine Ok.aw (by omega) (Ok.ob (Ok.get (by omega)) fun s hs=>Ok.ob (SN b_.free s h6 (e2.1 s hs.1)) fun t ht=>Ok.inl ?_)
    dsimp only
    exact ⟨⟨rfl,rfl,rfl,by omega,by omega,ht,h7,h8,h9⟩,by omega⟩
  obtain ⟨y1,by_,y3⟩:=y
  obtain ⟨d1,d2,d3,d4,d5⟩:=hy
  dsimp only at d1 d2 d3 d4 d5
  subst d1
  dsimp only
  have hw:aF (y1+1)=y1+1:=cK (by omega)
  have hleases:by_.aP.length=b.aP.length:=by rw [d3]
  rw [hw,List.take_length]
  have hbk:fq U (B+U) (aG.mk by_.ak by_.free (by_.aP.take y1.toNat++by_.aP.drop (y1+1).toNat) by_.bF):=by
    refine ⟨by dsimp only;omega,d2,by dsimp only;simp only [List.length_append,List.length_take,List.length_drop]<;>omega,fun x hx=>?_,d4⟩
    have hx:x∈by_.aP.take y1.toNat++by_.aP.drop (y1+1).toNat:=hx
    rcases List.mem_append.1 hx with hx | hx
    · exact h.ls x (by rw [← d3];exact List.mem_of_mem_take hx)
    · exact h.ls x (by rw [← d3];exact List.mem_of_mem_drop hx)
  rw [tF _ (hbk.f (by omega) (by omega)),bH]
  refine Ok.aw (by omega) (Ok.aw (by omega) (Ok.aw (by omega) (Ok.fit (by omega) (Ok.ret ⟨hbk,?_⟩))))
  dsimp only
  simp only [List.length_append,List.length_take,List.length_drop]<;>omega
theorem Qo (s:ByteArray)(hs:s.size≤1000):Ok (sN s) (fun _=>True):=by
  unfold sN
  refine Ok.ob (P:=eI (fun _=>True) (fun _=>True)) ?_ fun y hy=>Ok.two hy (fun _ _=>Ok.ret trivial) (fun _ _=>Ok.ret trivial)
  refine Ok.iter (fun xx=>xx.1=s∧xx.2.2.1=(s.size:Int)∧0≤xx.2.2.2∧xx.2.2.2≤(s.size:Int)) (fun xx=>((s.size:Int) - xx.2.2.2).toNat) ?_ _ _ ⟨rfl,rfl,by dsimp only;omega,by dsimp only;omega⟩ (by dsimp only;omega)
  rintro ⟨s_,b_,n_,k_⟩ ⟨h1,h2,h3,h4⟩
  dsimp only at h1 h2 h3 h4
  subst h1;subst h2
  unfold vR Jz
  dsimp only
  refine Ok.dec (fun hi=>?_) (fun _=>Ok.fk trivial)
  have hw:aF (k_+1)=k_+1:=cK (by omega)
  repeat' first
    | refine Ok.aw (by omega) ?_
    | refine Ok.dec (fun hc=>?_) (fun hc=>?_)
    | refine Ok.inl ?_
    | refine Ok.fN ?_
  all_goals first | trivial | (dsimp only;exact ⟨⟨rfl,rfl,by omega,by omega⟩,by omega⟩)
theorem aHP (l:List aL):Ok (xC l) (fun y=>y=0→l.length≤8):=by
  unfold xC
  refine Ok.dec (fun _=>Ok.ret (fun h=>by cases h)) fun hl=>?_
  refine Ok.ob (P:=eI (fun _=>True) (fun _=>True)) ?_ fun y hy=>Ok.two hy (fun _ _=>Ok.ret (fun _=>by omega)) (fun _ _=>Ok.ret (fun _=>by omega))
  refine Ok.iter (fun xx=>xx.1=l∧xx.2.2.1=(l.length:Int)∧0≤xx.2.2.2∧xx.2.2.2≤(l.length:Int)) (fun xx=>((l.length:Int) - xx.2.2.2).toNat) ?_ _ _ ⟨rfl,rfl,by dsimp only;omega,by dsimp only;omega⟩ (by dsimp only;omega)
  rintro ⟨l_,a_,n_,k_⟩ ⟨h1,h2,h3,h4⟩
  dsimp only at h1 h2 h3 h4
  subst h1;subst h2
  unfold uw Ju
  dsimp only
  refine Ok.dec (fun hi=>?_) (fun _=>Ok.fk trivial)
  have hw:aF (k_+1)=k_+1:=cK (by omega)
  have hw1:aF (k_ - 1)=k_ - 1:=cK (by omega)
  repeat' first
    | refine Ok.aw (by omega) ?_
    | refine Ok.ob (Ok.get (by omega)) fun e he=>?_
    | refine Ok.ob (aFF _ _) fun y hy=>?_
    | refine Ok.dec (fun hc=>?_) (fun hc=>?_)
    | refine Ok.inl ?_
    | refine Ok.fN ?_
  all_goals first | trivial | (dsimp only;exact ⟨⟨rfl,rfl,by omega,by omega⟩,by omega⟩)
theorem aH2 (o:Op):Ok (wv o) (fun _=>True):=by
  unfold wv
  repeat' first
    | refine Ok.ob (aHP _) fun y hy=>?_
    | refine Ok.ob (nP _ _ _) fun y hy=>?_
    | refine Ok.dec (fun hc=>?_) (fun hc=>?_)
    | refine Ok.cond (fun hc=>?_) (fun hc=>?_)
    | refine Ok.ret ?_
  all_goals trivial
theorem QG (o:Op)(hk:o.key.size≤1000)(ht:o.text.size≤1000):Ok (nY o) (fun y=>y=0→0≤o.cC∧o.cC≤2∧1≤o.al.seq∧o.al.seq≤1073741824):=by
  unfold nY
  refine Ok.ob (nP _ _ _) fun r1 _=>Ok.cond (fun _=>Ok.ret (fun h=>by cases h)) fun _=>Ok.ob (nP _ _ _) fun r2 _=>Ok.cond (fun _=>Ok.ret (fun h=>by cases h)) fun _=>Ok.ob (nP _ _ _) fun r3 h3=>Ok.cond (fun _=>Ok.ret (fun h=>by cases h)) fun c3=>Ok.ob (nP _ _ _) fun r4 h4=>Ok.cond (fun _=>Ok.ret (fun h=>by cases h)) fun c4=>?_
  have k3:=h3 (by cases r3 with | true=>rfl | false=>cases c3)
  have k4:=h4 (by cases r4 with | true=>rfl | false=>cases c4)
  repeat' first
    | refine Ok.ob (nP _ _ _) fun y hy=>?_
    | refine Ok.ob (Qo _ hk) fun y hy=>?_
    | refine Ok.ob (Qo _ ht) fun y hy=>?_
    | refine Ok.ob (aH2 _) fun y hy=>?_
    | refine Ok.cond (fun hc=>?_) (fun hc=>?_)
    | refine Ok.ret ?_
  all_goals exact fun _=>⟨k4.1,k4.2,k3.1,k3.2⟩
def m9 (o:Op):Prop:=o.dG.length≤100∧o.key.size≤1000∧o.text.size≤1000
theorem aG6 (l:List Want)(hl:l.length≤1000000):Ok (jx l) (fun y=>y.length≤30∧∀ w∈y,w.key.size≤1000):=by
  unfold jx
  refine Ok.ob (P:=fun y=>y.length≤30∧∀ w∈y,w.key.size≤1000) ?_ fun y hy=>Ok.ret hy
  refine Ok.iter (fun xx=>xx.1=l∧0≤xx.2.2∧xx.2.2≤3∧(xx.2.1.length:Int)≤xx.2.2∧xx.2.2≤(l.length:Int)∧(∀ w∈xx.2.1,w.key.size≤1000)) (fun xx=>((l.length:Int) - xx.2.2).toNat) ?_ _ _ ⟨rfl,by dsimp only;omega,by dsimp only;omega,by simp,by dsimp only;omega,by simp⟩ (by dsimp only;omega)
  rintro ⟨l_,m_,k_⟩ ⟨h1,h2,h3,h4,h5,h6⟩
  dsimp only at h1 h2 h3 h4 h5 h6
  subst h1
  unfold wT Lm
  dsimp only
  have h33:([iN,jH,dO].length:Int)=3:=rfl
  have h34:[iN,jH,dO].length=3:=rfl
  refine Ok.cond (fun hc=>?_) (fun _=>Ok.inr ⟨by omega,h6⟩)
  by_cases hi:k_ < (l_.length:Int)
  · rw [decide_eq_true hi,cond_true] at hc
    have hi3:k_ < 3:=of_decide_eq_true hc
    have hw:aF (k_+1)=k_+1:=cK (by omega)
    have hks:∀ e∈[iN,jH,dO],e.size≤1000:=by decide
    refine Ok.aw (by omega) (Ok.aw (by omega) (Ok.ob (Ok.get (by omega)) fun e he=>?_))
    have hke:=hks e he.1
    repeat' first
      | refine Ok.aw (by omega) ?_
      | refine Ok.fit (by simp only [List.length_append,List.length_cons,List.length_nil]<;>omega) ?_
      | refine Ok.ob (Ok.get (by omega)) fun e he=>?_
      | refine Ok.ob (aCr (by omega) (by omega)) fun y hy=>?_
      | refine Ok.dec (fun hc=>?_) (fun hc=>?_)
      | refine Ok.inl ?_
    all_goals (dsimp only;rw [List.length_append,List.length_singleton];exact ⟨⟨rfl,by omega,by omega,by omega,by omega,li h6 hke⟩,by omega⟩)
  · rw [decide_eq_false hi,cond_false] at hc;cases hc
theorem aHa (o:Op):Ok (yO o) m9:=by
  unfold yO
  have h33:([iN,jH,tX].length:Int)=3:=rfl
  have h34:[iN,jH,tX].length=3:=rfl
  have h43:([dO,tZ,su,sg].length:Int)=4:=rfl
  have h44:[dO,tZ,su,sg].length=4:=rfl
  refine Ok.ob (iS (by omega) (by omega)) fun r0 h0=>Ok.ob (iS (by omega) (by omega)) fun r1 h1=>Ok.ob (iS (by omega) (by omega)) fun r2 h2=>Ok.ob (iS (by omega) (by omega)) fun r3 h3=>Ok.ob (iS (by omega) (by omega)) fun r4 h4=>Ok.ob (iS (by omega) (by omega)) fun r5 h5=>Ok.ob (iS (by omega) (by omega)) fun r6 h6=>Ok.ob (iS (by omega) (by omega)) fun r7 h7=>?_
  refine Ok.aw (by omega) (Ok.aw (by omega) (Ok.ob (Ok.get (by omega)) fun e8 he8=>Ok.ob (iS (by omega) (by omega)) fun r9 h9=>Ok.aw (by omega) (Ok.aw (by omega) (Ok.ob (Ok.get (by omega)) fun e10 he10=>?_))))
  have hs8:∀ e∈[iN,jH,tX],e.size≤1000:=by decide
  have hs10:∀ e∈[dO,tZ,su,sg],e.size≤1000:=by decide
  have hk8:=hs8 e8 he8.1
  have hk10:=hs10 e10 he10.1
  refine Ok.ob (P:=fun y=>y.1.length≤8∧y.2.1.key.size≤1000∧y.2.1.text.size≤1000) ?_ fun y hy8=>?_
  · refine Ok.iter (fun x=>0≤x.2.1∧x.2.1≤8∧(x.1.length:Int)≤x.2.1∧x.2.2.1.key.size≤1000∧x.2.2.1.text.size≤1000) (fun x=>8 - x.2.1.toNat) ?_ _ _ ⟨by dsimp only;omega,by dsimp only;omega,by simp,hk8,hk10⟩ (by dsimp only;omega)
    rintro ⟨l,i,o1,o2⟩ ⟨g1,g2,g3,g4,g5⟩
    dsimp only at g1 g2 g3 g4 g5
    unfold vu MA
    dsimp only
    refine Ok.cond (fun hc=>?_) (fun _=>Ok.inr ⟨by dsimp only;omega,g4,g5⟩)
    by_cases hi:i < (o1.dG.length:Int)
    · by_cases hi8:i < 8
      · clear hc
        have hw:aF (i+1)=i+1:=cK (by omega)
        refine Ok.aw (by omega) (Ok.ob (Ok.get (by omega)) fun e0 _=>Ok.ob (iS (by omega) (by omega)) fun q1 _=>Ok.aw (by omega) (Ok.ob (Ok.get (by omega)) fun e2 _=>Ok.ob (iS (by omega) (by omega)) fun q3 _=>Ok.aw (by omega) (Ok.ob (Ok.get (by omega)) fun e4 _=>Ok.ob (iS (by omega) (by omega)) fun q5 _=>?_)))
        refine Ok.ob (P:=fun y=>y.1=l∧y.2.1=i∧0≤y.2.2.1∧y.2.2.1≤(l.length:Int)∧y.2.2.2.1=o1) ?_ fun y hy=>?_
        · refine Ok.iter (fun x=>x.1=l∧x.2.1=i∧0≤x.2.2.1∧x.2.2.1≤(l.length:Int)∧x.2.2.2.1=o1) (fun x=>l.length - x.2.2.1.toNat) ?_ _ _ ⟨rfl,rfl,by dsimp only;omega,by dsimp only;omega,rfl⟩ (by dsimp only;omega)
          rintro ⟨l',i',k,p1,p2,p3⟩ ⟨f1,f2,f3,f4,f5⟩
          dsimp only at f1 f2 f3 f4 f5
          subst f1;subst f2;subst f5
          unfold vb Jq
          dsimp only
          refine Ok.dec (fun hk=>?_) (fun _=>Ok.inr ⟨rfl,rfl,f3,f4,rfl⟩)
          have hwk:aF (k+1)=k+1:=cK (by omega)
          refine Ok.aw (by omega) (Ok.ob (Ok.get (by omega)) fun e _=>Ok.ob (aCz _ _) fun _ _=>Ok.cond (fun _=>Ok.inl ?_) (fun _=>Ok.inr ⟨rfl,rfl,f3,f4,rfl⟩))
          dsimp only
          exact ⟨⟨rfl,rfl,by omega,by omega,rfl⟩,by omega⟩
        · obtain ⟨y1,y2,k,y3,y4⟩:=y
          obtain ⟨f1,f2,f3,f4,f5⟩:=hy
          dsimp only at f1 f2 f3 f4 f5
          subst f1;subst f2;subst f5
          dsimp only
          refine Ok.dec (fun hk=>?_) (fun hk=>?_)
          · refine Ok.aw (by omega) (Ok.ob (Ok.get (by omega)) fun e _=>Ok.cond (fun _=>Ok.inl ?_) fun _=>?_)
            · dsimp only
              exact ⟨⟨by omega,by omega,by omega,g4,g5⟩,by omega⟩
            · refine Ok.aw (by omega) (Ok.aw (by omega) (Ok.fit (by simp only [List.length_take,List.nil_append]<;>omega) (Ok.fit (by simp only [List.length_append,List.length_cons,List.length_nil,List.length_take,List.nil_append]<;>omega) (Ok.aw (by omega) (Ok.aw (by omega) (Ok.aw (by omega) (Ok.fit (by simp only [List.length_append,List.length_cons,List.length_nil,List.length_take,List.length_drop,List.nil_append]<;>omega) (Ok.inl ?_))))))))
              dsimp only
              simp only [List.length_append,List.length_cons,List.length_nil,List.length_take,List.length_drop,List.nil_append]
              exact ⟨⟨by omega,by omega,by omega,g4,g5⟩,by omega⟩
          · refine Ok.aw (by omega) (Ok.aw (by omega) (Ok.fit (by simp only [List.length_take,List.nil_append]<;>omega) (Ok.fit (by simp only [List.length_append,List.length_cons,List.length_nil,List.length_take,List.nil_append]<;>omega) (Ok.aw (by omega) (Ok.aw (by omega) (Ok.aw (by omega) (Ok.fit (by simp only [List.length_append,List.length_cons,List.length_nil,List.length_take,List.length_drop,List.nil_append]<;>omega) (Ok.inl ?_))))))))
            dsimp only
            simp only [List.length_append,List.length_cons,List.length_nil,List.length_take,List.length_drop,List.nil_append]
            exact ⟨⟨by omega,by omega,by omega,g4,g5⟩,by omega⟩
      · rw [decide_eq_true hi,decide_eq_false hi8] at hc;cases hc
    · rw [decide_eq_false hi] at hc;cases hc
  · repeat' first
      | refine Ok.ob (iS (by omega) (by omega)) fun y hy=>?_
      | refine Ok.dec (fun hc=>?_) (fun hc=>?_)
      | refine Ok.ret ?_
    all_goals exact ⟨Nat.le_trans hy8.1 (by decide),hy8.2⟩
theorem aH8 (b:aG)(v:Int)(hl:b.aP.length≤1000000):Ok (sE b v) (fun r=>r < 0∨0≤r∧r < (b.aP.length:Int)∧∀ e,b.aP[r.toNat]?=some e→e.device=v):=by
  unfold sE
  have hloop:Ok (EF v 0 0 b) (eI (fun _=>True) (fun y=>0≤y.1∧y.1 < (b.aP.length:Int)∧∀ e,b.aP[y.1.toNat]?=some e→e.device=v)):=by
    refine Ok.iter (fun x=>x.1=v∧x.2.2.2=b∧0≤x.2.2.1∧x.2.2.1≤(b.aP.length:Int)) (fun x=>b.aP.length - x.2.2.1.toNat) ?_ _ _ ⟨rfl,rfl,by dsimp only;omega,by dsimp only;omega⟩ (by dsimp only;omega)
    rintro ⟨v',n,i,b'⟩ ⟨h0,h1,h2,h3⟩
    dsimp only at h0 h1 h2 h3
    subst h0;subst h1
    unfold uy JZ
    dsimp only
    refine Ok.dec (fun hi=>?_) (fun _=>Ok.fk trivial)
    have hw:aF (i+1)=i+1:=cK (by omega)
    refine Ok.aw (by omega) (Ok.ob (Ok.get (by omega)) fun e he=>Ok.beq (fun hd=>Ok.fN ⟨h2,hi,fun e' he'=>?_⟩) (fun _=>Ok.inl ?_))
    · dsimp only at he'
      rw [he.2] at he'
      cases he'
      exact hd
    · dsimp only
      exact ⟨⟨rfl,rfl,by omega,by omega⟩,by omega⟩
  exact Ok.ob hloop fun y hy=>Ok.two hy (fun _ _=>Ok.ret (.inl (by omega))) (fun _ hb=>Ok.ret (.inr hb))
theorem aGD {U B:Nat}(b:aG)(v e:Int)(h:fq U B b)(hU:U≤100000):Ok (vw b v e) (fun y=>y.2=true→∃ k:Int,sE b v=some k∧0≤k∧k < (b.aP.length:Int)∧b.aP[k.toNat]?=some y.1∧y.1∈b.aP∧y.1.device=v):=by
  unfold vw
  obtain ⟨r,hr,hr2⟩:=aH8 b v (by have:=h.ln;omega)
  rw [hr,bH]
  refine Ok.dec (fun _=>Ok.ret (by simp)) (fun hneg=>?_)
  obtain ⟨r1,r2,r3⟩:=hr2.resolve_left hneg
  refine Ok.aw r1 (Ok.ob (Ok.get (by omega)) fun l hl=>Ok.cond (fun _=>Ok.ret (by simp)) fun _=>Ok.aw r1 (Ok.ob (Ok.get (by omega)) fun l' hl'=>?_))
  obtain ⟨c1,c2,c3⟩:=(h.ls l' hl'.1).f hU
  rw [aHZ l' c1 c2 c3,bH]
  exact Ok.ret fun _=>⟨r,rfl,r1,r2,hl'.2,hl'.1,r3 l' hl'.2⟩
theorem aJ3 {U B:Nat}(d:bI)(o:Op)(n:Int)(h:fq U B d.book)(hU:U≤100000)(ho:m9 o):Ok (xh d o n) m9:=by
  unfold xh
  refine Ok.ob (aGD d.book _ _ h hU) fun y hy=>?_
  refine Ok.cond (fun _=>Ok.cond (fun _=>Ok.ret ⟨ho.1,(by decide:iN.size≤1000),ho.2.2⟩) (fun _=>Ok.ret ho)) (fun hc=>?_)
  have h2:y.2=true:=by
    cases hy2:y.2 with
    | true=>rfl
    | false=>rw [hy2] at hc;revert hc;cases (n.tmod 4 == 0)<;>exact fun h=>by cases h
  obtain ⟨k,_,_,_,_,hm,_⟩:=hy h2
  have hl:=h.ls _ hm
  refine Ok.cond (fun hc5=>?_) (fun _=>?_)
  · have h0:0 < y.1.ids.length:=by
      by_cases h0:(y.1.ids.length:Int) > 0
      · omega
      · rw [decide_eq_false h0] at hc5;revert hc5;cases (o.kind == 5)<;>exact fun h=>by cases h
    have hx:∃ r t,y.1.ids=r::t:=by
      cases hl:y.1.ids with
      | nil=>rw [hl] at h0;simp at h0
      | cons r t=>exact ⟨r,t,rfl⟩
    obtain ⟨r,t,hrt⟩:=hx
    rw [hrt]
    have hrg:RG r:=by have:=hl.ids.1 r (by rw [hrt];simp);unfold RS at this;unfold RG;omega
    have htk:(r::t).take 1=[r]:=rfl
    refine Ok.ob (Ok.get (by simp)) fun e _=>Ok.aw (by simp only [List.length_cons];omega) ?_
    rw [htk]
    refine Ok.ob (aAA r hrg) fun q hq=>Ok.ob (sM (by have:=hrg.2.1;omega) (by have:=hrg.2.2;have:=hrg.1;omega)) fun _ _=>Ok.cond (fun hc4=>?_) (fun _=>Ok.ret ho)
    have h0s:0 < y.1.aX.length:=by
      by_cases h0:(y.1.aX.length:Int) > 0
      · omega
      · rw [decide_eq_false h0] at hc4;revert hc4;cases (o.kind == 4)<;>exact fun h=>by cases h
    exact Ok.ob (Ok.get h0s) fun e he=>Ok.ret ⟨ho.1,hl.ky e he.1,ho.2.2⟩
  · refine Ok.cond (fun hc4=>?_) (fun _=>Ok.ret ho)
    have h0s:0 < y.1.aX.length:=by
      by_cases h0:(y.1.aX.length:Int) > 0
      · omega
      · rw [decide_eq_false h0] at hc4;revert hc4;cases (o.kind == 4)<;>exact fun h=>by cases h
    exact Ok.ob (Ok.get h0s) fun e he=>Ok.ret ⟨ho.1,hl.ky e he.1,ho.2.2⟩
def qR (c:bg):Prop:=c.ops.length≤30∧(∀ o∈c.ops,m9 o)∧c.cP.length≤30∧∀ w∈c.cP,w.key.size≤1000
theorem aLF {U B:Nat}(r0 r6:Int)(a:Act)(d:bI)(c1 c2:bg)(h:fq U B d.book)(hU:U≤100000)(hc:c2.ops=[])(hw:c2.cP.length≤30∧∀ w∈c2.cP,w.key.size≤1000) :
    Ok (lO r0 r6 0 a d c1 c2) (fun y=>qR y.2.2.2.2):=by
  refine Ok.iter (fun x=>x.2.2.2.2.1=d∧0≤x.2.2.1∧x.2.2.1≤6∧(x.2.2.2.2.2.2.ops.length:Int)≤x.2.2.1∧(∀ o∈x.2.2.2.2.2.2.ops,m9 o)∧x.2.2.2.2.2.2.cP.length≤30∧∀ w∈x.2.2.2.2.2.2.cP,w.key.size≤1000) (fun x=>6 - x.2.2.1.toNat) ?_ _ _ ⟨rfl,by dsimp only;omega,by dsimp only;omega,by dsimp only;rw [hc];simp,by dsimp only;rw [hc];simp,hw⟩ (by dsimp only;omega)
  rintro ⟨i1,i2,i3,a',d',e1,e2⟩ ⟨h1,h2,h3,h4,h5,h6⟩
  dsimp only at h1 h2 h3 h4 h5 h6
  subst h1
  unfold vF KA
  dsimp only
  refine Ok.cond (fun hcc=>?_) (fun _=>Ok.inr ⟨by dsimp only;omega,h5,h6⟩)
  by_cases hi:i3 < (a'.ops.length:Int)
  · by_cases hi6:i3 < 6
    · clear hcc
      have hw:aF (i3+1)=i3+1:=cK (by omega)
      refine Ok.aw (by omega) (Ok.ob (Ok.get (by omega)) fun e0 _=>Ok.ob (aHa e0) fun q hq=>Ok.ob (sM (by omega) (by omega)) fun _ _=>Ok.ob (aJ3 d' _ _ h hU hq) fun z hz=>Ok.fit (by simp only [List.length_append,List.length_cons,List.length_nil]<;>omega) (Ok.inl ?_))
      dsimp only
      refine ⟨⟨rfl,by omega,by omega,by rw [List.length_append,List.length_singleton];omega,fun o ho=>?_,h6⟩,by omega⟩
      exact li h5 hz o ho
    · rw [decide_eq_true hi,decide_eq_false hi6] at hcc;cases hcc
  · rw [decide_eq_false hi] at hcc;cases hcc
theorem aF0 {U B:Nat}(a:Act)(d:bI)(h:fq U B d.book)(hU:U≤100000)(hlog:d.log.length≤1000000)(ha:a.cP.length≤1000000):Ok (vz a d) qR:=by
  unfold vz
  repeat' first
    | refine Ok.fM (by omega) (by omega) ?_
    | refine Ok.ob (sM (by omega) (by omega)) fun y hy=>?_
    | refine Ok.ob (aG6 _ ha) fun y hy=>?_
    | refine Ok.ob (XX _ _ _ hlog) fun y hy=>?_
    | refine Ok.ob (aLF _ _ _ _ _ _ h hU rfl (by dsimp only;assumption)) fun y hy=>?_
    | refine Ok.dec (fun hc=>?_) (fun hc=>?_)
    | refine Ok.cond (fun hc=>?_) (fun hc=>?_)
    | refine Ok.ret ?_
  all_goals assumption
theorem mid (a b:Int)(h1:0≤a)(h2:a < b)(h3:b≤1000000):aF ((aF (a+b)).tdiv 2)=(a+b) / 2:=by
  rw [cK (n:=a+b) (by omega),Int.tdiv_eq_ediv_of_nonneg (by omega),cK (by omega)]
theorem aIA (l:List dE)(q:ByteArray)(hl:l.length≤1000000):Ok (ET l 0 (l.length:Int) q) (fun y=>y.1.length=l.length∧0≤y.2.1∧y.2.1≤(l.length:Int)):=by
  refine Ok.iter (fun xx=>xx.1=l∧0≤xx.2.1∧xx.2.1≤xx.2.2.1∧xx.2.2.1≤(l.length:Int)) (fun xx=>(xx.2.2.1 - xx.2.1).toNat) ?_ _ _ ⟨rfl,by dsimp only;omega,by dsimp only;omega,by dsimp only;omega⟩ (by dsimp only;omega)
  rintro ⟨l_,i_,j_,s_⟩ ⟨h1,h2,h3,h4⟩
  dsimp only at h1 h2 h3 h4
  subst h1
  unfold v7 KX
  dsimp only
  refine Ok.dec (fun hi=>?_) (fun _=>Ok.inr ⟨rfl,h2,by dsimp only;omega⟩)
  rw [mid i_ j_ h2 hi (by omega)]
  have hw:aF ((i_+j_) / 2+1)=(i_+j_) / 2+1:=cK (by omega)
  repeat' first
    | refine Ok.aw (by omega) ?_
    | refine Ok.ob (Ok.get (by omega)) fun e he=>?_
    | refine Ok.ob (oE _ _) fun y hy=>?_
    | refine Ok.inl ?_
  dsimp only
  generalize decide (_ < (0:Int))=r
  cases r with
  | true=>simp only [cond_true];exact ⟨⟨trivial,by omega,by omega,by omega⟩,by omega⟩
  | false=>simp only [cond_false];exact ⟨⟨trivial,by omega,by omega,by omega⟩,by omega⟩
theorem S8 (l:List aL)(q:aL)(hl:l.length≤1000000):Ok (yV l 0 (l.length:Int) q) (fun y=>y.1.length=l.length∧0≤y.2.1∧y.2.1≤(l.length:Int)):=by
  refine Ok.iter (fun xx=>xx.1=l∧0≤xx.2.1∧xx.2.1≤xx.2.2.1∧xx.2.2.1≤(l.length:Int)) (fun xx=>(xx.2.2.1 - xx.2.1).toNat) ?_ _ _ ⟨rfl,by dsimp only;omega,by dsimp only;omega,by dsimp only;omega⟩ (by dsimp only;omega)
  rintro ⟨l_,i_,j_,e_⟩ ⟨h1,h2,h3,h4⟩
  dsimp only at h1 h2 h3 h4
  subst h1
  unfold uY J4
  dsimp only
  refine Ok.dec (fun hi=>?_) (fun _=>Ok.inr ⟨rfl,h2,by dsimp only;omega⟩)
  rw [mid i_ j_ h2 hi (by omega)]
  have hw:aF ((i_+j_) / 2+1)=(i_+j_) / 2+1:=cK (by omega)
  repeat' first
    | refine Ok.aw (by omega) ?_
    | refine Ok.ob (Ok.get (by omega)) fun e he=>?_
    | refine Ok.ob (pC _ _) fun y hy=>?_
    | refine Ok.inl ?_
  dsimp only
  generalize decide (_ < (0:Int))=r
  cases r with
  | true=>simp only [cond_true];exact ⟨⟨trivial,by omega,by omega,by omega⟩,by omega⟩
  | false=>simp only [cond_false];exact ⟨⟨trivial,by omega,by omega,by omega⟩,by omega⟩
theorem aHm (l:List cH)(q:Op)(hl:l.length≤1000000):Ok (yG l 0 (l.length:Int) q) (fun y=>y.1.length=l.length∧0≤y.2.1∧y.2.1≤(l.length:Int)):=by
  refine Ok.iter (fun xx=>xx.1=l∧0≤xx.2.1∧xx.2.1≤xx.2.2.1∧xx.2.2.1≤(l.length:Int)) (fun xx=>(xx.2.2.1 - xx.2.1).toNat) ?_ _ _ ⟨rfl,by dsimp only;omega,by dsimp only;omega,by dsimp only;omega⟩ (by dsimp only;omega)
  rintro ⟨l_,i_,j_,o_⟩ ⟨h1,h2,h3,h4⟩
  dsimp only at h1 h2 h3 h4
  subst h1
  unfold uZ K8
  dsimp only
  refine Ok.dec (fun hi=>?_) (fun _=>Ok.inr ⟨rfl,h2,by dsimp only;omega⟩)
  rw [mid i_ j_ h2 hi (by omega)]
  have hw:aF ((i_+j_) / 2+1)=(i_+j_) / 2+1:=cK (by omega)
  repeat' first
    | refine Ok.aw (by omega) ?_
    | refine Ok.ob (Ok.get (by omega)) fun e he=>?_
    | refine Ok.ob (oE _ _) fun y hy=>?_
    | refine Ok.ob (pC _ _) fun y hy=>?_
    | refine Ok.ob (tL _ (by simp)) fun y hy=>?_
    | refine Ok.inl ?_
  dsimp only
  generalize decide (_ < (0:Int))=r
  cases r with
  | true=>simp only [cond_true];exact ⟨⟨trivial,by omega,by omega,by omega⟩,by omega⟩
  | false=>simp only [cond_false];exact ⟨⟨trivial,by omega,by omega,by omega⟩,by omega⟩
theorem aIw (l:List Sum)(q:ByteArray)(hl:l.length≤1000000):Ok (EW l 0 (l.length:Int) q) (fun y=>y.1.length=l.length∧0≤y.2.1∧y.2.1≤(l.length:Int)):=by
  refine Ok.iter (fun xx=>xx.1=l∧0≤xx.2.1∧xx.2.1≤xx.2.2.1∧xx.2.2.1≤(l.length:Int)) (fun xx=>(xx.2.2.1 - xx.2.1).toNat) ?_ _ _ ⟨rfl,by dsimp only;omega,by dsimp only;omega,by dsimp only;omega⟩ (by dsimp only;omega)
  rintro ⟨l_,i_,j_,s_⟩ ⟨h1,h2,h3,h4⟩
  dsimp only at h1 h2 h3 h4
  subst h1
  unfold vY JS
  dsimp only
  refine Ok.dec (fun hi=>?_) (fun _=>Ok.inr ⟨rfl,h2,by dsimp only;omega⟩)
  rw [mid i_ j_ h2 hi (by omega)]
  have hw:aF ((i_+j_) / 2+1)=(i_+j_) / 2+1:=cK (by omega)
  repeat' first
    | refine Ok.aw (by omega) ?_
    | refine Ok.ob (Ok.get (by omega)) fun e he=>?_
    | refine Ok.ob (oE _ _) fun y hy=>?_
    | refine Ok.inl ?_
  dsimp only
  generalize decide (_ < (0:Int))=r
  cases r with
  | true=>simp only [cond_true];exact ⟨⟨trivial,by omega,by omega,by omega⟩,by omega⟩
  | false=>simp only [cond_false];exact ⟨⟨trivial,by omega,by omega,by omega⟩,by omega⟩
theorem aMT (l:List Bind)(q:Int)(hl:l.length≤1000000):Ok (EE l 0 (l.length:Int) q) (fun y=>y.1.length=l.length∧0≤y.2.1∧y.2.1≤(l.length:Int)):=by
  refine Ok.iter (fun xx=>xx.1=l∧0≤xx.2.1∧xx.2.1≤xx.2.2.1∧xx.2.2.1≤(l.length:Int)) (fun xx=>(xx.2.2.1 - xx.2.1).toNat) ?_ _ _ ⟨rfl,by dsimp only;omega,by dsimp only;omega,by dsimp only;omega⟩ (by dsimp only;omega)
  rintro ⟨l_,i_,j_,n_⟩ ⟨h1,h2,h3,h4⟩
  dsimp only at h1 h2 h3 h4
  subst h1
  unfold uc J0
  dsimp only
  refine Ok.dec (fun hi=>?_) (fun _=>Ok.inr ⟨rfl,h2,by dsimp only;omega⟩)
  rw [mid i_ j_ h2 hi (by omega)]
  have hw:aF ((i_+j_) / 2+1)=(i_+j_) / 2+1:=cK (by omega)
  repeat' first
    | refine Ok.aw (by omega) ?_
    | refine Ok.ob (Ok.get (by omega)) fun e he=>?_
    | refine Ok.ob (tB _ _) fun y hy=>?_
    | refine Ok.inl ?_
  dsimp only
  generalize decide (_ < (0:Int))=r
  cases r with
  | true=>simp only [cond_true];exact ⟨⟨trivial,by omega,by omega,by omega⟩,by omega⟩
  | false=>simp only [cond_false];exact ⟨⟨trivial,by omega,by omega,by omega⟩,by omega⟩
theorem aJF (l:List cH)(e:aL)(hl:l.length≤1000000):Ok (sj l 0 (l.length:Int) 0 e) (eI (fun a=>a.2.2.length=l.length) (fun b=>b.2.2.length=l.length∧0≤b.1∧b.1 < (l.length:Int))):=by
  refine Ok.iter (fun xx=>xx.1=l∧xx.2.2.1=(l.length:Int)∧0≤xx.2.2.2.1∧xx.2.2.2.1≤(l.length:Int)) (fun xx=>((l.length:Int) - xx.2.2.2.1).toNat) ?_ _ _ ⟨rfl,rfl,by dsimp only;omega,by dsimp only;omega⟩ (by dsimp only;omega)
  rintro ⟨l_,a_,n_,k_,e_⟩ ⟨h1,h2,h3,h4⟩
  dsimp only at h1 h2 h3 h4
  subst h1;subst h2
  unfold uX Kc
  dsimp only
  refine Ok.dec (fun hi=>?_) (fun _=>Ok.fk rfl)
  have hw:aF (k_+1)=k_+1:=cK (by omega)
  repeat' first
    | refine Ok.aw (by omega) ?_
    | refine Ok.ob (Ok.get (by omega)) fun e he=>?_
    | refine Ok.cond (fun hc=>?_) (fun hc=>?_)
    | refine Ok.inl ?_
    | refine Ok.fN ?_
  · dsimp only;exact ⟨rfl,h3,hi⟩
  · dsimp only;exact ⟨⟨rfl,rfl,by omega,by omega⟩,by omega⟩
theorem aL1 (l:List cH)(i:Int)(e:aL)(hl:l.length≤1000000)(h0:0≤i)(h1:i < (l.length:Int)):Ok (sk l i (aF (i+1)) e) (fun y=>y.1.length=l.length∧0≤y.2.1∧y.2.1≤(l.length:Int)):=by
  rw [cK (n:=i+1) (by omega)]
  refine Ok.iter (fun xx=>xx.1.length=l.length∧0≤xx.2.1∧xx.2.1 < xx.2.2.1∧xx.2.2.1≤(l.length:Int)) (fun xx=>((l.length:Int) - xx.2.2.1).toNat) ?_ _ _ ⟨rfl,by dsimp only;omega,by dsimp only;omega,by dsimp only;omega⟩ (by dsimp only;omega)
  rintro ⟨l_,i_,k_,e_⟩ ⟨h1,h2,h3,h4⟩
  dsimp only at h1 h2 h3 h4
  unfold vL J3
  dsimp only
  refine Ok.dec (fun hi=>?_) (fun _=>Ok.inr ⟨h1,h2,by dsimp only;omega⟩)
  have hw:aF (k_+1)=k_+1:=cK (by omega)
  have hw1:aF (i_+1)=i_+1:=cK (by omega)
  repeat' first
    | refine Ok.aw (by omega) ?_
    | refine Ok.ob (Ok.get (by omega)) fun e he=>?_
    | refine Ok.cond (fun hc=>?_) (fun hc=>?_)
    | refine Ok.inl ?_
  all_goals
    dsimp only
    exact ⟨⟨by first | omega | (simp only [List.length_set];omega),by omega,by omega,by omega⟩,by omega⟩
theorem aLT (o:Op)(c c':ah)(hg:c.gone.length≤500000)(hd:o.dG.length≤100)(he:c.bY.length≤500000) :
    Ok (EX o.dG (o.dG.length:Int) 0 c c') (fun y=>y.1.v=c.v∧y.1.be=c.be∧y.1.bc=c.bc∧y.1.binds=c.binds∧y.1.bY.length≤c.bY.length∧y.1.gone.length≤c.gone.length+o.dG.length):=by
  refine Ok.iter (fun xx=>xx.1=o.dG∧xx.2.1=(o.dG.length:Int)∧0≤xx.2.2.1∧xx.2.2.1≤(o.dG.length:Int)∧xx.2.2.2.1.v=c.v∧xx.2.2.2.1.be=c.be∧xx.2.2.2.1.bc=c.bc∧xx.2.2.2.1.binds=c.binds∧xx.2.2.2.1.bY.length≤c.bY.length∧(xx.2.2.2.1.gone.length:Int)≤c.gone.length+xx.2.2.1) (fun xx=>((o.dG.length:Int) - xx.2.2.1).toNat) ?_ _ _ ⟨rfl,rfl,by dsimp only;omega,by dsimp only;omega,rfl,rfl,rfl,rfl,by dsimp only;omega,by dsimp only;omega⟩ (by dsimp only;omega)
  rintro ⟨l_,n_,k_,c_,d_⟩ ⟨h1,h2,h3,h4,h5,h6,h7,h8,h9,h10⟩
  dsimp only at h1 h2 h3 h4 h5 h6 h7 h8 h9 h10
  subst h1;subst h2
  unfold u6 Jp
  dsimp only
  refine Ok.dec (fun hi=>?_) (fun _=>Ok.inr ⟨h5,h6,h7,h8,h9,by dsimp only;omega⟩)
  have hw:aF (k_+1)=k_+1:=cK (by omega)
  refine Ok.aw (by omega) (Ok.ob (Ok.get (by omega)) fun e0 _=>Ok.ob (S8 c_.gone e0 (by omega)) fun y hy=>?_)
  obtain ⟨y1,y2,y3⟩:=hy
  repeat' first
    | refine Ok.aw (by omega) ?_
    | refine Ok.fit (by simp only [List.length_append,List.length_cons,List.length_nil,List.length_take,List.length_drop]<;>omega) ?_
    | refine Ok.ob (Ok.get (by omega)) fun e he=>?_
    | refine Ok.ob (pC _ _) fun y hy=>?_
    | refine Ok.dec (fun hc=>?_) (fun hc=>?_)
    | refine Ok.bne (fun hc=>?_) (fun hc=>?_)
  all_goals
    refine Ok.ob (aJF c_.bY e0 (by omega)) fun z hz=>Ok.two hz (fun a ha=>Ok.inl ?_) (fun b hb=>Ok.cond (fun _=>Ok.inl ?_) fun _=>Ok.ob (aL1 b.2.2 b.1 b.2.1 (by omega) (by omega) (by omega)) fun t ht=>?_)
    · dsimp only;exact ⟨⟨rfl,rfl,by omega,by omega,h5,h6,h7,h8,by omega,by first | omega | simp only [List.length_append,List.length_cons,List.length_nil,List.length_take,List.length_drop]<;>omega⟩,by omega⟩
    · dsimp only;exact ⟨⟨rfl,rfl,by omega,by omega,h5,h6,h7,h8,by omega,by first | omega | simp only [List.length_append,List.length_cons,List.length_nil,List.length_take,List.length_drop]<;>omega⟩,by omega⟩
    · obtain ⟨t1,t2,t3⟩:=ht
      rw [Int.toNat_natCast]
      refine Ok.aw (by omega) (Ok.aw (by omega) (Ok.aw (by omega) (Ok.aw (by omega) (Ok.aw (by simp only [List.length_append,List.length_take,List.length_drop,List.length_replicate];omega) (Ok.inl ?_)))))
      dsimp only
      exact ⟨⟨rfl,rfl,by omega,by omega,h5,h6,h7,h8,by simp only [List.length_append,List.length_take,List.length_drop,List.length_replicate];omega,by first | omega | simp only [List.length_append,List.length_cons,List.length_nil,List.length_take,List.length_drop]<;>omega⟩,by omega⟩
theorem qG {K:Nat}(c:ah)(h:er K c)(hK:K≤10000):Ok (eK c) (er K):=by
  rw [R0 c (h.f hK)]
  exact Ok.ret h
set_option maxHeartbeats 2000000 in
theorem aGs {K:Nat}(c:ah)(o:Op)(h:er K c)(hK:K≤4000)(ho:m9 o):Ok (vo c o) (fun y=>er (K+1) y.1):=by
  obtain ⟨o1,o2,o3⟩:=ho
  have hm:=h.mono (Nat.le_succ K)
  obtain ⟨v1,v2,v3,v4,v5,v6⟩:=h
  unfold vo
  rw [R0 c (er.f ⟨v1,v2,v3,v4,v5,v6⟩ (by omega)),bH]
  refine Ok.ob (QG o o2 o3) fun r1 _=>Ok.bne (fun _=>Ok.ret hm) fun _=>Ok.ob (aHh c.v o.al (by omega)) fun r2 hr2=>Ok.bne (fun _=>Ok.ret hm) fun _=>?_
  refine Ok.beq (fun _=>?_) fun _=>Ok.beq (fun _=>?_) fun _=>Ok.beq (fun _=>?_) fun _=>Ok.beq (fun _=>?_) fun _=>Ok.beq (fun _=>?_) fun _=>?_
  · repeat' first
      | refine Ok.aw (by omega) ?_
      | refine Ok.fit (by simp only [List.length_append,List.length_cons,List.length_nil,List.length_take,List.length_drop]<;>omega) ?_
      | refine Ok.ob (Ok.get (by omega)) fun e he=>?_
      | refine Ok.ob (aIA _ _ (by omega)) fun y hy=>?_
      | refine Ok.ob (oE _ _) fun y hy=>?_
      | refine Ok.ob (pC _ _) fun y hy=>?_
      | refine Ok.ob (qG (K:=K+1) _ (by constructor<;>dsimp only<;>(try simp only [List.length_append,List.length_cons,List.length_nil,List.length_take,List.length_drop,List.length_set])<;>omega) (by omega)) fun y hy=>?_
      | refine Ok.dec (fun hc=>?_) (fun hc=>?_)
      | refine Ok.bne (fun hc=>?_) (fun hc=>?_)
      | refine Ok.ret ?_
    all_goals assumption
  · repeat' first
      | refine Ok.aw (by omega) ?_
      | refine Ok.fit (by simp only [List.length_append,List.length_cons,List.length_nil,List.length_take,List.length_drop]<;>omega) ?_
      | refine Ok.ob (Ok.get (by omega)) fun e he=>?_
      | refine Ok.ob (S8 _ _ (by omega)) fun y hy=>?_
      | refine Ok.ob (pC _ _) fun y hy=>?_
      | refine Ok.ob (aHm _ _ (by omega)) fun y hy=>?_
      | refine Ok.ob (oE _ _) fun y hy=>?_
      | refine Ok.ob (tL _ (by simp)) fun y hy=>?_
      | refine Ok.ob (qG (K:=K+1) _ (by constructor<;>dsimp only<;>(try simp only [List.length_append,List.length_cons,List.length_nil,List.length_take,List.length_drop])<;>omega) (by omega)) fun y hy=>?_
      | refine Ok.dec (fun hc=>?_) (fun hc=>?_)
      | refine Ok.ret ?_
    all_goals assumption
  · refine Ok.ob (aLT o _ _ (by dsimp only;omega) o1 (by dsimp only;omega)) fun y hy=>?_
    obtain ⟨q1,q2,q3,q4,q5,q6⟩:=hy
    dsimp only at q1 q2 q3 q4 q5 q6
    refine Ok.ob (qG (K:=K+1) _ ⟨by rw [q1];omega,by rw [q2];omega,by omega,by omega,by rw [q3];omega,by rw [q4];omega⟩ (by omega)) fun z hz=>Ok.ret hz
  · repeat' first
      | refine Ok.aw (by omega) ?_
      | refine Ok.fit (by simp only [List.length_append,List.length_cons,List.length_nil,List.length_take,List.length_drop]<;>omega) ?_
      | refine Ok.ob (Ok.get (by omega)) fun e he=>?_
      | refine Ok.ob (aIw _ _ (by omega)) fun y hy=>?_
      | refine Ok.ob (oE _ _) fun y hy=>?_
      | refine Ok.ob (qG (K:=K+1) _ (by constructor<;>dsimp only<;>(try simp only [List.length_append,List.length_cons,List.length_nil,List.length_take,List.length_drop,List.length_set])<;>omega) (by omega)) fun y hy=>?_
      | refine Ok.dec (fun hc=>?_) (fun hc=>?_)
      | refine Ok.ret ?_
    all_goals assumption
  · repeat' first
      | refine Ok.aw (by omega) ?_
      | refine Ok.fit (by simp only [List.length_append,List.length_cons,List.length_nil,List.length_take,List.length_drop]<;>omega) ?_
      | refine Ok.ob (Ok.get (by omega)) fun e he=>?_
      | refine Ok.ob (aMT _ _ (by omega)) fun y hy=>?_
      | refine Ok.ob (tB _ _) fun y hy=>?_
      | refine Ok.ob (pC _ _) fun y hy=>?_
      | refine Ok.ob (qG (K:=K+1) _ (by constructor<;>dsimp only<;>(try simp only [List.length_append,List.length_cons,List.length_nil,List.length_take,List.length_drop,List.length_set])<;>omega) (by omega)) fun y hy=>?_
      | refine Ok.dec (fun hc=>?_) (fun hc=>?_)
      | refine Ok.bne (fun hc=>?_) (fun hc=>?_)
      | refine Ok.ret ?_
    all_goals assumption
  · exact Ok.ob (qG (K:=K+1) _ (by constructor<;>dsimp only<;>omega) (by omega)) fun z hz=>Ok.ret hz
def inc (c:bg)(l:List Op):Int:=iF (fun o:Op=>o.al.device == c.device && o.al.aB == c.aB) (fun o=>o.al.seq) l
theorem xo (c:bg)(l:List Op)(o:Op)(h1:o.al.device=c.device)(h2:o.al.aB=c.aB):inc c (l++[o])=o.al.seq:=by
  unfold inc iF
  simp [h1,h2]
def Tk (c:bg)(l:List Op)(o:Op):Prop:=nY o=some 0∧o.al.device=c.device∧o.al.aB=c.aB∧o.al.seq≤inc c l
def Kp (a b:az):Prop:=b.c=a.c∧b.d.dev=a.d.dev∧b.d.lost=a.d.lost∧b.d.now=a.d.now
section
variable {U B K N Z:Nat}
theorem aDo (c:az)(o:Op)(h:dJ U B K N Z c.d)(hU:U≤9000)(hB:B≤900000)(hK:K≤3900)(ho:m9 o) :
    Ok (mo o c) (fun y=>y.1=0→dJ (U+1) B (K+1) N Z y.2.d∧Kp c y.2∧Tk c.c y.2.d.log o∧inc c.c c.d.log≤inc c.c y.2.d.log):=by
  have hlg:=h.lg
  have one:K≤K+1:=Nat.le_succ K
  have hm:=h.mono (Nat.le_succ U) (Nat.le_refl B) one (Nat.le_refl N) (Nat.le_refl Z)
  unfold mo
  rw [mQ _ _ _ (by omega),bH]
  refine Ok.ob (yW c.d.book c.c.device c.c.aB h.bk (by omega)) fun f hf=>?_
  obtain ⟨q,e2,h2⟩:=QG o ho.2.1 ho.2.2
  rw [e2,bH]
  refine Ok.bne (fun hne=>Ok.ret (fun hz=>absurd hz hne)) fun hq=>Ok.cond (fun _=>Ok.ret (fun hz=>by cases hz)) fun hde=>?_
  subst hq
  obtain ⟨q1,q2,q3,q4⟩:=h2 rfl
  have hd:o.al.device=c.c.device:=by
    by_cases hd:o.al.device=c.c.device
    · exact hd
    · rw [bne_iff_ne.2 hd] at hde;cases hde
  have he:o.al.aB=c.c.aB:=by
    by_cases he:o.al.aB=c.c.aB
    · exact he
    · rw [bne_iff_ne.2 he] at hde;revert hde;cases (o.al.device != c.c.device)<;>exact fun h=>by cases h
  refine Ok.dec (fun hle=>Ok.ret fun _=>⟨hm,⟨rfl,rfl,rfl,rfl⟩,⟨e2,hd,he,hle⟩,Int.le_refl _⟩) fun hgt=>Ok.dec (fun _=>Ok.ret (fun hz=>by cases hz)) fun _=>Ok.cond (fun _=>Ok.ret (fun hz=>by cases hz)) fun _=>?_
  have hls:jn U f.1:=by
    cases hf2:f.2 with
    | true=>exact h.bk.ls _ (hf.2 hf2).2.2.1
    | false=>rw [hf.1 hf2];exact ⟨Nat.zero_le _,Dm,Nat.zero_le _,fun s hs=>by cases hs⟩
  have hus:=hls.used
  refine Ok.ob (aHF f.1 o (hls.f (by omega)) (by omega) hls.ky) fun z hz=>Ok.bne (fun hne=>Ok.ret (fun hz=>absurd hz hne)) fun hz0=>Ok.dec (fun _=>Ok.ret (fun hz=>by cases hz)) fun hlt=>Ok.fM q1 (by omega) ?_
  obtain ⟨z1,z2,z3,z4,z5,z6⟩:=hz hz0
  refine Ok.ob (aGs _ o (lQ h.c0 (aLI h.c1 h.c2)) (by omega) ho) fun y hy=>Ok.bne (fun hne=>Ok.ret (fun hz=>absurd hz hne)) fun _=>Ok.cond (fun _=>?_) (fun _=>?_)
  · refine Ok.ob (Ru c.d.book z.1 h.bk (V:=U+1) ⟨by rw [z4];exact hls.sl,by rw [z3];exact hls.ids,by omega,z6⟩ (Nat.le_succ U) (by omega) (by omega)) fun p hp=>Ok.fM q1 (by omega) (Ok.fit (by simp only [List.length_append,List.length_cons,List.length_nil]<;>omega) (Ok.ret fun _=>⟨⟨hp.1,by dsimp only;rw [hp.2];exact h.ln,lQ hy (h.c0.mono one),lQ hy (h.c1.mono one),lQ hy (h.c2.mono one),by dsimp only;simp only [List.length_append,List.length_cons,List.length_nil]<;>omega,li h.op ho.1,h.ls,h.dv⟩,⟨rfl,rfl,rfl,rfl⟩,⟨e2,hd,he,?_⟩,?_⟩))
    · dsimp only;rw [xo _ _ _ hd he];exact Int.le_refl _
    · dsimp only;rw [xo _ _ _ hd he];unfold inc;omega
  · refine Ok.fM q1 (by omega) (Ok.fit (by simp only [List.length_append,List.length_cons,List.length_nil]<;>omega) (Ok.ret fun _=>⟨⟨hm.bk,h.ln,lQ hy (h.c0.mono one),lQ hy (h.c1.mono one),lQ hy (h.c2.mono one),by dsimp only;simp only [List.length_append,List.length_cons,List.length_nil]<;>omega,li h.op ho.1,h.ls,h.dv⟩,⟨rfl,rfl,rfl,rfl⟩,⟨e2,hd,he,?_⟩,?_⟩))
    · dsimp only;rw [xo _ _ _ hd he];exact Int.le_refl _
    · dsimp only;rw [xo _ _ _ hd he];unfold inc;omega
theorem aCh (c:az)(o:Op)(h:dJ U B K N Z c.d)(hU:U≤9000)(ht:Tk c.c c.d.log o):mo o c=some (0,c):=by
  obtain ⟨t1,t2,t3,t4⟩:=ht
  have hlg:=h.lg
  unfold mo
  obtain ⟨f,hf,_⟩:=yW c.d.book c.c.device c.c.aB h.bk (by omega)
  have hne:∀ a b:Int,a=b→(a != b)=false:=fun a b h=>by rw [h];simp
  rw [mQ _ _ _ (by omega),bH,hf,bH,t1,bH,hne o.al.device _ t2,hne o.al.aB _ t3]
  unfold inc at t4
  rw [decide_eq_true t4]
  rfl
theorem aGe (c:az)(r:aO)(h:dJ U B K N Z c.d)(hU:U≤9000)(hc:c.c.ops.length≤100)(ht:∀ o∈c.c.ops,Tk c.c c.d.log o):tD c.c.ops (c.c.ops.length:Int) 0 c r=some (.inl (c,r)):=by
  have key:Ok (tD c.c.ops (c.c.ops.length:Int) 0 c r) (eI (fun a=>a=(c,r)) (fun _=>False)):=by
    refine Ok.iter (fun xx=>xx.1=c.c.ops∧xx.2.1=(c.c.ops.length:Int)∧xx.2.2.2.1=c∧xx.2.2.2.2=r∧0≤xx.2.2.1∧xx.2.2.1≤(c.c.ops.length:Int)) (fun xx=>((c.c.ops.length:Int) - xx.2.2.1).toNat) ?_ _ _ ⟨rfl,rfl,rfl,rfl,by dsimp only;omega,by dsimp only;omega⟩ (by dsimp only;omega)
    rintro ⟨l_,n_,k_,c_,r_⟩ ⟨h1,h2,h3,h4,h5,h6⟩
    dsimp only at h1 h2 h3 h4 h5 h6
    subst h1;subst h2;subst h3;subst h4
    unfold ri Az
    dsimp only
    refine Ok.dec (fun hi=>?_) (fun _=>Ok.fk rfl)
    have hw:aF (k_+1)=k_+1:=cK (by omega)
    refine Ok.aw (by omega) (Ok.ob (Ok.get (by omega)) fun e he=>?_)
    rw [aCh _ e h hU (ht e he.1),bH]
    refine Ok.bne (fun hne=>absurd rfl hne) fun _=>Ok.inl ?_
    dsimp only
    exact ⟨⟨rfl,rfl,rfl,rfl,by omega,by omega⟩,by omega⟩
  obtain ⟨y,h1,h2⟩:=key
  cases y with
  | inl a=>rw [h1,h2]
  | inr b=>exact h2.elim
theorem aHC (c:az)(h:dJ U B K N Z c.d)(hU:U≤8000)(hB:B≤900000)(hK:K≤3800)(hZ:Z≤900000)(hc:qR c.c)(h0:0≤c.c.device)(h6:c.c.device < 6) :
    Ok (rC c) (fun y=>eW y.1∧(y.1.err=0→dJ (U+20) B (K+20) N Z y.2.d∧y.2.c=c.c∧rC y.2=some y)):=by
  have hls:=h.ls
  have hlg:=h.lg
  obtain ⟨hc1,hc2,hc3,hc4⟩:=hc
  have bad:∀ (e n:Int) (l:aI),e≠0→∀ {P:Prop},(aO.mk e n l).err=0→P:=fun e n l he P h=>absurd h he
  unfold rC
  refine Ok.fM h0 h6 (Ok.cond (fun _=>Ok.ret ⟨cu _ _,bad 2 0 _ (by decide)⟩) fun a1=>Ok.dec (fun _=>Ok.ret ⟨cu _ _,bad 16 0 _ (by decide)⟩) fun a2=>?_)
  obtain ⟨q,e3,_⟩:=se c.d.lost c.c.device (cond (decide (c.c.device=0)) c.d.dev.a0.aB (cond (decide (c.c.device=1)) c.d.dev.a1.aB (cond (decide (c.c.device=2)) c.d.dev.a2.aB (cond (decide (c.c.device=3)) c.d.dev.a3.aB (cond (decide (c.c.device=4)) c.d.dev.a4.aB c.d.dev.a5.aB))))) (by omega)
  rw [e3,bH]
  refine Ok.cond (fun _=>Ok.ret ⟨cu _ _,bad 16 0 _ (by decide)⟩) fun a4=>Ok.dec (fun _=>Ok.ret ⟨cu _ _,bad 4 0 _ (by decide)⟩) fun a5=>?_
  subst a4
  have hloop:Ok (tD c.c.ops (c.c.ops.length:Int) 0 c (aO.mk 0 0 (aI.mk 0 0 0 0 [] [] []))) (eI (fun a=>dJ (U+20) B (K+20) N Z a.1.d∧Kp c a.1∧∀ o∈c.c.ops,Tk c.c a.1.d.log o) (fun b=>b.2.1.err≠0∧eW b.2.1)):=by
    refine Ok.iter (fun xx:List Op×Int×Int×az×aO=>xx.1=c.c.ops∧xx.2.1=(c.c.ops.length:Int)∧0≤xx.2.2.1∧xx.2.2.1≤(c.c.ops.length:Int)∧dJ (U+xx.2.2.1.toNat) B (K+xx.2.2.1.toNat) N Z xx.2.2.2.1.d∧Kp c xx.2.2.2.1∧(∀ (j:Nat) q,(j:Int) < xx.2.2.1→c.c.ops[j]?=some q→Tk c.c xx.2.2.2.1.d.log q)) (fun xx=>((c.c.ops.length:Int) - xx.2.2.1).toNat) ?_ _ _ ⟨rfl,rfl,by dsimp only;omega,by dsimp only;omega,h,⟨rfl,rfl,rfl,rfl⟩,fun j q h=>by dsimp only at h;omega⟩ (by dsimp only;omega)
    rintro ⟨l_,n_,k_,c_,r_⟩ ⟨h1,h2,h3,h4,h5,h6,h7⟩
    dsimp only at h1 h2 h3 h4 h5 h6 h7
    subst h1;subst h2
    unfold ri Az
    dsimp only
    refine Ok.dec (fun hi=>?_) (fun hi=>Ok.fk ⟨h5.mono (by omega) (Nat.le_refl _) (by omega) (Nat.le_refl _) (Nat.le_refl _),h6,fun o ho=>?_⟩)
    · have hw:aF (k_+1)=k_+1:=cK (by omega)
      have ht:(k_+1).toNat=k_.toNat+1:=by omega
      refine Ok.aw (by omega) (Ok.ob (Ok.get (by omega)) fun e he=>Ok.ob (aDo c_ e h5 (by omega) hB (by omega) (hc2 e he.1)) fun y hy=>Ok.bne (fun hne=>Ok.fN ⟨hne,cu _ _⟩) fun hz=>Ok.inl ?_)
      obtain ⟨y1,y2,y3,y4⟩:=hy hz
      obtain ⟨p1,p2,p3,p4⟩:=h6
      obtain ⟨k1,k2,k3,k4⟩:=y2
      rw [p1] at y3 y4
      dsimp only
      rw [hw,ht]
      refine ⟨⟨rfl,rfl,by omega,by omega,y1,⟨k1.trans p1,k2.trans p2,k3.trans p3,k4.trans p4⟩,fun j q hj hq=>?_⟩,by omega⟩
      by_cases hji:(j:Int) < k_
      · obtain ⟨t1,t2,t3,t4⟩:=h7 j q hji hq
        exact ⟨t1,t2,t3,by omega⟩
      · have:j=k_.toNat:=by omega
        subst this
        rw [he.2] at hq;cases hq;exact y3
    · obtain ⟨j,hj,rfl⟩:=List.getElem_of_mem ho
      exact h7 j _ (by omega) (List.getElem?_eq_getElem hj)
  refine Ok.ob hloop fun y hy=>Ok.two hy (fun a ha=>?_) (fun b hb=>Ok.ret ⟨hb.2,fun hz=>absurd hz hb.1⟩)
  obtain ⟨a,r'⟩:=a
  obtain ⟨b1,⟨k1,k2,k3,k4⟩,b3⟩:=ha
  dsimp only at b1 b3 k1 k2 k3 k4
  dsimp only
  have hla:=b1.lg
  rw [mQ _ _ _ (by omega),bH]
  refine Ok.ret ⟨cu _ _,fun _=>⟨b1,k1,?_⟩⟩
  dsimp only
  have hl2:=aGe a (aO.mk 0 0 (aI.mk 0 0 0 0 [] [] [])) b1 (by omega) (by rw [k1];omega) (by rw [k1];exact b3)
  rw [hl2,k1,k2,k3,decide_eq_true h0,decide_eq_true h6,a1,decide_eq_false a2,e3]
  simp only [bH,cond_true,cond_false,Bool.and_self]
  rw [decide_eq_false a5,cond_false]
  simp only [two]
  rw [mQ _ _ _ (by omega),bH,k1]
end
theorem lP {c:Bool}{a b:aO}(ha:eW a)(hb:eW b):eW (aO.cW c a b):=by
  cases c with
  | true=>exact ha
  | false=>exact hb
section
variable {U B K N Z:Nat} (c:az) (h:dJ U B K N Z c.d) (hU:U≤8000) (hB:B≤800000) (hN:N≤800) (hZ:Z≤800000) (h0:0≤c.c.device) (h6:c.c.device < 6)
include h hU hB hN hZ h0 h6
theorem aCR:Ok (tv c) (fun y=>eW y.1∧dJ U B K N Z y.2.d):=by
  have _:_∧_∧_∧_:=⟨hU,hB,hN,hZ⟩
  have hls:=h.ls
  have hv:=h.dv
  unfold tv
  refine Ok.fM h0 h6 (Ok.dec (fun _=>Ok.ob (se _ _ _ (by omega)) fun _ _=>Ok.cond (fun _=>Ok.ret ⟨cu _ _,h⟩) fun _=>?_) fun _=>?_)
  all_goals refine Ok.dec (fun _=>Ok.ret ⟨cu _ _,h⟩) fun _=>Ok.ret ⟨cu _ _,⟨h.bk,h.ln,h.c0,h.c1,h.c2,h.lg,h.op,h.ls,⟨hv.h0,hv.h1,hv.h2,hv.h3,hv.h4,hv.h5⟩⟩⟩
theorem aBu (hw:∀ w∈c.c.cP,w.key.size≤1000):Ok (tx c) (fun y=>eW y.1∧dJ U B K (N+1) Z y.2.d):=by
  have hls:=h.ls
  have hln:=h.ln
  have hm:dJ U B K (N+1) Z c.d:=h.mono (Nat.le_refl _) (Nat.le_refl _) (Nat.le_refl _) (Nat.le_succ _) (Nat.le_refl _)
  unfold tx
  refine Ok.fM h0 h6 (Ok.cond (fun _=>Ok.ret ⟨cu _ _,hm⟩) fun _=>Ok.dec (fun _=>Ok.ret ⟨cu _ _,hm⟩) fun _=>Ok.ob (se _ _ _ (by omega)) fun _ _=>Ok.cond (fun _=>Ok.ret ⟨cu _ _,hm⟩) fun _=>Ok.cond (fun _=>Ok.ret ⟨cu _ _,hm⟩) fun _=>Ok.ob (aGy c.d.book _ _ _ _ h.bk (by omega) (by omega) (by omega) hw) fun y hy=>Ok.bne (fun _=>Ok.ret ⟨cu _ _,hm⟩) fun hz=>?_)
  obtain ⟨k1,k2,k3⟩:=hy hz
  exact Ok.ret ⟨⟨k3.sl,k3.ids.len,Nat.le_trans k3.used (Nat.zero_le _)⟩,⟨k1,by dsimp only;omega,h.c0,h.c1,h.c2,h.lg,h.op,h.ls,h.dv⟩⟩
theorem aHY:Ok (wM c) (fun y=>eW y.1∧dJ U B K N Z y.2.d):=by
  have _:_∧_:=⟨hN,hZ⟩
  have hls:=h.ls
  have hlg:=h.lg
  unfold wM
  refine Ok.fM h0 h6 (Ok.cond (fun _=>Ok.ret ⟨cu _ _,h⟩) fun _=>Ok.dec (fun _=>Ok.ret ⟨cu _ _,h⟩) fun _=>Ok.ob (se _ _ _ (by omega)) fun _ _=>Ok.cond (fun _=>Ok.ret ⟨cu _ _,h⟩) fun _=>Ok.ob (yW c.d.book _ _ h.bk (by omega)) fun y hy=>Ok.cond (fun _=>Ok.ret ⟨cu _ _,h⟩) fun hy2=>?_)
  rw [mQ _ _ _ (by omega),bH]
  refine Ok.cond (fun _=>Ok.ret ⟨cu _ _,h⟩) fun _=>?_
  have hl:=h.bk.ls _ (hy.2 (by cases hyy:y.2 with | true=>rfl | false=>rw [hyy] at hy2;cases hy2)).2.2.1
  exact Ok.ob (Ru c.d.book _ h.bk (V:=U) ⟨hl.sl,hl.ids,hl.used,hl.ky⟩ (Nat.le_refl U) (by omega) (by omega)) fun q hq=>Ok.ret ⟨cu _ _,⟨hq.1,by dsimp only;rw [hq.2];exact h.ln,h.c0,h.c1,h.c2,h.lg,h.op,h.ls,h.dv⟩⟩
theorem aDL:Ok (uA c) (fun y=>eW y.1∧dJ U (B+U) K N Z y.2.d):=by
  have _:_∧_:=⟨hN,hZ⟩
  have hlg:=h.lg
  have hm:dJ U (B+U) K N Z c.d:=h.mono (Nat.le_refl _) (by omega) (Nat.le_refl _) (Nat.le_refl _) (Nat.le_refl _)
  unfold uA
  refine Ok.fM h0 h6 (Ok.ob (yW c.d.book _ _ h.bk (by omega)) fun y _=>Ok.cond (fun _=>Ok.ret ⟨cu _ _,hm⟩) fun _=>Ok.cond (fun _=>Ok.ret ⟨cu _ _,hm⟩) fun _=>?_)
  rw [mQ _ _ _ (by omega),bH]
  exact Ok.dec (fun _=>Ok.ret ⟨cu _ _,hm⟩) fun _=>Ok.dec (fun _=>Ok.ret ⟨cu _ _,hm⟩) fun _=>Ok.ob (RE c.d.book _ _ h.bk (by omega) (by omega)) fun z hz=>Ok.ret ⟨cu _ _,⟨hz.1,Nat.le_trans hz.2 h.ln,h.c0,h.c1,h.c2,h.lg,h.op,h.ls,h.dv⟩⟩
theorem aH3:Ok (wJ c) (fun y=>eW y.1∧dJ U (B+U) K N (Z+1) y.2.d):=by
  have _:_∧_:=⟨hN,hZ⟩
  have hlg:=h.lg
  have hls:=h.ls
  have hm:dJ U (B+U) K N (Z+1) c.d:=h.mono (Nat.le_refl _) (by omega) (Nat.le_refl _) (Nat.le_refl _) (Nat.le_succ _)
  unfold wJ
  refine Ok.fM h0 h6 (Ok.cond (fun _=>Ok.ret ⟨cu _ _,hm⟩) fun _=>Ok.ob (se _ _ _ (by omega)) fun _ _=>Ok.cond (fun _=>Ok.ret ⟨cu _ _,hm⟩) fun _=>Ok.ob (RE c.d.book _ _ h.bk (by omega) (by omega)) fun z hz=>?_)
  rw [mQ _ _ _ (by omega),bH]
  refine Ok.fit (by simp only [List.length_append,List.length_cons,List.length_nil]<;>omega) (Ok.ret ⟨cu _ _,⟨hz.1,Nat.le_trans hz.2 h.ln,h.c0,h.c1,h.c2,h.lg,h.op,?_,h.dv⟩⟩)
  dsimp only
  simp only [List.length_append,List.length_cons,List.length_nil]<;>omega
end
theorem aHX {U B K N Z:Nat}(d:bI)(c:bg)(h:dJ U B K N Z d):Ok (rj (az.mk d c)) (fun y=>eW y.1∧dJ U B K N Z y.2.d∧(y.1.err=0→rj (az.mk y.2.d c)=some y)):=by
  unfold rj
  dsimp only
  refine Ok.cond (fun _=>Ok.ret ⟨cu _ _,h,fun h=>by cases h⟩) fun hc=>Ok.ret ⟨cu _ _,⟨h.bk,h.ln,h.c0,h.c1,h.c2,h.lg,h.op,h.ls,h.dv⟩,fun _=>?_⟩
  rw [hc]
  simp only [cond_false,Option.some.injEq,Prod.mk.injEq,az.mk.injEq,bI.mk.injEq,and_true,true_and]
  unfold max2
  split<;>(try rfl)<;>(try split)<;>omega
def zB (v:dw)(k q:Int)(r:aO):Prop :=
  (k=0∧v.a0.aK=q∧v.a0.aA=r)∨(k=1∧v.a1.aK=q∧v.a1.aA=r)∨(k=2∧v.a2.aK=q∧v.a2.aA=r)∨(k=3∧v.a3.aK=q∧v.a3.aA=r)∨(k=4∧v.a4.aK=q∧v.a4.aA=r)∨(k=5∧v.a5.aK=q∧v.a5.aA=r)
theorem aHN (e:bI)(c:bg)(r:aO)(ho:dm e=some e)(hk:c.kind=1∨c.kind=2∨c.kind=4)(h1:1≤c.aK)(h2:c.aK≤1073741824)(hv:zB e.dev c.device c.aK r):iU e c=some (e,r):=by
  have hn:(cond (decide (c.aK < 1)) true (decide (c.aK > 1073741824)))=false:=by rw [decide_eq_false (by omega),decide_eq_false (by omega)];rfl
  unfold iU
  simp only [ho,bH,hn,cond_false]
  obtain ⟨k,d,ep,rq,n,w,o⟩:=c
  dsimp only at *
  rcases hk with rfl | rfl | rfl<;>rcases hv with ⟨rfl,rfl,rfl⟩ | ⟨rfl,rfl,rfl⟩ | ⟨rfl,rfl,rfl⟩ | ⟨rfl,rfl,rfl⟩ | ⟨rfl,rfl,rfl⟩ | ⟨rfl,rfl,rfl⟩<;>simp [aO.cW]<;>rfl
theorem aHc {U B K N Z:Nat}(d:bI)(c:bg)(h:dJ U B K N Z d)(hU:U≤8000)(hB:B≤800000)(hK:K≤3800)(hN:N≤800)(hZ:Z≤800000)(hc:qR c)(hd:c.kind≠7→0≤c.device∧c.device < 6)(k7:1≤c.kind∧c.kind≤7) :
    Ok (ld (az.mk d c)) (fun y=>eW y.1∧(y.1.err=0→dJ (U+20) (B+U) (K+20) (N+1) (Z+1) y.2.d)∧(c.kind=3∨c.kind=7→y.1.err=0→ld (az.mk y.2.d c)=some y)):=by
  have up:∀ {e:bI} {U' B' K' N' Z':Nat},dJ U' B' K' N' Z' e→U'≤U+20→B'≤B+U→K'≤K+20→N'≤N+1→Z'≤Z+1→dJ (U+20) (B+U) (K+20) (N+1) (Z+1) e:=fun h h1 h2 h3 h4 h5=>h.mono h1 h2 h3 h4 h5
  unfold ld
  dsimp only
  refine Ok.beq (fun k=>?_) fun _=>Ok.beq (fun k=>?_) fun _=>Ok.beq (fun k=>?_) fun _=>Ok.beq (fun k=>?_) fun _=>Ok.beq (fun k=>?_) fun _=>Ok.beq (fun k=>?_) fun _=>?_
  · exact Ok.ob (aCR (az.mk d c) h hU hB hN hZ (hd (by omega)).1 (hd (by omega)).2) fun y hy=>Ok.ret ⟨hy.1,fun _=>up hy.2 (by omega) (by omega) (by omega) (by omega) (by omega),fun h=>by omega⟩
  · exact Ok.ob (aBu (az.mk d c) h hU hB hN hZ (hd (by omega)).1 (hd (by omega)).2 hc.2.2.2) fun y hy=>Ok.ret ⟨hy.1,fun _=>up hy.2 (by omega) (by omega) (by omega) (by omega) (by omega),fun h=>by omega⟩
  · refine Ok.ob (aHC (az.mk d c) h hU (by omega) hK (by omega) hc (hd (by omega)).1 (hd (by omega)).2) fun y hy=>Ok.ret ⟨hy.1,fun h=>up (hy.2 h).1 (by omega) (by omega) (by omega) (by omega) (by omega),fun _ h=>?_⟩
    obtain ⟨y1,y2,y3⟩:=hy.2 h
    obtain ⟨r,e,c'⟩:=y
    dsimp only at y2 y3 ⊢
    subst y2
    rw [k,y3]
    rfl
  · exact Ok.ob (aHY (az.mk d c) h hU hB hN hZ (hd (by omega)).1 (hd (by omega)).2) fun y hy=>Ok.ret ⟨hy.1,fun _=>up hy.2 (by omega) (by omega) (by omega) (by omega) (by omega),fun h=>by omega⟩
  · exact Ok.ob (aDL (az.mk d c) h hU hB hN hZ (hd (by omega)).1 (hd (by omega)).2) fun y hy=>Ok.ret ⟨hy.1,fun _=>up hy.2 (by omega) (by omega) (by omega) (by omega) (by omega),fun h=>by omega⟩
  · exact Ok.ob (aH3 (az.mk d c) h hU hB hN hZ (hd (by omega)).1 (hd (by omega)).2) fun y hy=>Ok.ret ⟨hy.1,fun _=>up hy.2 (by omega) (by omega) (by omega) (by omega) (by omega),fun h=>by omega⟩
  · have k:c.kind=7:=by omega
    refine Ok.ob (aHX d c h) fun y hy=>Ok.ret ⟨hy.1,fun _=>up hy.2.1 (by omega) (by omega) (by omega) (by omega) (by omega),fun _ h=>?_⟩
    dsimp only
    rw [k,hy.2.2 h]
    rfl
def Ag (c:bg)(y:bI×aO):Prop:=iU y.1 c=some y
theorem V7 {U B K N Z:Nat}(d:bI)(c:bg)(h:dJ U B K N Z d)(hU:U≤8000)(hB:B≤800000)(hK:K≤3800)(hN:N≤800)(hZ:Z≤800000)(hc:qR c) :
    Ok (iU d c) (fun y=>dJ (U+20) (B+U) (K+20) (N+1) (Z+1) y.1∧eW y.2∧(y.1=d∨(c.kind=5∨c.kind=6)∨((c.kind=1∨c.kind=2∨c.kind=4)∧1≤c.aK∧c.aK≤1073741824∧zB y.1.dev c.device c.aK y.2)∨Ag c y)):=by
  have hm:dJ (U+20) (B+U) (K+20) (N+1) (Z+1) d:=h.mono (by omega) (by omega) (by omega) (by omega) (by omega)
  have own:∀ e:bI,dJ (U+20) (B+U) (K+20) (N+1) (Z+1) e→dm e=some e:=fun e he=>Qw e he (by omega) (by omega) (by omega) (by omega)
  have hown:=own d hm
  unfold iU
  simp only [hown,bH]
  refine Ok.or (fun _=>Ok.ret ⟨hm,cu _ _,.inl rfl⟩) fun k1 k7=>Ok.cond (fun _=>Ok.ret ⟨hm,cu _ _,.inl rfl⟩) fun hdv=>?_
  have hd:c.kind≠7→0≤c.device∧c.device < 6:=by
    intro hk
    rw [bne_iff_ne.2 hk,cond_true] at hdv
    by_cases h0:c.device≥0
    · by_cases h6:c.device < 6
      · exact ⟨h0,h6⟩
      · rw [decide_eq_true h0,decide_eq_false h6] at hdv;cases hdv
    · rw [decide_eq_false h0] at hdv;cases hdv
  have work:=aHc d c h hU hB hK hN hZ hc hd (by omega)
  have hv:=h.dv
  have fin:∀ (e:bI) (r:aO),dJ (U+20) (B+U) (K+20) (N+1) (Z+1) e→eW r→0≤c.device→c.device < 6 →
      dJ (U+20) (B+U) (K+20) (N+1) (Z+1) (bI.mk e.book e.aM e.log (dw.mk (Device.mk e.dev.a0.aB (cond (decide (c.device=0)) c.aK e.dev.a0.aK) (aO.cW (decide (c.device=0)) r e.dev.a0.aA)) (Device.mk e.dev.a1.aB (cond (decide (c.device=1)) c.aK e.dev.a1.aK) (aO.cW (decide (c.device=1)) r e.dev.a1.aA)) (Device.mk e.dev.a2.aB (cond (decide (c.device=2)) c.aK e.dev.a2.aK) (aO.cW (decide (c.device=2)) r e.dev.a2.aA)) (Device.mk e.dev.a3.aB (cond (decide (c.device=3)) c.aK e.dev.a3.aK) (aO.cW (decide (c.device=3)) r e.dev.a3.aA)) (Device.mk e.dev.a4.aB (cond (decide (c.device=4)) c.aK e.dev.a4.aK) (aO.cW (decide (c.device=4)) r e.dev.a4.aA)) (Device.mk e.dev.a5.aB (cond (decide (c.device=5)) c.aK e.dev.a5.aK) (aO.cW (decide (c.device=5)) r e.dev.a5.aA))) e.lost e.now) ∧
      zB (dw.mk (Device.mk e.dev.a0.aB (cond (decide (c.device=0)) c.aK e.dev.a0.aK) (aO.cW (decide (c.device=0)) r e.dev.a0.aA)) (Device.mk e.dev.a1.aB (cond (decide (c.device=1)) c.aK e.dev.a1.aK) (aO.cW (decide (c.device=1)) r e.dev.a1.aA)) (Device.mk e.dev.a2.aB (cond (decide (c.device=2)) c.aK e.dev.a2.aK) (aO.cW (decide (c.device=2)) r e.dev.a2.aA)) (Device.mk e.dev.a3.aB (cond (decide (c.device=3)) c.aK e.dev.a3.aK) (aO.cW (decide (c.device=3)) r e.dev.a3.aA)) (Device.mk e.dev.a4.aB (cond (decide (c.device=4)) c.aK e.dev.a4.aK) (aO.cW (decide (c.device=4)) r e.dev.a4.aA)) (Device.mk e.dev.a5.aB (cond (decide (c.device=5)) c.aK e.dev.a5.aK) (aO.cW (decide (c.device=5)) r e.dev.a5.aA))) c.device c.aK r:=by
    intro e r he hr h0 h6
    refine ⟨⟨he.bk,he.ln,he.c0,he.c1,he.c2,he.lg,he.op,he.ls,⟨lP hr he.dv.h0,lP hr he.dv.h1,lP hr he.dv.h2,lP hr he.dv.h3,lP hr he.dv.h4,lP hr he.dv.h5⟩⟩,?_⟩
    have:c.device=0∨c.device=1∨c.device=2∨c.device=3∨c.device=4∨c.device=5:=by omega
    unfold zB
    rcases this with k | k | k | k | k | k<;>rw [k]
    · exact .inl ⟨rfl,rfl,rfl⟩
    · exact .inr (.inl ⟨rfl,rfl,rfl⟩)
    · exact .inr (.inr (.inl ⟨rfl,rfl,rfl⟩))
    · exact .inr (.inr (.inr (.inl ⟨rfl,rfl,rfl⟩)))
    · exact .inr (.inr (.inr (.inr (.inl ⟨rfl,rfl,rfl⟩))))
    · exact .inr (.inr (.inr (.inr (.inr ⟨rfl,rfl,rfl⟩))))
  refine Ok.beq (fun hk=>?_) fun n1=>Ok.cond (fun hk=>?_) fun hk=>?_
  · have hk3:c.kind=1∨c.kind=2∨c.kind=4:=.inl hk
    obtain ⟨h0,h6⟩:=hd (by omega)
    refine Ok.fM h0 h6 (Ok.or (fun _=>Ok.ret ⟨hm,cu _ _,.inl rfl⟩) fun r1 r2=>Ok.beq (fun _=>Ok.ret ⟨hm,lP hv.h0 ⟨pZ (P:=fun l=>List.length l≤10) hv.h1.sl hv.h2.sl hv.h3.sl hv.h4.sl hv.h5.sl,pZ (P:=fun l=>List.length l≤1000) hv.h1.id hv.h2.id hv.h3.id hv.h4.id hv.h5.id,pZ (P:=fun l=>List.length l≤1000) hv.h1.us hv.h2.us hv.h3.us hv.h4.us hv.h5.us⟩,.inl rfl⟩) fun _=>Ok.dec (fun _=>Ok.ret ⟨hm,cu _ _,.inl rfl⟩) fun _=>Ok.ob work fun y hy=>Ok.bne (fun _=>Ok.fM h0 h6 (Ok.fM h0 h6 ?_)) fun hz=>?_)
    · obtain ⟨f1,f2⟩:=fin d y.1 hm hy.1 h0 h6
      rw [gm _ hy.1.f,bH,own _ f1,bH]
      exact Ok.ret ⟨f1,hy.1,.inr (.inr (.inl ⟨hk3,by omega,by omega,f2⟩))⟩
    · have hy2:=hy.2.1 hz
      rw [own _ hy2,bH]
      obtain ⟨f1,f2⟩:=fin y.2.d y.1 hy2 hy.1 h0 h6
      rw [gm _ hy.1.f,bH,own _ f1,bH]
      exact Ok.fM h0 h6 (Ok.fM h0 h6 (Ok.ret ⟨f1,hy.1,.inr (.inr (.inl ⟨hk3,by omega,by omega,f2⟩))⟩))
  · have hk3:c.kind=1∨c.kind=2∨c.kind=4:=by
      by_cases k2:c.kind=2
      · exact .inr (.inl k2)
      · rw [beq_eq_false_iff_ne.2 k2] at hk;exact .inr (.inr (beq_iff_eq.1 hk))
    obtain ⟨h0,h6⟩:=hd (by omega)
    refine Ok.fM h0 h6 (Ok.or (fun _=>Ok.ret ⟨hm,cu _ _,.inl rfl⟩) fun r1 r2=>Ok.beq (fun _=>Ok.ret ⟨hm,lP hv.h0 ⟨pZ (P:=fun l=>List.length l≤10) hv.h1.sl hv.h2.sl hv.h3.sl hv.h4.sl hv.h5.sl,pZ (P:=fun l=>List.length l≤1000) hv.h1.id hv.h2.id hv.h3.id hv.h4.id hv.h5.id,pZ (P:=fun l=>List.length l≤1000) hv.h1.us hv.h2.us hv.h3.us hv.h4.us hv.h5.us⟩,.inl rfl⟩) fun _=>Ok.dec (fun _=>Ok.ret ⟨hm,cu _ _,.inl rfl⟩) fun _=>Ok.ob work fun y hy=>Ok.bne (fun _=>Ok.fM h0 h6 (Ok.fM h0 h6 ?_)) fun hz=>?_)
    · obtain ⟨f1,f2⟩:=fin d y.1 hm hy.1 h0 h6
      rw [gm _ hy.1.f,bH,own _ f1,bH]
      exact Ok.ret ⟨f1,hy.1,.inr (.inr (.inl ⟨hk3,by omega,by omega,f2⟩))⟩
    · have hy2:=hy.2.1 hz
      rw [own _ hy2,bH]
      obtain ⟨f1,f2⟩:=fin y.2.d y.1 hy2 hy.1 h0 h6
      rw [gm _ hy.1.f,bH,own _ f1,bH]
      exact Ok.fM h0 h6 (Ok.fM h0 h6 (Ok.ret ⟨f1,hy.1,.inr (.inr (.inl ⟨hk3,by omega,by omega,f2⟩))⟩))
  · refine Ok.ob work fun y hy=>Ok.bne (fun _=>?_) fun hz=>?_
    · rw [gm _ hy.1.f,bH]
      exact Ok.ret ⟨hm,hy.1,.inl rfl⟩
    · have hy2:=hy.2.1 hz
      rw [own _ hy2,bH,gm _ hy.1.f,bH,own _ hy2,bH]
      refine Ok.ret ⟨hy2,hy.1,?_⟩
      by_cases k5:c.kind=5∨c.kind=6
      · exact .inr (.inl k5)
      · have k3:c.kind=3∨c.kind=7:=by
          by_cases k2:c.kind=2
          · rw [k2] at hk;cases hk
          · by_cases k4:c.kind=4
            · rw [k4] at hk;cases hk
            · omega
        refine .inr (.inr (.inr ?_))
        unfold Ag iU
        dsimp only
        simp only [own _ hy2,bH]
        rw [decide_eq_false k1,decide_eq_false k7,hdv,beq_eq_false_iff_ne.2 n1,hk,hy.2.2 k3 hz]
        simp only [cond_false,bH,own _ hy2,gm _ hy.1.f]
        rw [hz]
        rfl
theorem iq (a:ByteArray):dk a a=true:=by
  unfold dk
  simp
theorem gW {X Y W:Type}{stp:X→Option (X⊕(Y⊕W))}(st:Int→X)(n:Nat)(y:Y)(hn:n≤1000000)(hs:∀ k:Nat,k < n→stp (st k)=some (.inl (st (aF ((k:Int)+1)))))(he:stp (st (n:Int))=some (.inr (.inl y))){f:Nat}(hf:n+1≤f):bm stp f (st 0)=some (.inl y):=by
  have key:∀ (m k f:Nat),k+m=n→m+1≤f→bm stp f (st (k:Int))=some (.inl y):=by
    intro m
    induction m with
    | zero =>
      intro k f hk hf
      obtain ⟨g,rfl⟩:∃ g,f=g+1:=⟨f - 1,by omega⟩
      rw [show k=n by omega]
      simp only [bm,he,bH,two]
    | succ m ih =>
      intro k f hk hf
      obtain ⟨g,rfl⟩:∃ g,f=g+1:=⟨f - 1,by omega⟩
      have:=ih (k+1) g (by omega) (by omega)
      simp only [bm,hs k (by omega),bH,two]
      rw [cK (by omega)]
      exact this
  exact key n 0 f (by omega) hf
theorem JA (l:List aL)(hl:l.length≤1000000):kj l l=some true:=by
  have h:FN l l false (l.length:Int) 0=some (.inl false):=gW (fun i=>(l,l,false,(l.length:Int),i)) l.length false hl (fun k hk=>by simp [ry,BF,hk]) (by simp [ry,BF]) (by omega)
  simp [kj,h,two]
theorem aCS (l:List dE)(hl:l.length≤1000000):xE l l=some true:=by
  have h:Dy l l false (l.length:Int) 0=some (.inl false):=gW (fun i=>(l,l,false,(l.length:Int),i)) l.length false hl (fun k hk=>by simp [rQ,Aa,hk,iq]) (by simp [rQ,Aa]) (by omega)
  simp [xE,h,two]
theorem aA6 (l:List cH)(hl:l.length≤1000000):wP l l=some true:=by
  have h:EI l l false (l.length:Int) 0=some (.inl false):=gW (fun i=>(l,l,false,(l.length:Int),i)) l.length false hl (fun k hk=>by simp [rB,Ah,hk,iq]) (by simp [rB,Ah]) (by omega)
  simp [wP,h,two]
theorem Lc (l:List aL)(hl:l.length≤1000000):sG l l=some true:=by
  have h:Dx l l false (l.length:Int) 0=some (.inl false):=gW (fun i=>(l,l,false,(l.length:Int),i)) l.length false hl (fun k hk=>by simp [rN,AU,hk]) (by simp [rN,AU]) (by omega)
  simp [sG,h,two]
theorem aDK (l:List Sum)(hl:l.length≤1000000):wz l l=some true:=by
  have h:EH l l false (l.length:Int) 0=some (.inl false):=gW (fun i=>(l,l,false,(l.length:Int),i)) l.length false hl (fun k hk=>by simp [rG,AX,hk,iq]) (by simp [rG,AX]) (by omega)
  simp [wz,h,two]
theorem Zy (l:List Bind)(hl:l.length≤1000000):wX l l=some true:=by
  have h:EO l l false (l.length:Int) 0=some (.inl false):=gW (fun i=>(l,l,false,(l.length:Int),i)) l.length false hl (fun k hk=>by simp [qy,AM,hk,iq]) (by simp [qy,AM]) (by omega)
  simp [wX,h,two]
theorem Xs (l:List bl)(hl:l.length≤1000000):uH l l=some true:=by
  have h:Dp l l false (l.length:Int) 0=some (.inl false):=gW (fun i=>(l,l,false,(l.length:Int),i)) l.length false hl (fun k hk=>by simp [rH,AV,hk,iq]) (by simp [rH,AV]) (by omega)
  simp [uH,h,two]
theorem JE (l:List Range)(hl:l.length≤1000000):nF l l=some true:=by
  have h:EV l l false (l.length:Int) 0=some (.inl false):=gW (fun i=>(l,l,false,(l.length:Int),i)) l.length false hl (fun k hk=>by simp [qu,Ak,hk]) (by simp [qu,Ak]) (by omega)
  simp [nF,h,two]
theorem L3 (l:List Int)(hl:l.length≤1000000):lj l l=some true:=by
  have h:EQ l l false (l.length:Int) 0=some (.inl false):=gW (fun i=>(l,l,false,(l.length:Int),i)) l.length false hl (fun k hk=>by simp [qz,Ap,hk]) (by simp [qz,Ap]) (by omega)
  simp [lj,h,two]
theorem Z6 (l:List Slice)(hl:l.length≤1000000):rJ l l=some true:=by
  have h:Dn l l false (l.length:Int) 0=some (.inl false):=gW (fun i=>(l,l,false,(l.length:Int),i)) l.length false hl (fun k hk=>by simp [qp,Af,hk,iq]) (by simp [qp,Af]) (by omega)
  simp [rJ,h,two]
theorem Qj (l:aI)(h:jV l):tf l l=some true:=by
  simp [tf,Z6 _ h.1,JE _ h.2.1,L3 _ h.2.2]
theorem aGR (l:aI)(h:jV l):zP l l=some true:=Qj l h
theorem aJ7 (v:Device)(h:jV v.aA.aD):th v v=some true:=by
  simp [th,aGR _ h]
theorem aNE (o:Op)(h:o.dG.length≤1000000):xy o o=some true:=by
  simp [xy,iq,Lc _ h]
theorem EC (c:ah)(h:Fh c):na c c=some true:=by
  simp [na,JA _ h.v,aCS _ h.be,aA6 _ h.bY,Lc _ h.gone,aDK _ h.bc,Zy _ h.binds]
theorem aHW (b:aG)(h:zD b):vG b b=some true:=by
  have hl:Dv b.aP false b.aP (b.aP.length:Int) 0=some (.inl false):=gW (fun i=>(b.aP,false,b.aP,(b.aP.length:Int),i)) b.aP.length false h.ln (fun k hk=>by simp [rE,AY,hk,Qj _ (h.ls _ (List.getElem_mem hk))]) (by simp [rE,AY]) (by omega)
  simp [vG,Xs _ h.cn,JE _ h.fr,L3 _ h.bd,hl,two]
theorem aH6 {U B K N Z:Nat}(d:bI)(h:dJ U B K N Z d)(hU:U≤100000)(hB:B≤1000000)(hK:K≤10000)(hZ:Z≤1000000):lW d d=some true:=by
  have hls:=h.ls
  have hlg:=h.lg
  have hv:=h.dv
  have hl:FG d.log false d.log (d.log.length:Int) 0=some (.inl false):=gW (fun i=>(d.log,false,d.log,(d.log.length:Int),i)) d.log.length false (by omega) (fun k hk=>by
    have:=h.op _ (List.getElem_mem hk)
    simp [rR,BY,hk,aNE _ (Nat.le_trans this (by decide))]) (by simp [rR,BY]) (by omega)
  have hd:yj [d.dev.a0,d.dev.a1,d.dev.a2,d.dev.a3,d.dev.a4,d.dev.a5] false [d.dev.a0,d.dev.a1,d.dev.a2,d.dev.a3,d.dev.a4,d.dev.a5] ([d.dev.a0,d.dev.a1,d.dev.a2,d.dev.a3,d.dev.a4,d.dev.a5].length:Int) 0=some (.inl false):=by
    have hm:∀ v∈[d.dev.a0,d.dev.a1,d.dev.a2,d.dev.a3,d.dev.a4,d.dev.a5],jV v.aA.aD:=by
      intro v hm
      simp at hm
      rcases hm with rfl | rfl | rfl | rfl | rfl | rfl
      · exact hv.h0.f
      · exact hv.h1.f
      · exact hv.h2.f
      · exact hv.h3.f
      · exact hv.h4.f
      · exact hv.h5.f
    have hn:[d.dev.a0,d.dev.a1,d.dev.a2,d.dev.a3,d.dev.a4,d.dev.a5].length=6:=rfl
    generalize [d.dev.a0,d.dev.a1,d.dev.a2,d.dev.a3,d.dev.a4,d.dev.a5]=v at hm hn
    exact gW (fun i=>(v,false,v,(v.length:Int),i)) v.length false (by omega) (fun k hk=>by simp [rk,B9,hk,aJ7 _ (hm _ (List.getElem_mem hk))]) (by simp [rk,B9]) (by omega)
  unfold lW
  rw [EC _ (h.c0.f hK),EC _ (h.c1.f hK),EC _ (h.c2.f hK),aHW _ (h.bk.f hU hB),hl,hd,JA _ (by omega)]
  simp [two]
theorem aH1 (l:List Range)(hl:l.length≤1000000):vM l l=some true:=by
  have h:Dk l l false 0=some (.inl false):=gW (fun i=>(l,l,false,i)) l.length false hl (fun k hk=>by simp [rD,Ae,hk]) (by simp [rD,Ae]) (by omega)
  simp [vM,h,two]
theorem aH0 (l:List Int)(hl:l.length≤1000000):ua l l=some true:=by
  have h:EN l l false 0=some (.inl false):=gW (fun i=>(l,l,false,i)) l.length false hl (fun k hk=>by simp [qt,AN,hk]) (by simp [qt,AN]) (by omega)
  simp [ua,h,two]
theorem aGq (r:aO)(h:jV r.aD):qd r r=some true:=by
  have hl:FR false 0 r.aD r.aD=some (.inl (false,r.aD,r.aD)):=gW (fun i=>(false,i,r.aD,r.aD)) r.aD.aX.length (false,r.aD,r.aD) h.1 (fun k hk=>by simp [rv,BW,hk,iq]) (by simp [rv,BW]) (by have:=h.1;omega)
  simp [qd,zO,aH1 _ h.2.1,aH0 _ h.2.2,hl,two]
theorem aFm:dJ 0 0 0 0 0 Ey:=by
  have hc:er 0 (ah.mk [] [] [] [] [] []):=⟨Nat.le_refl _,Nat.le_refl _,Nat.le_refl _,Nat.le_refl _,Nat.le_refl _,Nat.le_refl _⟩
  exact ⟨⟨by decide,⟨(fun x hx=>by rw [List.mem_singleton.1 hx];exact ⟨by decide,by decide,by decide⟩),List.pairwise_singleton _ _⟩,by decide,(fun l hl=>by cases hl),Nat.le_refl _⟩,Nat.le_refl _,hc,hc,hc,by decide,(fun o ho=>by cases ho),Nat.le_refl _,⟨cu _ _,cu _ _,cu _ _,cu _ _,cu _ _,cu _ _⟩⟩
theorem again {U B K N Z:Nat}(d:bI)(c:bg)(h:dJ U B K N Z d)(hU:U≤4000)(hB:B≤400000)(hK:K≤3000)(hN:N≤400)(hZ:Z≤400000)(hc:qR c) :
    Ok (iU d c) (fun y=>dJ (U+20) (B+U) (K+20) (N+1) (Z+1) y.1∧eW y.2∧((c.kind=5∨c.kind=6)∧Ok (iU y.1 c) (fun _=>True)∨iU y.1 c=some y)):=by
  obtain ⟨y,h1,h2,h3,h4⟩:=V7 d c h (by omega) (by omega) (by omega) (by omega) (by omega) hc
  refine ⟨y,h1,h2,h3,?_⟩
  rcases h4 with h4 | h4 | ⟨k,r1,r2,h4⟩ | h4
  · rw [h4];exact .inr h1
  · exact .inl ⟨h4,(V7 y.1 c h2 (by omega) (by omega) (by omega) (by omega) (by omega) hc).mono fun _ _=>trivial⟩
  · exact .inr (aHN y.1 c y.2 (Qw y.1 h2 (by omega) (by omega) (by omega) (by omega)) k r1 r2 h4)
  · exact .inr h4
theorem aCl (l:List Act)(hl:l.length≤9223372036854775807):Ba l=some true:=by
  obtain ⟨f,hf,hf2⟩:=aIn l hl
  unfold Ba
  rw [aC7,bH,Bool.not_true,cond_false,hf,bH]
  cases f with
  | false=>rfl
  | true =>
    obtain ⟨h60,hw⟩:=hf2 rfl
    rw [Bool.not_true,cond_false,aFt,bH]
    have key:Ok (Fg l false 0 Ey) (eI (fun _=>True) (fun _=>False)):=by
      refine Ok.iter (fun xx:List Act×Bool×Int×bI=>xx.1=l∧0≤xx.2.2.1∧xx.2.2.1≤(l.length:Int)∧dJ (20 * xx.2.2.1.toNat) (1200 * xx.2.2.1.toNat) (20 * xx.2.2.1.toNat) xx.2.2.1.toNat xx.2.2.1.toNat xx.2.2.2) (fun xx=>((l.length:Int) - xx.2.2.1).toNat) ?_ _ _ ⟨rfl,by dsimp only;omega,by dsimp only;omega,aFm⟩ (by dsimp only;omega)
      rintro ⟨l_,b_,k_,d_⟩ ⟨h1,h2,h3,h4⟩
      dsimp only at h1 h2 h3 h4
      subst h1
      unfold xe NL
      dsimp only
      refine Ok.dec (fun hi=>?_) (fun _=>Ok.fk trivial)
      have hw1:aF (k_+1)=k_+1:=cK (by omega)
      have ht:(k_+1).toNat=k_.toNat+1:=by omega
      have hlg:=h4.lg
      refine Ok.aw h2 (Ok.ob (Ok.get (by omega)) fun a ha=>Ok.ob (aF0 a d_ h4.bk (by omega) (by omega) (by have:=hw a ha.1;omega)) fun c hc=>Ok.ob (again d_ c h4 (by omega) (by omega) (by omega) (by omega) (by omega) hc) fun y hy=>?_)
      obtain ⟨y1,y2,y3⟩:=hy
      have fin:∀ _:Int,(l_=l_∧0≤aF (k_+1)∧aF (k_+1)≤(l_.length:Int)∧dJ (20 * (aF (k_+1)).toNat) (1200 * (aF (k_+1)).toNat) (20 * (aF (k_+1)).toNat) (aF (k_+1)).toNat (aF (k_+1)).toNat y.1)∧((l_.length:Int) - aF (k_+1)).toNat < ((l_.length:Int) - k_).toNat:=by
        intro _
        rw [hw1,ht]
        exact ⟨⟨rfl,by omega,by omega,y1.mono (by omega) (by omega) (by omega) (Nat.le_refl _) (Nat.le_refl _)⟩,by omega⟩
      rcases y3 with ⟨k,z,hz,_⟩ | hy3
      · rw [hz,bH]
        refine Ok.bne (fun n5=>Ok.bne (fun n6=>by omega) fun n6=>?_) fun n5=>?_
        · exact Ok.bne (fun _=>Ok.bne (fun n=>absurd n6 n) fun _=>Ok.inl (fin 0)) (fun n=>absurd n n5)
        · exact Ok.bne (fun n=>absurd n5 n) (fun _=>Ok.inl (fin 0))
      · rw [hy3]
        simp only [bH,aGq _ y2.f,aH6 y.1 y1 (by omega) (by omega) (by omega) (by omega),Bool.not_true,cond_false,beq_self_eq_true]
        repeat' first
          | refine Ok.dec (fun hc=>?_) (fun hc=>?_)
          | refine Ok.bne (fun hc=>?_) (fun hc=>?_)
          | refine Ok.inl ?_
        all_goals exact fin 0
    obtain ⟨y,h1,h2⟩:=key
    cases y with
    | inl a=>rw [h1];rfl
    | inr b=>exact h2.elim
end Go.Proofs.YtcjpeijiaojeiaaGreat
