/- That typed functions answer: how this is put together. -/
import Derived.Test.YtcjpeijiaojeiaaGreatP
namespace Go.Proofs.YtcjpeijiaojeiaaGreat
open Go Go.Ev
set_option maxRecDepth 100000
/-- it answers, and of the answer this holds -/
def Ok {α:Type}(o:Option α)(P:α→Prop):Prop:=∃ y,o=some y∧P y
/-- what is said of a step: of the next state, of the end -/
def Stp {X Y:Type}(I:X→Prop)(Q:Y→Prop):X⊕Y→Prop
  | .inl x=>I x
  | .inr y=>Q y
section
variable {α β X Y:Type}
theorem Ok.ob {o:Option α}{k:α→Option β}{P:α→Prop}{Q:β→Prop}(h:Ok o P)(hk:∀ y,P y→Ok (k y) Q):Ok (ob o k) Q:=by
  obtain ⟨y,rfl,hy⟩:=h
  exact hk y hy
theorem Ok.cond {c:Bool}{a b:Option α}{Q:α→Prop}(h1:c=true→Ok a Q)(h2:c=false→Ok b Q):Ok (cond c a b) Q:=by
  cases c with
  | true=>exact h1 rfl
  | false=>exact h2 rfl
theorem Ok.dec {p:Prop}[Decidable p]{a b:Option α}{Q:α→Prop}(h1:p→Ok a Q)(h2:¬ p→Ok b Q):Ok (_root_.cond (decide p) a b) Q :=
  .cond (fun h=>h1 (of_decide_eq_true h)) (fun h=>h2 (of_decide_eq_false h))
theorem Ok.need {p:Prop}[Decidable p]{a b:Option α}{Q:α→Prop}(h:p)(h1:Ok a Q):Ok (_root_.cond (decide p) a b) Q:=by
  rw [decide_eq_true h];exact h1
theorem Ok.need2 {p q:Prop}[Decidable p][Decidable q]{a b:Option α}{Q:α→Prop}(h:p)(h':q)(h1:Ok a Q):Ok (_root_.cond (decide p && decide q) a b) Q:=by
  rw [decide_eq_true h,decide_eq_true h'];exact h1
theorem Ok.dec2 {p q:Prop}[Decidable p][Decidable q]{a b:Option α}{Q:α→Prop}(h1:p→q→Ok a Q)(h2:Ok b Q):Ok (_root_.cond (decide p && decide q) a b) Q :=
  .cond (fun h=>by rw [Bool.and_eq_true] at h;exact h1 (of_decide_eq_true h.1) (of_decide_eq_true h.2)) (fun _=>h2)
theorem Ok.beq {x y:Int}{a b:Option α}{Q:α→Prop}(h1:x=y→Ok a Q)(h2:x≠y→Ok b Q):Ok (_root_.cond (x == y) a b) Q :=
  .cond (fun h=>h1 (beq_iff_eq.1 h)) (fun h=>h2 (beq_eq_false_iff_ne.1 h))
theorem Ok.bne {x y:Int}{a b:Option α}{Q:α→Prop}(h1:x≠y→Ok a Q)(h2:x=y→Ok b Q):Ok (_root_.cond (x != y) a b) Q :=
  .cond (fun h=>h1 (bne_iff_ne.1 h)) (fun h=>h2 (by simpa using h))
theorem Ok.or {p q:Prop}[Decidable p][Decidable q]{a b:Option α}{Q:α→Prop}(h1:p∨q→Ok a Q)(h2:¬ p→¬ q→Ok b Q):Ok (_root_.cond (_root_.cond (decide p) true (decide q)) a b) Q:=by
  by_cases hp:p
  · rw [decide_eq_true hp];exact h1 (.inl hp)
  · by_cases hq:q
    · rw [decide_eq_false hp,decide_eq_true hq];exact h1 (.inr hq)
    · rw [decide_eq_false hp,decide_eq_false hq];exact h2 hp hq
theorem Ok.fit {n:Nat}{a b:Option α}{Q:α→Prop}(h:n≤1073741824)(h1:Ok a Q):Ok (_root_.cond (fits n) a b) Q:=by
  rw [show fits n=true from decide_eq_true h];exact h1
theorem Ok.ret {y:α}{Q:α→Prop}(h:Q y):Ok (some y) Q:=⟨y,rfl,h⟩
theorem Ok.inl {x:X}{I:X→Prop}{Q:Y→Prop}(h:I x):Ok (some (.inl x)) (Stp I Q):=⟨_,rfl,h⟩
theorem Ok.inr {y:Y}{I:X→Prop}{Q:Y→Prop}(h:Q y):Ok (some (.inr y)) (Stp I Q):=⟨_,rfl,h⟩
theorem Ok.inr1 {X Y Z:Type}{y:Y}{I:X→Prop}{Q:Y→Prop}{R:Z→Prop}(h:Q y):Ok (some (.inr (.inl y))) (Stp I (Stp Q R)):=⟨_,rfl,h⟩
theorem Ok.inr2 {X Y Z:Type}{y:Z}{I:X→Prop}{Q:Y→Prop}{R:Z→Prop}(h:R y):Ok (some (.inr (.inr y))) (Stp I (Stp Q R)):=⟨_,rfl,h⟩
theorem Ok.mono {o:Option α}{P Q:α→Prop}(h:Ok o P)(hk:∀ y,P y→Q y):Ok o Q:=by
  obtain ⟨y,h1,h2⟩:=h
  exact ⟨y,h1,hk y h2⟩
theorem Ok.two {y:α⊕β}{f:α→Option X}{g:β→Option X}{P:α→Prop}{R:β→Prop}{Q:X→Prop}(hy:Stp P R y)(h1:∀ a,P a→Ok (f a) Q)(h2:∀ b,R b→Ok (g b) Q):Ok (two y f g) Q:=by
  cases y with
  | inl a=>exact h1 a hy
  | inr b=>exact h2 b hy
theorem Ok.get {l:List α}{i:Nat}(h:i < l.length):Ok l[i]? (fun e=>e∈l∧l[i]?=some e):=⟨l[i],List.getElem?_eq_getElem h,List.getElem_mem h,List.getElem?_eq_getElem h⟩
theorem Ok.iter {stp:X→Option (X⊕Y)}{Post:Y→Prop}(I:X→Prop)(m:X→Nat)(h:∀ x,I x→Ok (stp x) (Stp (fun x'=>I x'∧m x' < m x) Post)):∀ (fuel:Nat) (x:X),I x→m x < fuel→Ok (iterO stp fuel x) Post
  | 0,x,_,hf=>absurd hf (Nat.not_lt_zero _)
  | f+1,x,hi,hf=>by
    obtain ⟨r,h1,h2⟩:=h x hi
    cases r with
    | inl x' =>
      obtain ⟨y,h3,h4⟩:=Ok.iter I m h f x' h2.1 (by have:=h2.2;omega)
      exact ⟨y,by simp only [iterO,h1,ob_some,Go.Ev.two];exact h3,h4⟩
    | inr y=>exact ⟨y,by simp only [iterO,h1,ob_some,Go.Ev.two],h2⟩
end
theorem w64_ok {n:Int}(h : -9223372036854775808≤n∧n < 9223372036854775808):w64 n=n:=w64_id h.1 h.2
theorem t_within {a n:Int}(hn:0 < n)(hm:n < 4611686018427387904):Ok (within a n) (fun r=>0≤r∧r < n∧r=a % n) :=
  ⟨_,within_eq hn hm,Int.emod_nonneg a (by omega),Int.emod_lt_of_pos a hn,rfl⟩
theorem t_within12 {a n:Int}(hn:0 < n)(hm:n < 4611686018427387904):Ok (l12_within a n) (fun r=>0≤r∧r < n∧r=a % n):=t_within hn hm
theorem t_within9 {a n:Int}(hn:0 < n)(hm:n < 4611686018427387904):Ok (l9_within a n) (fun r=>0≤r∧r < n∧r=a % n):=t_within hn hm
end Go.Proofs.YtcjpeijiaojeiaaGreat
