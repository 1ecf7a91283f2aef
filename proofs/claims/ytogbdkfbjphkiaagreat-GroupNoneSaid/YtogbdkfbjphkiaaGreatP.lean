/- A raw command is looked at: the look always answers. -/
import Derived.Test.YtogbdkfbjphkiaaGreatF
namespace Go.Proofs.YtogbdkfbjphkiaaGreat
open Go Go.Ev
theorem iter_or {X Y:Type}{stp:X→Option (X⊕Y)}{Inv:Nat→X→Prop}{Post:Y→Prop}
    (hs:∀ n x,Inv n x→(∃ y,stp x=some (.inr y)∧Post y)∨∃ m x',n=m+1∧stp x=some (.inl x')∧Inv m x') :
    ∀ (fuel n:Nat) (x:X),Inv n x→n < fuel→∃ y,iterO stp fuel x=some y∧Post y
  | 0,n,_,_,hf=>absurd hf (Nat.not_lt_zero n)
  | f+1,n,x,h,hf=>by
    rcases hs n x h with ⟨y,h1,h2⟩ | ⟨m,x',rfl,h1,h2⟩
    · exact ⟨y,by simp only [iterO,h1,ob,two],h2⟩
    · obtain ⟨y,h3,h4⟩:=iter_or hs f m x' h2 (Nat.lt_of_succ_lt_succ hf)
      exact ⟨y,by simp only [iterO,h1,ob,two];exact h3,h4⟩
theorem w64_small {n:Nat}(h:n < 1000):w64 ((n:Int)+1)=((n+1:Nat):Int):=by
  unfold w64 IntKind.wrap
  simp [IntKind.bits,IntKind.signed]
  omega
def Left1 (a:Act)(b:Bool)(y:(((List Act)×Bool×Int)⊕((List Act)×Bool×Int))):Prop:=y=.inl ([a],b,0)∨∃ c,y=.inr c
theorem l7 (a:Act)(b:Bool)(hl:a.ops.length≤22):∃ y,L44_7 [a] b 0 0=some y∧Left1 a b y:=by
  unfold L44_7
  refine iter_or (Inv:=fun n x=>∃ k:Nat,x=([a],b,(0:Int),(k:Int))∧k≤a.ops.length∧n=a.ops.length - k) (Post:=Left1 a b) ?_ _ a.ops.length _ ⟨0,rfl,Nat.zero_le _,rfl⟩ (by omega)
  rintro n x ⟨k,rfl,hk,rfl⟩
  by_cases h:k < a.ops.length
  · obtain ⟨r,hr⟩:∃ r,few9 a.ops[k]=some r:=⟨_,rfl⟩
    have e:stp_L44_7 ([a],b,(0:Int),(k:Int))=cond r (some (.inl ([a],b,0,w64 ((k:Int)+1)))) (some (.inr (.inr ([a],false,0)))):=by
      simp [stp_L44_7,step_L44_7,ob,h,hr]
    cases r with
    | false=>exact .inl ⟨_,e,.inr ⟨_,rfl⟩⟩
    | true=>exact .inr ⟨a.ops.length - (k+1),_,by omega,e,k+1,by rw [w64_small (by omega)],by omega,rfl⟩
  · have hk:k=a.ops.length:=by omega
    refine .inl ⟨.inl ([a],b,0),?_,.inl rfl⟩
    simp [stp_L44_7,step_L44_7,ob,hk]
theorem l12 (a:Act)(b:Bool)(hl:a.wants.length≤8):∃ y,L44_12 [a] b 0 0=some y∧Left1 a b y:=by
  unfold L44_12
  refine iter_or (Inv:=fun n x=>∃ k:Nat,x=([a],b,(0:Int),(k:Int))∧k≤a.wants.length∧n=a.wants.length - k) (Post:=Left1 a b) ?_ _ a.wants.length _ ⟨0,rfl,Nat.zero_le _,rfl⟩ (by omega)
  rintro n x ⟨k,rfl,hk,rfl⟩
  by_cases h:k < a.wants.length
  · have e:stp_L44_12 ([a],b,(0:Int),(k:Int))=cond (decide (60 < (a.wants[k].key.size:Int))) (some (.inr (.inr ([a],false,0)))) (some (.inl ([a],b,0,w64 ((k:Int)+1)))):=by
      simp [stp_L44_12,step_L44_12,ob,h]
    cases hr:decide (60 < (a.wants[k].key.size:Int)) with
    | true=>rw [hr] at e;exact .inl ⟨_,e,.inr ⟨_,rfl⟩⟩
    | false=>rw [hr] at e;exact .inr ⟨a.wants.length - (k+1),_,by omega,e,k+1,by rw [w64_small (by omega)],by omega,rfl⟩
  · have hk:k=a.wants.length:=by omega
    refine .inl ⟨.inl ([a],b,0),?_,.inl rfl⟩
    simp [stp_L44_12,step_L44_12,ob,hk]
theorem few13_one (a:Act):∃ r,few13 [a]=some r:=by
  have key:∃ y,L44_2 [a] false 0=some y:=by
    have e0:L44_2 [a] false 0=iterO stp_L44_2 3 ([a],false,0):=rfl
    rw [e0]
    have s1:∃ z,stp_L44_2 ([a],false,0)=some z∧(z=.inl ([a],false,1)∨∃ y,z=.inr y):=by
      by_cases h1:a.wants.length≤8
      · by_cases h2:a.ops.length≤22
        · obtain ⟨y2,hy,hp⟩:=l7 a false h2
          have hw:¬ (a.wants.length:Int) > 8:=by omega
          have ho:¬ (a.ops.length:Int) > 22:=by omega
          rcases hp with rfl | ⟨c,rfl⟩
          · obtain ⟨y5,hy5,hp5⟩:=l12 a false h1
            rcases hp5 with rfl | ⟨c,rfl⟩
            · exact ⟨_,by simp [stp_L44_2,step_L44_2,ob,two,hw,ho,hy,hy5];rfl,.inl (by simp <;> rfl)⟩
            · exact ⟨_,by simp [stp_L44_2,step_L44_2,ob,two,hw,ho,hy,hy5];rfl,.inr ⟨_,rfl⟩⟩
          · exact ⟨_,by simp [stp_L44_2,step_L44_2,ob,two,hw,ho,hy];rfl,.inr ⟨_,rfl⟩⟩
        · have hw:¬ (a.wants.length:Int) > 8:=by omega
          have ho:(a.ops.length:Int) > 22:=by omega
          exact ⟨_,by simp [stp_L44_2,step_L44_2,ob,two,hw,ho];rfl,.inr ⟨_,rfl⟩⟩
      · have hw:(a.wants.length:Int) > 8:=by omega
        exact ⟨_,by simp [stp_L44_2,step_L44_2,ob,two,hw];rfl,.inr ⟨_,rfl⟩⟩
    obtain ⟨z,hz,hc⟩:=s1
    rcases hc with rfl | ⟨y,rfl⟩
    · have s2:stp_L44_2 ([a],false,1)=some (.inr (.inl ([a],false))):=by simp [stp_L44_2,step_L44_2]
      exact ⟨.inl ([a],false),by simp [iterO,hz,s2,ob,two]⟩
    · exact ⟨y,by simp only [iterO,hz,ob,two]⟩
  obtain ⟨y,hy⟩:=key
  unfold few13
  rw [hy]
  cases y with
  | inl a1=>exact ⟨_,rfl⟩
  | inr b2=>exact ⟨_,rfl⟩
theorem fewCmd_answers (c:Cmd):∃ b,un_fewCmd c=some b:=by
  unfold un_fewCmd fewCmd
  obtain ⟨r,hr⟩:=few13_one (Act.mk 0 0 0 c.wants c.ops)
  rw [hr]
  cases r with
  | true=>exact ⟨_,rfl⟩
  | false=>exact ⟨_,rfl⟩
end Go.Proofs.YtogbdkfbjphkiaaGreat
