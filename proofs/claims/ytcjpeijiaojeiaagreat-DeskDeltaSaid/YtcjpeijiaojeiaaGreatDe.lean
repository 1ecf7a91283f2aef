/- Identifiers, numbers, wants: they answer. -/
import Derived.Test.YtcjpeijiaojeiaaGreatDd
namespace Go.Proofs.YtcjpeijiaojeiaaGreat
open Go Go.Ev
set_option maxRecDepth 100000
theorem mem_app1 {α:Type}{P:α→Prop}{l:List α}{x:α}(h:∀ z∈l,P z)(hx:P x):∀ z∈l++[x],P z:=by
  intro z hz
  rcases List.mem_append.1 hz with hz | hz
  · exact h z hz
  · rw [List.mem_singleton.1 hz];exact hx
theorem t_Less (l:List Range)(n:Int)(hv:∀ x∈l,RG x)(hl:rl l≤100000):Ok (ref11Less l n) (fun y=>y.2=true→(∀ x∈y.1,RG x)∧rl y.1≤rl l):=by
  have hll:=rl_len l hv
  unfold ref11Less
  refine Ok.ob (t_ref11Has l n (by omega)) fun b _=>Ok.cond (fun _=>Ok.ret (by simp)) fun _=>?_
  have hloop:Ok (L143_5 l n [] 0) (fun y=>(∀ x∈y,RG x)∧rl y≤rl l):=by
    refine Ok.iter (fun x=>x.1=l∧x.2.1=n∧0≤x.2.2.2∧x.2.2.2≤(l.length:Int)∧(∀ z∈x.2.2.1,RG z)∧rl x.2.2.1+rl (l.drop x.2.2.2.toNat)≤rl l) (fun x=>l.length - x.2.2.2.toNat) ?_ _ _ ⟨rfl,rfl,by dsimp only;omega,by dsimp only;omega,by simp,by simp [rl]⟩ (by dsimp only;omega)
    rintro ⟨l',n',a,i⟩ ⟨h1,h2,h3,h4,h5,h6⟩
    dsimp only at h1 h2 h3 h4 h5 h6
    subst h1;subst h2
    unfold stp_L143_5 step_L143_5
    dsimp only
    refine Ok.dec (fun hi=>?_) (fun hi=>Ok.inr ?_)
    · have hw:w64 (i+1)=i+1:=w64_ok (by omega)
      have ht:(i+1).toNat=i.toNat+1:=by omega
      refine Ok.need (by omega) (Ok.ob (Ok.get (by omega)) fun e he=>?_)
      obtain ⟨hm,he⟩:=he
      obtain ⟨e1,e2,e3⟩:=hv e hm
      have hd:=rl_drop he
      have hdn:0≤rl (l'.drop (i.toNat+1)):=rl_nonneg _ fun x hx=>hv x (List.mem_of_mem_drop hx)
      have ha:=rl_len a h5
      refine Ok.or (fun _=>?_) (fun hc hc2=>?_)
      · refine Ok.fit (by simp only [List.length_append,List.length_cons,List.length_nil,List.length_take,List.length_drop,List.length_set,List.nil_append];omega) (Ok.inl ?_)
        dsimp only
        refine ⟨⟨rfl,rfl,by omega,by omega,mem_app1 h5 ⟨e1,e2,e3⟩,?_⟩,by omega⟩
        rw [hw,ht,rl_append];simp only [rl];omega
      · have hwn:w64 (n'+1)=n'+1:=w64_ok (by omega)
        refine Ok.dec (fun hc3=>?_) (fun hc3=>?_)
        · refine Ok.fit (by simp only [List.length_append,List.length_cons,List.length_nil,List.length_take,List.length_drop,List.length_set,List.nil_append];omega) (Ok.dec (fun hc4=>?_) (fun hc4=>?_))
          · refine Ok.fit (by simp only [List.length_append,List.length_cons,List.length_nil,List.length_take,List.length_drop,List.length_set,List.nil_append];omega) (Ok.inl ?_)
            dsimp only
            refine ⟨⟨rfl,rfl,by omega,by omega,mem_app1 (mem_app1 h5 ⟨by dsimp only;omega,by dsimp only;omega,by dsimp only;omega⟩) ⟨by dsimp only;omega,by dsimp only;omega,by dsimp only;omega⟩,?_⟩,by omega⟩
            rw [hw,ht,rl_append,rl_append];simp only [rl];omega
          · refine Ok.inl ?_
            dsimp only
            refine ⟨⟨rfl,rfl,by omega,by omega,mem_app1 h5 ⟨by dsimp only;omega,by dsimp only;omega,by dsimp only;omega⟩,?_⟩,by omega⟩
            rw [hw,ht,rl_append];simp only [rl];omega
        · refine Ok.dec (fun hc4=>?_) (fun hc4=>?_)
          · refine Ok.fit (by simp only [List.length_append,List.length_cons,List.length_nil,List.length_take,List.length_drop,List.length_set,List.nil_append];omega) (Ok.inl ?_)
            dsimp only
            refine ⟨⟨rfl,rfl,by omega,by omega,mem_app1 h5 ⟨by dsimp only;omega,by dsimp only;omega,by dsimp only;omega⟩,?_⟩,by omega⟩
            rw [hw,ht,rl_append];simp only [rl];omega
          · refine Ok.inl ?_
            dsimp only
            refine ⟨⟨rfl,rfl,by omega,by omega,h5,?_⟩,by omega⟩
            rw [hw,ht];omega
    · have hd:l'.drop i.toNat=[]:=List.drop_eq_nil_of_le (by omega)
      rw [hd] at h6
      simp only [rl] at h6
      exact ⟨h5,by omega⟩
  exact Ok.ob hloop fun y hy=>Ok.ret fun _=>hy
theorem t_in (l:List Int)(n:Int)(hl:l.length≤1000000):Ok (ref12_in l n) (fun _=>True):=by
  unfold ref12_in
  have hloop:Ok (L167_2 l n false 0) (Stp (fun _=>True) (fun _=>True)):=by
    refine Ok.iter (fun x=>x.1=l∧0≤x.2.2.2∧x.2.2.2≤(l.length:Int)) (fun x=>l.length - x.2.2.2.toNat) ?_ _ _ ⟨rfl,by dsimp only;omega,by dsimp only;omega⟩ (by dsimp only;omega)
    rintro ⟨l',n',b,i⟩ ⟨h1,h2,h3⟩
    dsimp only at h1 h2 h3
    subst h1
    unfold stp_L167_2 step_L167_2
    dsimp only
    refine Ok.dec (fun hi=>?_) (fun _=>Ok.inr1 trivial)
    have hw:w64 (i+1)=i+1:=w64_ok (by omega)
    repeat' first
      | refine Ok.need (by omega) ?_
      | refine Ok.need2 (by omega) (by omega) ?_
      | refine Ok.fit (by simp only [List.length_append,List.length_cons,List.length_nil,List.length_take,List.length_drop,List.length_set,List.nil_append];omega) ?_
      | refine Ok.ob (Ok.get (by omega)) fun e he=>?_
      | refine Ok.need (by simp only [List.length_append,List.length_cons,List.length_nil,List.length_take,List.length_drop,List.length_set,List.nil_append];omega) ?_
      | refine Ok.ob (Ok.get (by simp only [List.length_append,List.length_cons,List.length_nil,List.length_take,List.length_drop,List.length_set,List.nil_append];omega)) fun e he=>?_
      | refine Ok.or (fun hc=>?_) (fun hc hc2=>?_)
      | refine Ok.dec (fun hc=>?_) (fun hc=>?_)
      | refine Ok.beq (fun hc=>?_) (fun hc=>?_)
      | refine Ok.bne (fun hc=>?_) (fun hc=>?_)
      | refine Ok.cond (fun hc=>?_) (fun hc=>?_)
      | refine Ok.inl ?_
      | refine Ok.inr2 ?_
      | refine Ok.inr1 ?_
      | refine Ok.inr ?_
      | refine Ok.ret ?_
    all_goals first | trivial | (dsimp only;exact ⟨⟨rfl,by omega,by omega⟩,by omega⟩)
  exact Ok.ob hloop fun y hy=>Ok.two hy (fun _ _=>Ok.ret trivial) (fun _ _=>Ok.ret trivial)
theorem t_rise (l:List Int)(n:Int)(hl:l.length≤1000000):Ok (ref12_rise l n) (fun y=>y.length=l.length+1):=by
  unfold ref12_rise
  have hloop:Ok (L144_2 l n 0) (fun y=>y.1=l∧0≤y.2.2∧y.2.2≤(l.length:Int)):=by
    refine Ok.iter (fun x=>x.1=l∧0≤x.2.2∧x.2.2≤(l.length:Int)) (fun x=>l.length - x.2.2.toNat) ?_ _ _ ⟨rfl,by dsimp only;omega,by dsimp only;omega⟩ (by dsimp only;omega)
    rintro ⟨l',n',i⟩ ⟨h1,h2,h3⟩
    dsimp only at h1 h2 h3
    subst h1
    unfold stp_L144_2 step_L144_2
    dsimp only
    refine Ok.dec (fun hi=>?_) (fun _=>Ok.inr ⟨rfl,h2,h3⟩)
    have hw:w64 (i+1)=i+1:=w64_ok (by omega)
    repeat' first
      | refine Ok.need (by omega) ?_
      | refine Ok.need2 (by omega) (by omega) ?_
      | refine Ok.fit (by simp only [List.length_append,List.length_cons,List.length_nil,List.length_take,List.length_drop,List.length_set,List.nil_append];omega) ?_
      | refine Ok.ob (Ok.get (by omega)) fun e he=>?_
      | refine Ok.need (by simp only [List.length_append,List.length_cons,List.length_nil,List.length_take,List.length_drop,List.length_set,List.nil_append];omega) ?_
      | refine Ok.ob (Ok.get (by simp only [List.length_append,List.length_cons,List.length_nil,List.length_take,List.length_drop,List.length_set,List.nil_append];omega)) fun e he=>?_
      | refine Ok.or (fun hc=>?_) (fun hc hc2=>?_)
      | refine Ok.dec (fun hc=>?_) (fun hc=>?_)
      | refine Ok.beq (fun hc=>?_) (fun hc=>?_)
      | refine Ok.bne (fun hc=>?_) (fun hc=>?_)
      | refine Ok.cond (fun hc=>?_) (fun hc=>?_)
      | refine Ok.inl ?_
      | refine Ok.inr2 ?_
      | refine Ok.inr1 ?_
      | refine Ok.inr ?_
      | refine Ok.ret ?_
    · dsimp only;exact ⟨⟨rfl,by omega,by omega⟩,by omega⟩
    · exact ⟨rfl,h2,h3⟩
  refine Ok.ob hloop fun y hy=>?_
  obtain ⟨y1,y2,y3⟩:=y
  obtain ⟨h1,h2,h3⟩:=hy
  dsimp only at h1 h2 h3
  subst h1
  dsimp only
  repeat' first
    | refine Ok.need (by omega) ?_
    | refine Ok.need2 (by omega) (by omega) ?_
    | refine Ok.fit (by simp only [List.length_append,List.length_cons,List.length_nil,List.length_take,List.length_drop,List.length_set,List.nil_append];omega) ?_
    | refine Ok.ob (Ok.get (by omega)) fun e he=>?_
    | refine Ok.need (by simp only [List.length_append,List.length_cons,List.length_nil,List.length_take,List.length_drop,List.length_set,List.nil_append];omega) ?_
    | refine Ok.ob (Ok.get (by simp only [List.length_append,List.length_cons,List.length_nil,List.length_take,List.length_drop,List.length_set,List.nil_append];omega)) fun e he=>?_
    | refine Ok.or (fun hc=>?_) (fun hc hc2=>?_)
    | refine Ok.dec (fun hc=>?_) (fun hc=>?_)
    | refine Ok.beq (fun hc=>?_) (fun hc=>?_)
    | refine Ok.bne (fun hc=>?_) (fun hc=>?_)
    | refine Ok.cond (fun hc=>?_) (fun hc=>?_)
    | refine Ok.inl ?_
    | refine Ok.inr2 ?_
    | refine Ok.inr1 ?_
    | refine Ok.inr ?_
    | refine Ok.ret ?_
  simp only [List.length_append,List.length_cons,List.length_nil,List.length_take,List.length_drop,List.length_set,List.nil_append];omega
theorem t_place (b:Book)(k:ByteArray)(hl:b.counters.length≤1000000):Ok (ref12_place b k) (fun r=>r < 0∨0≤r∧r < (b.counters.length:Int)):=by
  unfold ref12_place
  have hloop:Ok (L44_2 k 0 0 b) (Stp (fun _=>True) (fun y=>0≤y.1∧y.1 < (b.counters.length:Int))):=by
    refine Ok.iter (fun x=>x.2.2.2=b∧0≤x.2.2.1∧x.2.2.1≤(b.counters.length:Int)) (fun x=>b.counters.length - x.2.2.1.toNat) ?_ _ _ ⟨rfl,by dsimp only;omega,by dsimp only;omega⟩ (by dsimp only;omega)
    rintro ⟨k',n,i,b'⟩ ⟨h1,h2,h3⟩
    dsimp only at h1 h2 h3
    subst h1
    unfold stp_L44_2 step_L44_2
    dsimp only
    refine Ok.dec (fun hi=>?_) (fun _=>Ok.inr1 trivial)
    have hw:w64 (i+1)=i+1:=w64_ok (by omega)
    repeat' first
      | refine Ok.need (by omega) ?_
      | refine Ok.need2 (by omega) (by omega) ?_
      | refine Ok.fit (by simp only [List.length_append,List.length_cons,List.length_nil,List.length_take,List.length_drop,List.length_set,List.nil_append];omega) ?_
      | refine Ok.ob (Ok.get (by omega)) fun e he=>?_
      | refine Ok.need (by simp only [List.length_append,List.length_cons,List.length_nil,List.length_take,List.length_drop,List.length_set,List.nil_append];omega) ?_
      | refine Ok.ob (Ok.get (by simp only [List.length_append,List.length_cons,List.length_nil,List.length_take,List.length_drop,List.length_set,List.nil_append];omega)) fun e he=>?_
      | refine Ok.or (fun hc=>?_) (fun hc hc2=>?_)
      | refine Ok.dec (fun hc=>?_) (fun hc=>?_)
      | refine Ok.beq (fun hc=>?_) (fun hc=>?_)
      | refine Ok.bne (fun hc=>?_) (fun hc=>?_)
      | refine Ok.cond (fun hc=>?_) (fun hc=>?_)
      | refine Ok.inl ?_
      | refine Ok.inr2 ?_
      | refine Ok.inr1 ?_
      | refine Ok.inr ?_
      | refine Ok.ret ?_
    · dsimp only;exact ⟨h2,hi⟩
    · dsimp only;exact ⟨⟨rfl,by omega,by omega⟩,by omega⟩
  exact Ok.ob hloop fun y hy=>Ok.two hy (fun _ _=>Ok.ret (.inl (by omega))) (fun _ hb=>Ok.ret (.inr hb))
theorem t_Lost (d:Desk)(v e:Int)(hl:d.lost.length≤1000000):Ok (ref13Lost d v e) (fun _=>True):=by
  unfold ref13Lost
  have hloop:Ok (L100_2 v e false 0 d) (Stp (fun _=>True) (fun _=>True)):=by
    refine Ok.iter (fun x=>x.2.2.2.2=d∧0≤x.2.2.2.1∧x.2.2.2.1≤(d.lost.length:Int)) (fun x=>d.lost.length - x.2.2.2.1.toNat) ?_ _ _ ⟨rfl,by dsimp only;omega,by dsimp only;omega⟩ (by dsimp only;omega)
    rintro ⟨v',e',b,i,d'⟩ ⟨h1,h2,h3⟩
    dsimp only at h1 h2 h3
    subst h1
    unfold stp_L100_2 step_L100_2
    dsimp only
    refine Ok.dec (fun hi=>?_) (fun _=>Ok.inr1 trivial)
    have hw:w64 (i+1)=i+1:=w64_ok (by omega)
    repeat' first
      | refine Ok.need (by omega) ?_
      | refine Ok.need2 (by omega) (by omega) ?_
      | refine Ok.fit (by simp only [List.length_append,List.length_cons,List.length_nil,List.length_take,List.length_drop,List.length_set,List.nil_append];omega) ?_
      | refine Ok.ob (Ok.get (by omega)) fun e he=>?_
      | refine Ok.need (by simp only [List.length_append,List.length_cons,List.length_nil,List.length_take,List.length_drop,List.length_set,List.nil_append];omega) ?_
      | refine Ok.ob (Ok.get (by simp only [List.length_append,List.length_cons,List.length_nil,List.length_take,List.length_drop,List.length_set,List.nil_append];omega)) fun e he=>?_
      | refine Ok.or (fun hc=>?_) (fun hc hc2=>?_)
      | refine Ok.dec (fun hc=>?_) (fun hc=>?_)
      | refine Ok.beq (fun hc=>?_) (fun hc=>?_)
      | refine Ok.bne (fun hc=>?_) (fun hc=>?_)
      | refine Ok.cond (fun hc=>?_) (fun hc=>?_)
      | refine Ok.inl ?_
      | refine Ok.inr2 ?_
      | refine Ok.inr1 ?_
      | refine Ok.inr ?_
      | refine Ok.ret ?_
    all_goals first | trivial | (dsimp only;exact ⟨⟨rfl,by omega,by omega⟩,by omega⟩)
  exact Ok.ob hloop fun y hy=>Ok.two hy (fun _ _=>Ok.ret trivial) (fun _ _=>Ok.ret trivial)
theorem t_current (d:Desk)(c:Cmd)(hl:d.lost.length≤1000000)(h1:0≤c.device)(h2:c.device < 6):Ok (ref13_current d c) (fun _=>True):=by
  unfold ref13_current
  repeat' first
    | refine Ok.need (by omega) ?_
    | refine Ok.need2 (by omega) (by omega) ?_
    | refine Ok.fit (by simp only [List.length_append,List.length_cons,List.length_nil,List.length_take,List.length_drop,List.length_set,List.nil_append];omega) ?_
    | refine Ok.ob (Ok.get (by omega)) fun e he=>?_
    | refine Ok.need (by simp only [List.length_append,List.length_cons,List.length_nil,List.length_take,List.length_drop,List.length_set,List.nil_append];omega) ?_
    | refine Ok.ob (Ok.get (by simp only [List.length_append,List.length_cons,List.length_nil,List.length_take,List.length_drop,List.length_set,List.nil_append];omega)) fun e he=>?_
    | refine Ok.ob (t_Lost d _ _ hl) fun y hy=>?_
    | refine Ok.or (fun hc=>?_) (fun hc hc2=>?_)
    | refine Ok.dec (fun hc=>?_) (fun hc=>?_)
    | refine Ok.beq (fun hc=>?_) (fun hc=>?_)
    | refine Ok.bne (fun hc=>?_) (fun hc=>?_)
    | refine Ok.cond (fun hc=>?_) (fun hc=>?_)
    | refine Ok.inl ?_
    | refine Ok.inr2 ?_
    | refine Ok.inr1 ?_
    | refine Ok.inr ?_
    | refine Ok.ret ?_
  all_goals trivial
theorem t_Take (l:List Range)(n:Int)(hv:∀ x∈l,RG x)(hl:rl l≤100000)(hn:n≤100000):Ok (ref11Take l n) (fun y=>y.2.2=0→(∀ x∈y.1,RG x)∧(∀ x∈y.2.1,RG x)∧rl y.1+rl y.2.1≤rl l):=by
  have hll:=rl_len l hv
  unfold ref11Take
  refine Ok.dec (fun _=>Ok.ret (fun h=>by cases h)) fun hn0=>Ok.ob (t_ref11Len l (by omega)) fun r0 _=>Ok.dec (fun _=>Ok.ret (fun h=>by cases h)) fun _=>?_
  have hloop:Ok (L204_7 l n [] [] 0) (fun y=>(∀ x∈y.1,RG x)∧(∀ x∈y.2,RG x)∧rl y.1+rl y.2≤rl l):=by
    refine Ok.iter (fun x=>x.1=l∧0≤x.2.1∧x.2.1≤100000∧0≤x.2.2.2.2∧x.2.2.2.2≤(l.length:Int)∧(∀ z∈x.2.2.1,RG z)∧(∀ z∈x.2.2.2.1,RG z)∧rl x.2.2.1+rl x.2.2.2.1+rl (l.drop x.2.2.2.2.toNat)≤rl l) (fun x=>l.length - x.2.2.2.2.toNat) ?_ _ _ ⟨rfl,by dsimp only;omega,by dsimp only;omega,by dsimp only;omega,by dsimp only;omega,by simp,by simp,by simp [rl]⟩ (by dsimp only;omega)
    rintro ⟨l',n',a,b,i⟩ ⟨h1,h2,h3,h4,h5,h6,h7,h8⟩
    dsimp only at h1 h2 h3 h4 h5 h6 h7 h8
    subst h1
    unfold stp_L204_7 step_L204_7
    dsimp only
    refine Ok.dec (fun hi=>?_) (fun hi=>Ok.inr ?_)
    · have hw:w64 (i+1)=i+1:=w64_ok (by omega)
      have ht:(i+1).toNat=i.toNat+1:=by omega
      have he:l'[i.toNat]?=some (l'[i.toNat]'(by omega)):=List.getElem?_eq_getElem _
      have hm:(l'[i.toNat]'(by omega))∈l':=List.getElem_mem _
      generalize (l'[i.toNat]'(by omega))=e at he hm
      obtain ⟨e1,e2,e3⟩:=hv e hm
      have hd:=rl_drop he
      have hdn:0≤rl (l'.drop (i.toNat+1)):=rl_nonneg _ fun x hx=>hv x (List.mem_of_mem_drop hx)
      have ha:=rl_len a h6
      have hb:=rl_len b h7
      have hk:min2 n' (w64 (e.to_ - e.from_))=min n' (e.to_ - e.from_):=by rw [w64_ok (by omega)];unfold min2;split<;>omega
      simp only [he,ob_some,hk]
      have hk1:0≤min n' (e.to_ - e.from_):=by omega
      have hk2:min n' (e.to_ - e.from_)≤e.to_ - e.from_:=by omega
      have hk3:min n' (e.to_ - e.from_)≤n':=by omega
      have hk4:¬ min n' (e.to_ - e.from_) > 0→min n' (e.to_ - e.from_)=0:=by omega
      generalize min n' (e.to_ - e.from_)=k at hk1 hk2 hk3 hk4 ⊢
      have hwf:w64 (e.from_+k)=e.from_+k:=w64_ok (by omega)
      have hwn:w64 (n' - k)=n' - k:=w64_ok (by omega)
      rw [hwf,hwn,hw]
      repeat' first
        | refine Ok.need (by omega) ?_
        | refine Ok.need2 (by omega) (by omega) ?_
        | refine Ok.fit (by simp only [List.length_append,List.length_cons,List.length_nil,List.length_take,List.length_drop,List.length_set,List.nil_append];omega) ?_
        | refine Ok.ob (Ok.get (by omega)) fun e he=>?_
        | refine Ok.need (by simp only [List.length_append,List.length_cons,List.length_nil,List.length_take,List.length_drop,List.length_set,List.nil_append];omega) ?_
        | refine Ok.ob (Ok.get (by simp only [List.length_append,List.length_cons,List.length_nil,List.length_take,List.length_drop,List.length_set,List.nil_append];omega)) fun e he=>?_
        | refine Ok.or (fun hc=>?_) (fun hc hc2=>?_)
        | refine Ok.dec (fun hc=>?_) (fun hc=>?_)
        | refine Ok.beq (fun hc=>?_) (fun hc=>?_)
        | refine Ok.bne (fun hc=>?_) (fun hc=>?_)
        | refine Ok.cond (fun hc=>?_) (fun hc=>?_)
        | refine Ok.inl ?_
        | refine Ok.inr2 ?_
        | refine Ok.inr1 ?_
        | refine Ok.inr ?_
        | refine Ok.ret ?_
      all_goals dsimp only
      · refine ⟨⟨rfl,by omega,by omega,by omega,by omega,mem_app1 h6 ⟨by dsimp only;omega,by dsimp only;omega,by dsimp only;omega⟩,mem_app1 h7 ⟨by dsimp only;omega,by dsimp only;omega,by dsimp only;omega⟩,?_⟩,by omega⟩
        rw [ht,rl_append,rl_append];simp only [rl];omega
      · refine ⟨⟨rfl,by omega,by omega,by omega,by omega,mem_app1 h6 ⟨by dsimp only;omega,by dsimp only;omega,by dsimp only;omega⟩,h7,?_⟩,by omega⟩
        rw [ht,rl_append];simp only [rl];omega
      · refine ⟨⟨rfl,by omega,by omega,by omega,by omega,h6,mem_app1 h7 ⟨by dsimp only;omega,by dsimp only;omega,by dsimp only;omega⟩,?_⟩,by omega⟩
        rw [ht,rl_append];simp only [rl];omega
    · have hd:l'.drop i.toNat=[]:=List.drop_eq_nil_of_le (by omega)
      rw [hd] at h8
      simp only [rl] at h8
      exact ⟨h6,h7,by dsimp only;omega⟩
  exact Ok.ob hloop fun y hy=>Ok.ret fun _=>hy
end Go.Proofs.YtcjpeijiaojeiaaGreat
