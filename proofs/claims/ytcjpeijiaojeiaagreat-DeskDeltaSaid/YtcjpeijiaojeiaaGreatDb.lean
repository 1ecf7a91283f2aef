/- Ranges, texts, checks: they answer. -/
import Derived.Test.YtcjpeijiaojeiaaGreatDa
namespace Go.Proofs.YtcjpeijiaojeiaaGreat
open Go Go.Ev
set_option maxRecDepth 100000
/-- a range that may be -/
def RG (r:Range):Prop:=0≤r.from_∧r.from_ < r.to_∧r.to_≤1073741824
def rl:List Range→Int
  | []=>0
  | x::r=>(x.to_ - x.from_)+rl r
theorem rl_append:∀ l m:List Range,rl (l++m)=rl l+rl m
  | [],m=>by simp [rl]
  | x::l,m=>by simp only [List.cons_append,rl,rl_append l m];omega
theorem rl_len:∀ l:List Range,(∀ x∈l,RG x)→(l.length:Int)≤rl l
  | [],_=>by simp [rl]
  | x::l,h=>by
    have h1:=rl_len l fun y hy=>h y (by simp [hy])
    have h2:=h x (by simp)
    simp only [rl,List.length_cons]
    have:=h2.2.1
    omega
theorem rl_drop {l:List Range}{i:Nat}{e:Range}(h:l[i]?=some e):rl (l.drop i)=(e.to_ - e.from_)+rl (l.drop (i+1)):=by
  obtain ⟨h1,h2⟩:=List.getElem?_eq_some_iff.1 h
  rw [List.drop_eq_getElem_cons h1,h2,rl]
theorem rl_take {l:List Range}{i:Nat}{e:Range}(h:l[i]?=some e):rl (l.take (i+1))=rl (l.take i)+(e.to_ - e.from_):=by
  obtain ⟨h1,h2⟩:=List.getElem?_eq_some_iff.1 h
  rw [List.take_succ_eq_append_getElem h1,rl_append,h2]
  simp [rl]
theorem t_ref11Add (l:List Range)(r:Range)(hl:l.length≤1000000)(hv:∀ x∈l,RG x)(hr:RG r):Ok (ref11Add l r) (fun y=>(∀ x∈y,RG x)∧rl y≤rl l+(r.to_ - r.from_)∧y.length≤l.length+1):=by
  obtain ⟨hr1,hr2,hr3⟩:=hr
  unfold ref11Add
  refine Ok.cond (fun hc=>?_) (fun _=>?_)
  · exfalso
    rw [decide_eq_false (by omega),decide_eq_false (by omega),decide_eq_false (by omega)] at hc
    cases hc
  · have hloop:Ok (L125_5 l [] [] 0 r) (fun y=>(∀ x∈y.1,RG x)∧(∀ x∈y.2.1,RG x)∧RG y.2.2∧rl y.1+rl y.2.1+(y.2.2.to_ - y.2.2.from_)≤rl l+(r.to_ - r.from_)∧y.1.length+y.2.1.length≤l.length):=by
      refine Ok.iter (fun x=>x.1=l∧0≤x.2.2.2.1∧x.2.2.2.1≤(l.length:Int)∧(∀ z∈x.2.1,RG z)∧(∀ z∈x.2.2.1,RG z)∧RG x.2.2.2.2∧rl x.2.1+rl x.2.2.1+(x.2.2.2.2.to_ - x.2.2.2.2.from_)+rl (l.drop x.2.2.2.1.toNat)≤rl l+(r.to_ - r.from_)∧(x.2.1.length:Int)+x.2.2.1.length≤x.2.2.2.1) (fun x=>(l.length:Int).toNat - x.2.2.2.1.toNat) ?_ _ _ ⟨rfl,by simp,by simp,by simp,by simp,⟨hr1,hr2,hr3⟩,by simp [rl];omega,by simp⟩ (by dsimp only;omega)
      rintro ⟨l',a,b,i,q⟩ ⟨h1,h2,h3,h4,h5,h6,h7,h8⟩
      dsimp only at h1 h2 h3 h4 h5 h6 h7 h8
      subst h1
      unfold stp_L125_5 step_L125_5
      dsimp only
      have hw:i < (l'.length:Int)→w64 (i+1)=i+1:=fun _=>w64_ok (by omega)
      obtain ⟨q1,q2,q3⟩:=h6
      refine Ok.dec (fun hi=>?_) (fun hi=>Ok.inr ?_)
      · have hw:=hw hi
        have ht:(i+1).toNat=i.toNat+1:=by omega
        refine Ok.need h2 (Ok.ob (Ok.get (by omega)) fun e he=>?_)
        obtain ⟨hm,he⟩:=he
        obtain ⟨e1,e2,e3⟩:=hv e hm
        have hd:=rl_drop he
        have me:(i+1)=w64 (i+1):=hw.symm
        have same:∀ {y:Range},l'[i.toNat]?=some y→y=e:=fun h=>by rw [he] at h;exact (Option.some.inj h).symm
        refine Ok.dec (fun hc=>?_) (fun hc=>?_)
        · refine Ok.need h2 (Ok.ob (Ok.get (by omega)) fun y hy=>?_)
          have:=same hy.2;subst this
          refine Ok.fit (by simp only [List.length_append,List.length_cons,List.length_nil,List.length_take,List.length_drop,List.length_set,List.nil_append];omega) (Ok.inl ?_)
          dsimp only
          refine ⟨⟨rfl,by omega,by omega,?_,h5,⟨q1,q2,q3⟩,?_,?_⟩,?_⟩
          · intro z hz;rcases List.mem_append.1 hz with hz | hz
            · exact h4 z hz
            · rw [List.mem_singleton.1 hz];exact ⟨e1,e2,e3⟩
          · rw [hw,ht,rl_append];simp only [rl];omega
          · rw [hw,List.length_append,List.length_singleton];omega
          · omega
        · refine Ok.need h2 (Ok.ob (Ok.get (by omega)) fun y hy=>?_)
          have:=same hy.2;subst this
          refine Ok.dec (fun hc2=>?_) (fun hc2=>?_)
          · refine Ok.need h2 (Ok.ob (Ok.get (by omega)) fun y' hy=>?_)
            have:=same hy.2;subst this
            refine Ok.fit (by simp only [List.length_append,List.length_cons,List.length_nil,List.length_take,List.length_drop,List.length_set,List.nil_append];omega) (Ok.inl ?_)
            dsimp only
            refine ⟨⟨rfl,by omega,by omega,h4,?_,⟨q1,q2,q3⟩,?_,?_⟩,?_⟩
            · intro z hz;rcases List.mem_append.1 hz with hz | hz
              · exact h5 z hz
              · rw [List.mem_singleton.1 hz];exact ⟨e1,e2,e3⟩
            · rw [hw,ht,rl_append];simp only [rl];omega
            · rw [hw,List.length_append,List.length_singleton];omega
            · omega
          · refine Ok.need h2 (Ok.ob (Ok.get (by omega)) fun y' hy=>?_)
            have:=same hy.2;subst this
            refine Ok.need h2 (Ok.ob (Ok.get (by omega)) fun y'' hy=>?_)
            have:=same hy.2;subst this
            have hmn:min2 q.from_ y''.from_=min q.from_ y''.from_:=by unfold min2;split<;>omega
            have hmx:max2 q.to_ y''.to_=max q.to_ y''.to_:=by unfold max2;split<;>omega
            refine Ok.inl ?_
            dsimp only
            refine ⟨⟨rfl,by omega,by omega,h4,h5,⟨?_,?_,?_⟩,?_,?_⟩,?_⟩
            · dsimp only;omega
            · dsimp only;omega
            · dsimp only;omega
            · rw [hw,ht];omega
            · omega
            · omega
      · have:l'.drop i.toNat=[]:=List.drop_eq_nil_of_le (by omega)
        rw [this] at h7
        simp only [rl] at h7
        dsimp only
        exact ⟨h4,h5,⟨q1,q2,q3⟩,by omega,by omega⟩
    refine Ok.ob hloop fun y hy=>?_
    obtain ⟨h1,h2,h3,h4,h5⟩:=hy
    refine Ok.fit (by simp only [List.length_append,List.length_cons,List.length_nil,List.length_take,List.length_drop,List.length_set,List.nil_append];omega) (Ok.fit (by simp only [List.length_append,List.length_cons,List.length_nil,List.length_take,List.length_drop,List.length_set,List.nil_append];omega) (Ok.ret ⟨?_,?_,?_⟩))
    · intro x hx
      rcases List.mem_append.1 hx with hx | hx
      · rcases List.mem_append.1 hx with hx | hx
        · exact h1 x hx
        · rw [List.mem_singleton.1 hx];exact h3
      · exact h2 x hx
    · rw [rl_append,rl_append];simp only [rl];omega
    · simp only [List.length_append,List.length_cons,List.length_nil,List.length_take,List.length_drop,List.length_set,List.nil_append];omega
theorem t_ref5Text (s:ByteArray):Ok (ref5Text s) (fun _=>True):=by
  unfold ref5Text
  refine Ok.dec (fun _=>Ok.ret trivial) (fun hs=>?_)
  have hloop:Ok (L73_4 s false 0) (Stp (fun _=>True) (fun _=>True)):=by
    refine Ok.iter (fun x=>x.1=s∧0≤x.2.2∧x.2.2≤(s.size:Int)) (fun x=>(s.size:Int).toNat - x.2.2.toNat) ?_ _ _ ⟨rfl,by simp,by simp⟩ (by dsimp only;omega)
    rintro ⟨s',b,i⟩ ⟨h1,h2,h3⟩
    dsimp only at h1 h2 h3
    subst h1
    unfold stp_L73_4 step_L73_4
    dsimp only
    refine Ok.dec (fun hi=>?_) (fun _=>Ok.inr1 trivial)
    have hw:w64 (i+1)=i+1:=w64_ok (by omega)
    refine Ok.need (by omega) (Ok.need (by omega) (Ok.dec (fun _=>Ok.inr2 trivial) fun _=>Ok.need (by omega) (Ok.need (by omega) (Ok.cond (fun _=>Ok.inr2 trivial) fun _=>Ok.inl ?_))))
    dsimp only
    exact ⟨⟨rfl,by omega,by omega⟩,by omega⟩
  refine Ok.ob hloop fun y hy=>Ok.two hy (fun _ _=>Ok.ret trivial) (fun _ _=>Ok.ret trivial)
theorem t_ref9Less (a b:Entry):Ok (ref9Less a b) (fun _=>True):=by
  unfold ref9Less
  repeat' first
    | refine Ok.need (by omega) ?_
    | refine Ok.need2 (by omega) (by omega) ?_
    | refine Ok.fit (by simp only [List.length_append,List.length_cons,List.length_nil,List.length_take,List.length_drop,List.length_set,List.nil_append];omega) ?_
    | refine Ok.ob (Ok.get (by omega)) fun e he=>?_
    | refine Ok.need (by simp only [List.length_append,List.length_cons,List.length_nil,List.length_take,List.length_drop,List.length_set,List.nil_append];omega) ?_
    | refine Ok.ob (Ok.get (by simp only [List.length_append,List.length_cons,List.length_nil,List.length_take,List.length_drop,List.length_set,List.nil_append];omega)) fun e he=>?_
    | refine Ok.or (fun hc=>?_) (fun hc hc2=>?_)
    | refine Ok.dec (fun hc=>?_) (fun hc=>?_)
    | refine Ok.beq (fun hc=>?_) (fun hc=>?_)
    | refine Ok.bne (fun hc=>?_) (fun hc=>?_)
    | refine Ok.cond (fun hc=>?_) (fun hc=>?_)
    | refine Ok.inl ?_
    | refine Ok.inr2 ?_
    | refine Ok.inr1 ?_
    | refine Ok.inr ?_
    | refine Ok.ret ?_
  all_goals trivial
theorem t_ref9Check (o:Op)(hd:o.dots.length≤1000000):Ok (ref9Check o) (fun r=>r=0→0≤o.coll∧o.coll < 3):=by
  unfold ref9Check
  refine Ok.cond (fun _=>Ok.ret (by omega)) (fun hc=>?_)
  have hcoll:0≤o.coll∧o.coll < 3:=by
    by_cases h1:o.coll < 0
    · exfalso
      rw [decide_eq_true h1] at hc
      revert hc
      cases decide (o.dot.device < 0)<;>cases decide (o.dot.device≥6)<;>cases decide (o.dot.epoch < 1)<;>cases decide (o.dot.epoch > 1073741824)<;>cases decide (o.dot.seq < 1)<;>cases decide (o.dot.seq > 1073741824)<;>exact fun h=>by cases h
    · by_cases h2:o.coll≥3
      · exfalso
        rw [decide_eq_true h2] at hc
        revert hc
        cases decide (o.dot.device < 0)<;>cases decide (o.dot.device≥6)<;>cases decide (o.dot.epoch < 1)<;>cases decide (o.dot.epoch > 1073741824)<;>cases decide (o.dot.seq < 1)<;>cases decide (o.dot.seq > 1073741824)<;>cases decide (o.coll < 0)<;>exact fun h=>by cases h
      · omega
  clear hc
  refine Ok.cond (fun _=>Ok.ret (by omega)) (fun _=>Ok.ob (t_ref5Text _) fun _ _=>Ok.cond (fun _=>Ok.ret (by omega)) fun _=>Ok.ob (t_ref5Text _) fun _ _=>Ok.cond (fun _=>Ok.ret (by omega)) fun _=>Ok.cond (fun _=>Ok.ret (by omega)) fun _=>?_)
  refine Ok.cond (fun _=>?_) (fun _=>?_)
  · refine Ok.dec (fun _=>Ok.ret (by omega)) (fun h8=>?_)
    have hloop:Ok (L34_15 0 1 o) (Stp (fun _=>True) (fun b=>b.1=10)):=by
      refine Ok.iter (fun x=>x.2.2=o∧1≤x.2.1∧x.2.1≤100) (fun x=>200 - x.2.1.toNat) ?_ _ _ ⟨rfl,by simp,by simp⟩ (by simp)
      rintro ⟨i,j,o'⟩ ⟨h1,h2,h3⟩
      dsimp only at h1 h2 h3
      subst h1
      unfold stp_L34_15 step_L34_15
      dsimp only
      have hw:w64 (j+1)=j+1:=w64_ok (by omega)
      have hw':w64 (j - 1)=j - 1:=w64_ok (by omega)
      refine Ok.dec (fun hi=>?_) (fun _=>Ok.inr1 trivial)
      refine Ok.need (by omega) (Ok.ob (Ok.get (by omega)) fun e _=>Ok.need (by omega) (Ok.ob (Ok.get (by omega)) fun e' _=>Ok.ob (t_ref9Less e e') fun _ _=>Ok.cond (fun _=>Ok.inr2 rfl) fun _=>Ok.inl ?_))
      dsimp only
      exact ⟨⟨rfl,by omega,by omega⟩,by omega⟩
    refine Ok.ob hloop fun y hy=>Ok.two hy (fun _ _=>Ok.ret (fun _=>hcoll)) (fun b hb=>Ok.ret (by omega))
  · repeat' first
      | refine Ok.need (by omega) ?_
      | refine Ok.need2 (by omega) (by omega) ?_
      | refine Ok.fit (by simp only [List.length_append,List.length_cons,List.length_nil,List.length_take,List.length_drop,List.length_set,List.nil_append];omega) ?_
      | refine Ok.ob (Ok.get (by omega)) fun e he=>?_
      | refine Ok.need (by simp only [List.length_append,List.length_cons,List.length_nil,List.length_take,List.length_drop,List.length_set,List.nil_append];omega) ?_
      | refine Ok.ob (Ok.get (by simp only [List.length_append,List.length_cons,List.length_nil,List.length_take,List.length_drop,List.length_set,List.nil_append];omega)) fun e he=>?_
      | refine Ok.or (fun hc=>?_) (fun hc hc2=>?_)
      | refine Ok.dec (fun hc=>?_) (fun hc=>?_)
      | refine Ok.beq (fun hc=>?_) (fun hc=>?_)
      | refine Ok.bne (fun hc=>?_) (fun hc=>?_)
      | refine Ok.cond (fun hc=>?_) (fun hc=>?_)
      | refine Ok.inl ?_
      | refine Ok.inr2 ?_
      | refine Ok.inr1 ?_
      | refine Ok.inr ?_
      | refine Ok.ret ?_
    all_goals first | exact fun _=>hcoll | omega
end Go.Proofs.YtcjpeijiaojeiaaGreat
