/- What acts become: they answer. -/
import Derived.Test.YtcjpeijiaojeiaaGreatDb
namespace Go.Proofs.YtcjpeijiaojeiaaGreat
open Go Go.Ev
set_option maxRecDepth 100000
theorem t_ref11Has (l:List Range)(n:Int)(hl:l.length≤1000000):Ok (ref11Has l n) (fun _=>True):=by
  unfold ref11Has
  have hloop:Ok (L94_2 l n false 0) (Stp (fun _=>True) (fun _=>True)):=by
    refine Ok.iter (fun x=>x.1=l∧0≤x.2.2.2∧x.2.2.2≤(l.length:Int)) (fun x=>l.length - x.2.2.2.toNat) ?_ _ _ ⟨rfl,by dsimp only;omega,by dsimp only;omega⟩ (by dsimp only;omega)
    rintro ⟨l',n',b,i⟩ ⟨h1,h2,h3⟩
    dsimp only at h1 h2 h3
    subst h1
    unfold stp_L94_2 step_L94_2
    dsimp only
    refine Ok.dec (fun hi=>?_) (fun _=>Ok.inr1 trivial)
    have hw:w64 (i+1)=i+1:=w64_ok (by omega)
    repeat' first
      | refine Ok.need (by omega) ?_
      | refine Ok.need2 (by omega) (by omega) ?_
      | refine Ok.fit (by simp only [List.length_append,List.length_cons,List.length_nil,List.length_take,List.length_drop,List.length_set,List.nil_append];omega) ?_
      | refine Ok.ob (Ok.get (by omega)) fun e he=>?_
      | refine Ok.need (by simp only [List.length_append,List.length_cons,List.length_nil,List.length_take,List.length_drop,List.length_set,List.nil_append];omega) ?_
      | refine Ok.ob (Ok.get (by simp only [List.length_append,List.length_cons,List.length_nil,List.length_take,List.length_drop,List.length_set,List.nil_append];omega)) fun e he=>?_
      | refine Ok.or (fun hc=>?_) (fun hc hc2=>?_)
      | refine Ok.dec (fun hc=>?_) (fun hc=>?_)
      | refine Ok.beq (fun hc=>?_) (fun hc=>?_)
      | refine Ok.bne (fun hc=>?_) (fun hc=>?_)
      | refine Ok.cond (fun hc=>?_) (fun hc=>?_)
      | refine Ok.inl ?_
      | refine Ok.inr2 ?_
      | refine Ok.inr1 ?_
      | refine Ok.inr ?_
      | refine Ok.ret ?_
    all_goals first | trivial | (dsimp only;exact ⟨⟨rfl,by omega,by omega⟩,by omega⟩)
  exact Ok.ob hloop fun y hy=>Ok.two hy (fun _ _=>Ok.ret trivial) (fun _ _=>Ok.ret trivial)
theorem t_ref11Len (l:List Range)(hl:l.length≤1000000):Ok (ref11Len l) (fun _=>True):=by
  unfold ref11Len
  have hloop:Ok (L99_3 l 0 0) (fun _=>True):=by
    refine Ok.iter (fun x=>x.1=l∧0≤x.2.2∧x.2.2≤(l.length:Int)) (fun x=>l.length - x.2.2.toNat) ?_ _ _ ⟨rfl,by dsimp only;omega,by dsimp only;omega⟩ (by dsimp only;omega)
    rintro ⟨l',n',i⟩ ⟨h1,h2,h3⟩
    dsimp only at h1 h2 h3
    subst h1
    unfold stp_L99_3 step_L99_3
    dsimp only
    refine Ok.dec (fun hi=>?_) (fun _=>Ok.inr trivial)
    have hw:w64 (i+1)=i+1:=w64_ok (by omega)
    repeat' first
      | refine Ok.need (by omega) ?_
      | refine Ok.need2 (by omega) (by omega) ?_
      | refine Ok.fit (by simp only [List.length_append,List.length_cons,List.length_nil,List.length_take,List.length_drop,List.length_set,List.nil_append];omega) ?_
      | refine Ok.ob (Ok.get (by omega)) fun e he=>?_
      | refine Ok.need (by simp only [List.length_append,List.length_cons,List.length_nil,List.length_take,List.length_drop,List.length_set,List.nil_append];omega) ?_
      | refine Ok.ob (Ok.get (by simp only [List.length_append,List.length_cons,List.length_nil,List.length_take,List.length_drop,List.length_set,List.nil_append];omega)) fun e he=>?_
      | refine Ok.or (fun hc=>?_) (fun hc hc2=>?_)
      | refine Ok.dec (fun hc=>?_) (fun hc=>?_)
      | refine Ok.beq (fun hc=>?_) (fun hc=>?_)
      | refine Ok.bne (fun hc=>?_) (fun hc=>?_)
      | refine Ok.cond (fun hc=>?_) (fun hc=>?_)
      | refine Ok.inl ?_
      | refine Ok.inr2 ?_
      | refine Ok.inr1 ?_
      | refine Ok.inr ?_
      | refine Ok.ret ?_
    all_goals first | trivial | (dsimp only;exact ⟨⟨rfl,by omega,by omega⟩,by omega⟩)
  exact Ok.ob hloop fun y hy=>Ok.ret trivial
/-- of one range -/
theorem t_ref11Len1 (r:Range)(hr:RG r):Ok (ref11Len [r]) (fun n=>n=r.to_ - r.from_):=by
  obtain ⟨h1,h2,h3⟩:=hr
  have e:ref11Len [r]=some (w64 (w64 (0+r.to_) - r.from_)):=by kernel_rfl
  rw [e,w64_ok (n:=0+r.to_) (by omega),w64_ok (by omega)]
  exact Ok.ret (by omega)
theorem t_ref13Included (d:Desk)(v e:Int)(hl:d.log.length≤1000000):Ok (ref13Included d v e) (fun n=>0≤n∧n≤(d.log.length:Int)):=by
  unfold ref13Included
  have hloop:Ok (L54_3 v e 0 0 d) (fun y=>0≤y.1∧y.1≤(d.log.length:Int)):=by
    refine Ok.iter (fun x=>x.2.2.2.2=d∧0≤x.2.2.2.1∧x.2.2.2.1≤(d.log.length:Int)∧0≤x.2.2.1∧x.2.2.1≤x.2.2.2.1) (fun x=>d.log.length - x.2.2.2.1.toNat) ?_ _ _ ⟨rfl,by dsimp only;omega,by dsimp only;omega,by dsimp only;omega,by dsimp only;omega⟩ (by dsimp only;omega)
    rintro ⟨v',e',n,i,d'⟩ ⟨h1,h2,h3,h4,h5⟩
    dsimp only at h1 h2 h3 h4 h5
    subst h1
    unfold stp_L54_3 step_L54_3
    dsimp only
    refine Ok.dec (fun hi=>?_) (fun _=>Ok.inr ⟨h4,by dsimp only;omega⟩)
    have hw:w64 (i+1)=i+1:=w64_ok (by omega)
    have hn:w64 (n+1)=n+1:=w64_ok (by omega)
    refine Ok.need (by omega) (Ok.ob (Ok.get (by omega)) fun o _=>Ok.beq (fun _=>?_) (fun _=>Ok.inl ?_))
    · refine Ok.need (by omega) (Ok.ob (Ok.get (by omega)) fun o' _=>Ok.inl ?_)
      dsimp only
      cases (o'.dot.epoch == e') with
      | true=>simp only [cond_true];exact ⟨⟨trivial,by omega,by omega,by omega,by omega⟩,by omega⟩
      | false=>simp only [cond_false];exact ⟨⟨trivial,by omega,by omega,by omega,by omega⟩,by omega⟩
    · dsimp only
      exact ⟨⟨rfl,by omega,by omega,by omega,by omega⟩,by omega⟩
  exact Ok.ob hloop fun y hy=>Ok.ret hy
theorem t_l12Wants (l:List Want)(hl:l.length≤1000000):Ok (l12Wants l) (fun y=>y.length≤3):=by
  unfold l12Wants
  have hloop:Ok (L53_3 l [] 0) (fun y=>y.length≤3):=by
    refine Ok.iter (fun x=>x.1=l∧0≤x.2.2∧x.2.2≤3∧(x.2.1.length:Int)≤x.2.2∧x.2.2≤(l.length:Int)) (fun x=>l.length - x.2.2.toNat) ?_ _ _ ⟨rfl,by dsimp only;omega,by dsimp only;omega,by simp,by dsimp only;omega⟩ (by dsimp only;omega)
    rintro ⟨l',m,i⟩ ⟨h1,h2,h3,h4,h5⟩
    dsimp only at h1 h2 h3 h4 h5
    subst h1
    unfold stp_L53_3 step_L53_3
    dsimp only
    have h33:([s_a,s_b,s_empty].length:Int)=3:=rfl
    have h34:[s_a,s_b,s_empty].length=3:=rfl
    refine Ok.cond (fun hc=>?_) (fun _=>Ok.inr (by omega))
    by_cases hi:i < (l'.length:Int)
    · rw [decide_eq_true hi,cond_true] at hc
      have hi3:i < 3:=of_decide_eq_true hc
      have hw:w64 (i+1)=i+1:=w64_ok (by omega)
      repeat' first
        | refine Ok.need (by omega) ?_
        | refine Ok.need2 (by omega) (by omega) ?_
        | refine Ok.fit (by simp only [List.length_append,List.length_cons,List.length_nil,List.length_take,List.length_drop,List.length_set,List.nil_append];omega) ?_
        | refine Ok.ob (Ok.get (by omega)) fun e he=>?_
        | refine Ok.need (by simp only [List.length_append,List.length_cons,List.length_nil,List.length_take,List.length_drop,List.length_set,List.nil_append];omega) ?_
        | refine Ok.ob (Ok.get (by simp only [List.length_append,List.length_cons,List.length_nil,List.length_take,List.length_drop,List.length_set,List.nil_append];omega)) fun e he=>?_
        | refine Ok.ob (t_within12 (by omega) (by omega)) fun y hy=>?_
        | refine Ok.or (fun hc=>?_) (fun hc hc2=>?_)
        | refine Ok.dec (fun hc=>?_) (fun hc=>?_)
        | refine Ok.beq (fun hc=>?_) (fun hc=>?_)
        | refine Ok.bne (fun hc=>?_) (fun hc=>?_)
        | refine Ok.cond (fun hc=>?_) (fun hc=>?_)
        | refine Ok.inl ?_
        | refine Ok.inr2 ?_
        | refine Ok.inr1 ?_
        | refine Ok.inr ?_
        | refine Ok.ret ?_
      all_goals (dsimp only;rw [List.length_append,List.length_singleton];exact ⟨⟨rfl,by omega,by omega,by omega,by omega⟩,by omega⟩)
    · rw [decide_eq_false hi,cond_false] at hc;cases hc
  exact Ok.ob hloop fun y hy=>Ok.ret hy
theorem t_l9Good (o:Op):Ok (l9Good o) (fun y=>y.dots.length≤8):=by
  unfold l9Good
  have h33:([s_a,s_b,s_x].length:Int)=3:=rfl
  have h34:[s_a,s_b,s_x].length=3:=rfl
  have h43:([s_empty,s_t,s_U_20,s__20v].length:Int)=4:=rfl
  have h44:[s_empty,s_t,s_U_20,s__20v].length=4:=rfl
  refine Ok.ob (t_within9 (by omega) (by omega)) fun r0 h0=>Ok.ob (t_within9 (by omega) (by omega)) fun r1 h1=>Ok.ob (t_within9 (by omega) (by omega)) fun r2 h2=>Ok.ob (t_within9 (by omega) (by omega)) fun r3 h3=>Ok.ob (t_within9 (by omega) (by omega)) fun r4 h4=>Ok.ob (t_within9 (by omega) (by omega)) fun r5 h5=>Ok.ob (t_within9 (by omega) (by omega)) fun r6 h6=>Ok.ob (t_within9 (by omega) (by omega)) fun r7 h7=>?_
  refine Ok.need (by omega) (Ok.need (by omega) (Ok.ob (Ok.get (by omega)) fun e8 _=>Ok.ob (t_within9 (by omega) (by omega)) fun r9 h9=>Ok.need (by omega) (Ok.need (by omega) (Ok.ob (Ok.get (by omega)) fun e10 _=>?_))))
  refine Ok.ob (P:=fun y=>y.1.length≤8) ?_ fun y hy8=>?_
  · refine Ok.iter (fun x=>0≤x.2.1∧x.2.1≤8∧(x.1.length:Int)≤x.2.1) (fun x=>8 - x.2.1.toNat) ?_ _ _ ⟨by dsimp only;omega,by dsimp only;omega,by simp⟩ (by dsimp only;omega)
    rintro ⟨l,i,o1,o2⟩ ⟨g1,g2,g3⟩
    dsimp only at g1 g2 g3
    unfold stp_L55_6 step_L55_6
    dsimp only
    refine Ok.cond (fun hc=>?_) (fun _=>Ok.inr (by dsimp only;omega))
    by_cases hi:i < (o1.dots.length:Int)
    · by_cases hi8:i < 8
      · clear hc
        have hw:w64 (i+1)=i+1:=w64_ok (by omega)
        refine Ok.need (by omega) (Ok.ob (Ok.get (by omega)) fun e0 _=>Ok.ob (t_within9 (by omega) (by omega)) fun q1 _=>Ok.need (by omega) (Ok.ob (Ok.get (by omega)) fun e2 _=>Ok.ob (t_within9 (by omega) (by omega)) fun q3 _=>Ok.need (by omega) (Ok.ob (Ok.get (by omega)) fun e4 _=>Ok.ob (t_within9 (by omega) (by omega)) fun q5 _=>?_)))
        refine Ok.ob (P:=fun y=>y.1=l∧y.2.1=i∧0≤y.2.2.1∧y.2.2.1≤(l.length:Int)) ?_ fun y hy=>?_
        · refine Ok.iter (fun x=>x.1=l∧x.2.1=i∧0≤x.2.2.1∧x.2.2.1≤(l.length:Int)) (fun x=>l.length - x.2.2.1.toNat) ?_ _ _ ⟨rfl,rfl,by dsimp only;omega,by dsimp only;omega⟩ (by dsimp only;omega)
          rintro ⟨l',i',k,p1,p2,p3⟩ ⟨f1,f2,f3,f4⟩
          dsimp only at f1 f2 f3 f4
          subst f1;subst f2
          unfold stp_L55_10 step_L55_10
          dsimp only
          refine Ok.dec (fun hk=>?_) (fun _=>Ok.inr ⟨rfl,rfl,f3,f4⟩)
          have hwk:w64 (k+1)=k+1:=w64_ok (by omega)
          refine Ok.need (by omega) (Ok.ob (Ok.get (by omega)) fun e _=>Ok.ob (t_ref9Less _ _) fun _ _=>Ok.cond (fun _=>Ok.inl ?_) (fun _=>Ok.inr ⟨rfl,rfl,f3,f4⟩))
          dsimp only
          exact ⟨⟨rfl,rfl,by omega,by omega⟩,by omega⟩
        · obtain ⟨y1,y2,k,y3⟩:=y
          obtain ⟨f1,f2,f3,f4⟩:=hy
          dsimp only at f1 f2 f3 f4
          subst f1;subst f2
          dsimp only
          refine Ok.dec (fun hk=>?_) (fun hk=>?_)
          · refine Ok.need (by omega) (Ok.ob (Ok.get (by omega)) fun e _=>Ok.cond (fun _=>Ok.inl ?_) fun _=>?_)
            · dsimp only
              exact ⟨⟨by omega,by omega,by omega⟩,by omega⟩
            · refine Ok.need (by omega) (Ok.need (by omega) (Ok.fit (by simp only [List.length_append,List.length_cons,List.length_nil,List.length_take,List.length_drop,List.length_set,List.nil_append];omega) (Ok.fit (by simp only [List.length_append,List.length_cons,List.length_nil,List.length_take,List.length_drop,List.length_set,List.nil_append];omega) (Ok.need (by omega) (Ok.need (by omega) (Ok.need (by omega) (Ok.fit (by simp only [List.length_append,List.length_cons,List.length_nil,List.length_take,List.length_drop,List.length_set,List.nil_append];omega) (Ok.inl ?_))))))))
              dsimp only
              simp only [List.length_append,List.length_cons,List.length_nil,List.length_take,List.length_drop,List.nil_append]
              exact ⟨⟨by omega,by omega,by omega⟩,by omega⟩
          · refine Ok.need (by omega) (Ok.need (by omega) (Ok.fit (by simp only [List.length_append,List.length_cons,List.length_nil,List.length_take,List.length_drop,List.length_set,List.nil_append];omega) (Ok.fit (by simp only [List.length_append,List.length_cons,List.length_nil,List.length_take,List.length_drop,List.length_set,List.nil_append];omega) (Ok.need (by omega) (Ok.need (by omega) (Ok.need (by omega) (Ok.fit (by simp only [List.length_append,List.length_cons,List.length_nil,List.length_take,List.length_drop,List.length_set,List.nil_append];omega) (Ok.inl ?_))))))))
            dsimp only
            simp only [List.length_append,List.length_cons,List.length_nil,List.length_take,List.length_drop,List.nil_append]
            exact ⟨⟨by omega,by omega,by omega⟩,by omega⟩
      · rw [decide_eq_true hi,decide_eq_false hi8] at hc;cases hc
    · rw [decide_eq_false hi] at hc;cases hc
  · repeat' first
      | refine Ok.need (by omega) ?_
      | refine Ok.need2 (by omega) (by omega) ?_
      | refine Ok.fit (by simp only [List.length_append,List.length_cons,List.length_nil,List.length_take,List.length_drop,List.length_set,List.nil_append];omega) ?_
      | refine Ok.ob (Ok.get (by omega)) fun e he=>?_
      | refine Ok.need (by simp only [List.length_append,List.length_cons,List.length_nil,List.length_take,List.length_drop,List.length_set,List.nil_append];omega) ?_
      | refine Ok.ob (Ok.get (by simp only [List.length_append,List.length_cons,List.length_nil,List.length_take,List.length_drop,List.length_set,List.nil_append];omega)) fun e he=>?_
      | refine Ok.ob (t_within9 (by omega) (by omega)) fun y hy=>?_
      | refine Ok.or (fun hc=>?_) (fun hc hc2=>?_)
      | refine Ok.dec (fun hc=>?_) (fun hc=>?_)
      | refine Ok.beq (fun hc=>?_) (fun hc=>?_)
      | refine Ok.bne (fun hc=>?_) (fun hc=>?_)
      | refine Ok.cond (fun hc=>?_) (fun hc=>?_)
      | refine Ok.inl ?_
      | refine Ok.inr2 ?_
      | refine Ok.inr1 ?_
      | refine Ok.inr ?_
      | refine Ok.ret ?_
    all_goals exact hy8
end Go.Proofs.YtcjpeijiaojeiaaGreat
