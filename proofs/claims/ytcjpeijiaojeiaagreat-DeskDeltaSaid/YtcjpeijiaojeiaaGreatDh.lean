/- Collections: they answer, within bounds. -/
import Derived.Test.YtcjpeijiaojeiaaGreatDg
namespace Go.Proofs.YtcjpeijiaojeiaaGreat
open Go Go.Ev
set_option maxRecDepth 100000
theorem t_7Get (l:List Entry)(v e:Int)(hl:l.length≤1000000):Ok (ref7Get l v e) (fun _=>True):=by
  unfold ref7Get
  have hloop:Ok (L228_2 l v e 0 0) (Stp (fun _=>True) (fun _=>True)):=by
    refine Ok.iter (fun x=>x.1=l∧0≤x.2.2.2.2∧x.2.2.2.2≤(l.length:Int)) (fun x=>l.length - x.2.2.2.2.toNat) ?_ _ _ ⟨rfl,by dsimp only;omega,by dsimp only;omega⟩ (by dsimp only;omega)
    rintro ⟨l',v',e',n,i⟩ ⟨h1,h2,h3⟩
    dsimp only at h1 h2 h3
    subst h1
    unfold stp_L228_2 step_L228_2
    dsimp only
    refine Ok.dec (fun hi=>?_) (fun _=>Ok.inr1 trivial)
    have hw:w64 (i+1)=i+1:=w64_ok (by omega)
    repeat' first
      | refine Ok.need (by omega) ?_
      | refine Ok.need2 (by omega) (by omega) ?_
      | refine Ok.fit (by simp only [List.length_append,List.length_cons,List.length_nil,List.length_take,List.length_drop,List.length_set,List.nil_append]<;>omega) ?_
      | refine Ok.ob (Ok.get (by omega)) fun e he=>?_
      | refine Ok.need (by simp only [List.length_append,List.length_cons,List.length_nil,List.length_take,List.length_drop,List.length_set,List.nil_append]<;>omega) ?_
      | refine Ok.ob (Ok.get (by simp only [List.length_append,List.length_cons,List.length_nil,List.length_take,List.length_drop,List.length_set,List.nil_append]<;>omega)) fun e he=>?_
      | refine Ok.or (fun hc=>?_) (fun hc hc2=>?_)
      | refine Ok.dec (fun hc=>?_) (fun hc=>?_)
      | refine Ok.beq (fun hc=>?_) (fun hc=>?_)
      | refine Ok.bne (fun hc=>?_) (fun hc=>?_)
      | refine Ok.cond (fun hc=>?_) (fun hc=>?_)
      | refine Ok.inl ?_
      | refine Ok.inr2 ?_
      | refine Ok.inr1 ?_
      | refine Ok.inr ?_
      | refine Ok.ret ?_
    all_goals first | trivial | (dsimp only;exact ⟨⟨rfl,by omega,by omega⟩,by omega⟩)
  exact Ok.ob hloop fun y hy=>Ok.two hy (fun _ _=>Ok.ret trivial) (fun _ _=>Ok.ret trivial)
theorem t_7Has (l:List Entry)(d:Entry)(hl:l.length≤1000000):Ok (ref7Has l d) (fun _=>True):=by
  unfold ref7Has
  repeat' first
    | refine Ok.need (by omega) ?_
    | refine Ok.need2 (by omega) (by omega) ?_
    | refine Ok.fit (by simp only [List.length_append,List.length_cons,List.length_nil,List.length_take,List.length_drop,List.length_set,List.nil_append]<;>omega) ?_
    | refine Ok.ob (Ok.get (by omega)) fun e he=>?_
    | refine Ok.need (by simp only [List.length_append,List.length_cons,List.length_nil,List.length_take,List.length_drop,List.length_set,List.nil_append]<;>omega) ?_
    | refine Ok.ob (Ok.get (by simp only [List.length_append,List.length_cons,List.length_nil,List.length_take,List.length_drop,List.length_set,List.nil_append]<;>omega)) fun e he=>?_
    | refine Ok.ob (t_7Get _ _ _ hl) fun y hy=>?_
    | refine Ok.or (fun hc=>?_) (fun hc hc2=>?_)
    | refine Ok.dec (fun hc=>?_) (fun hc=>?_)
    | refine Ok.beq (fun hc=>?_) (fun hc=>?_)
    | refine Ok.bne (fun hc=>?_) (fun hc=>?_)
    | refine Ok.cond (fun hc=>?_) (fun hc=>?_)
    | refine Ok.inl ?_
    | refine Ok.inr2 ?_
    | refine Ok.inr1 ?_
    | refine Ok.inr ?_
    | refine Ok.ret ?_
  all_goals trivial
theorem t_7less (a b:Entry):Ok (ref7_less a b) (fun _=>True):=by
  unfold ref7_less
  exact Ok.ret trivial
theorem t_10in (l:List Entry)(d:Entry)(hl:l.length≤1000000):Ok (ref10_in l d) (fun _=>True):=by
  unfold ref10_in
  have hloop:Ok (L170_2 l false 0 d) (Stp (fun _=>True) (fun _=>True)):=by
    refine Ok.iter (fun x=>x.1=l∧0≤x.2.2.1∧x.2.2.1≤(l.length:Int)) (fun x=>l.length - x.2.2.1.toNat) ?_ _ _ ⟨rfl,by dsimp only;omega,by dsimp only;omega⟩ (by dsimp only;omega)
    rintro ⟨l',b,i,d'⟩ ⟨h1,h2,h3⟩
    dsimp only at h1 h2 h3
    subst h1
    unfold stp_L170_2 step_L170_2
    dsimp only
    refine Ok.dec (fun hi=>?_) (fun _=>Ok.inr1 trivial)
    have hw:w64 (i+1)=i+1:=w64_ok (by omega)
    repeat' first
      | refine Ok.need (by omega) ?_
      | refine Ok.need2 (by omega) (by omega) ?_
      | refine Ok.fit (by simp only [List.length_append,List.length_cons,List.length_nil,List.length_take,List.length_drop,List.length_set,List.nil_append]<;>omega) ?_
      | refine Ok.ob (Ok.get (by omega)) fun e he=>?_
      | refine Ok.need (by simp only [List.length_append,List.length_cons,List.length_nil,List.length_take,List.length_drop,List.length_set,List.nil_append]<;>omega) ?_
      | refine Ok.ob (Ok.get (by simp only [List.length_append,List.length_cons,List.length_nil,List.length_take,List.length_drop,List.length_set,List.nil_append]<;>omega)) fun e he=>?_
      | refine Ok.or (fun hc=>?_) (fun hc hc2=>?_)
      | refine Ok.dec (fun hc=>?_) (fun hc=>?_)
      | refine Ok.beq (fun hc=>?_) (fun hc=>?_)
      | refine Ok.bne (fun hc=>?_) (fun hc=>?_)
      | refine Ok.cond (fun hc=>?_) (fun hc=>?_)
      | refine Ok.inl ?_
      | refine Ok.inr2 ?_
      | refine Ok.inr1 ?_
      | refine Ok.inr ?_
      | refine Ok.ret ?_
    all_goals first | trivial | (dsimp only;exact ⟨⟨rfl,by omega,by omega⟩,by omega⟩)
  exact Ok.ob hloop fun y hy=>Ok.two hy (fun _ _=>Ok.ret trivial) (fun _ _=>Ok.ret trivial)
theorem t_10ahead (a b:Elem):Ok (ref10_ahead a b) (fun _=>True):=by
  unfold ref10_ahead
  repeat' first
    | refine Ok.need (by omega) ?_
    | refine Ok.need2 (by omega) (by omega) ?_
    | refine Ok.fit (by simp only [List.length_append,List.length_cons,List.length_nil,List.length_take,List.length_drop,List.length_set,List.nil_append]<;>omega) ?_
    | refine Ok.ob (Ok.get (by omega)) fun e he=>?_
    | refine Ok.need (by simp only [List.length_append,List.length_cons,List.length_nil,List.length_take,List.length_drop,List.length_set,List.nil_append]<;>omega) ?_
    | refine Ok.ob (Ok.get (by simp only [List.length_append,List.length_cons,List.length_nil,List.length_take,List.length_drop,List.length_set,List.nil_append]<;>omega)) fun e he=>?_
    | refine Ok.ob (t_ref9Less _ _) fun y hy=>?_
    | refine Ok.or (fun hc=>?_) (fun hc hc2=>?_)
    | refine Ok.dec (fun hc=>?_) (fun hc=>?_)
    | refine Ok.beq (fun hc=>?_) (fun hc=>?_)
    | refine Ok.bne (fun hc=>?_) (fun hc=>?_)
    | refine Ok.cond (fun hc=>?_) (fun hc=>?_)
    | refine Ok.inl ?_
    | refine Ok.inr2 ?_
    | refine Ok.inr1 ?_
    | refine Ok.inr ?_
    | refine Ok.ret ?_
  all_goals trivial
theorem t_7put (l:List Entry)(e:Entry)(hl:l.length≤1000000):Ok (ref7_put l e) (fun y=>y.length≤l.length+1):=by
  unfold ref7_put
  have hloop:Ok (L202_2 l 0 e) (fun y=>y.1=l∧0≤y.2.1∧y.2.1≤(l.length:Int)):=by
    refine Ok.iter (fun x=>x.1=l∧0≤x.2.1∧x.2.1≤(l.length:Int)) (fun x=>l.length - x.2.1.toNat) ?_ _ _ ⟨rfl,by dsimp only;omega,by dsimp only;omega⟩ (by dsimp only;omega)
    rintro ⟨l',i,q⟩ ⟨h1,h2,h3⟩
    dsimp only at h1 h2 h3
    subst h1
    unfold stp_L202_2 step_L202_2
    dsimp only
    refine Ok.dec (fun hi=>?_) (fun _=>Ok.inr ⟨rfl,h2,h3⟩)
    have hw:w64 (i+1)=i+1:=w64_ok (by omega)
    repeat' first
      | refine Ok.need (by omega) ?_
      | refine Ok.need2 (by omega) (by omega) ?_
      | refine Ok.fit (by simp only [List.length_append,List.length_cons,List.length_nil,List.length_take,List.length_drop,List.length_set,List.nil_append]<;>omega) ?_
      | refine Ok.ob (Ok.get (by omega)) fun e he=>?_
      | refine Ok.need (by simp only [List.length_append,List.length_cons,List.length_nil,List.length_take,List.length_drop,List.length_set,List.nil_append]<;>omega) ?_
      | refine Ok.ob (Ok.get (by simp only [List.length_append,List.length_cons,List.length_nil,List.length_take,List.length_drop,List.length_set,List.nil_append]<;>omega)) fun e he=>?_
      | refine Ok.ob (t_7less _ _) fun y hy=>?_
      | refine Ok.or (fun hc=>?_) (fun hc hc2=>?_)
      | refine Ok.dec (fun hc=>?_) (fun hc=>?_)
      | refine Ok.beq (fun hc=>?_) (fun hc=>?_)
      | refine Ok.bne (fun hc=>?_) (fun hc=>?_)
      | refine Ok.cond (fun hc=>?_) (fun hc=>?_)
      | refine Ok.inl ?_
      | refine Ok.inr2 ?_
      | refine Ok.inr1 ?_
      | refine Ok.inr ?_
      | refine Ok.ret ?_
    · dsimp only;exact ⟨⟨rfl,by omega,by omega⟩,by omega⟩
    · exact ⟨rfl,h2,h3⟩
  refine Ok.ob hloop fun y hy=>?_
  obtain ⟨l',i,q⟩:=y
  obtain ⟨h1,h2,h3⟩:=hy
  dsimp only at h1 h2 h3
  subst h1
  dsimp only
  have hw:i < (l'.length:Int)→w64 (i+1)=i+1:=fun _=>w64_ok (by omega)
  refine Ok.need (by omega) (Ok.need (by omega) (Ok.fit (by simp only [List.length_append,List.length_cons,List.length_nil,List.length_take,List.length_drop,List.length_set,List.nil_append]<;>omega) (Ok.fit (by simp only [List.length_append,List.length_cons,List.length_nil,List.length_take,List.length_drop,List.length_set,List.nil_append]<;>omega) ?_)))
  by_cases hi:i < (l'.length:Int)
  · have hw:=hw hi
    refine Ok.need hi (Ok.need (by omega) (Ok.ob (Ok.get (by omega)) fun e _=>Ok.ob (t_7less _ _) fun r _=>?_))
    cases r with
    | true =>
      simp only [Bool.not_true,cond_false]
      repeat' first
        | refine Ok.need (by omega) ?_
        | refine Ok.need2 (by omega) (by omega) ?_
        | refine Ok.fit (by simp only [List.length_append,List.length_cons,List.length_nil,List.length_take,List.length_drop,List.length_set,List.nil_append]<;>omega) ?_
        | refine Ok.ob (Ok.get (by omega)) fun e he=>?_
        | refine Ok.need (by simp only [List.length_append,List.length_cons,List.length_nil,List.length_take,List.length_drop,List.length_set,List.nil_append]<;>omega) ?_
        | refine Ok.ob (Ok.get (by simp only [List.length_append,List.length_cons,List.length_nil,List.length_take,List.length_drop,List.length_set,List.nil_append]<;>omega)) fun e he=>?_
        | refine Ok.or (fun hc=>?_) (fun hc hc2=>?_)
        | refine Ok.dec (fun hc=>?_) (fun hc=>?_)
        | refine Ok.beq (fun hc=>?_) (fun hc=>?_)
        | refine Ok.bne (fun hc=>?_) (fun hc=>?_)
        | refine Ok.cond (fun hc=>?_) (fun hc=>?_)
        | refine Ok.inl ?_
        | refine Ok.inr2 ?_
        | refine Ok.inr1 ?_
        | refine Ok.inr ?_
        | refine Ok.ret ?_
      all_goals simp only [List.length_append,List.length_cons,List.length_nil,List.length_take,List.length_drop,List.length_set,List.nil_append]<;>omega
    | false =>
      simp only [Bool.not_false,cond_true]
      repeat' first
        | refine Ok.need (by omega) ?_
        | refine Ok.need2 (by omega) (by omega) ?_
        | refine Ok.fit (by simp only [List.length_append,List.length_cons,List.length_nil,List.length_take,List.length_drop,List.length_set,List.nil_append]<;>omega) ?_
        | refine Ok.ob (Ok.get (by omega)) fun e he=>?_
        | refine Ok.need (by simp only [List.length_append,List.length_cons,List.length_nil,List.length_take,List.length_drop,List.length_set,List.nil_append]<;>omega) ?_
        | refine Ok.ob (Ok.get (by simp only [List.length_append,List.length_cons,List.length_nil,List.length_take,List.length_drop,List.length_set,List.nil_append]<;>omega)) fun e he=>?_
        | refine Ok.or (fun hc=>?_) (fun hc hc2=>?_)
        | refine Ok.dec (fun hc=>?_) (fun hc=>?_)
        | refine Ok.beq (fun hc=>?_) (fun hc=>?_)
        | refine Ok.bne (fun hc=>?_) (fun hc=>?_)
        | refine Ok.cond (fun hc=>?_) (fun hc=>?_)
        | refine Ok.inl ?_
        | refine Ok.inr2 ?_
        | refine Ok.inr1 ?_
        | refine Ok.inr ?_
        | refine Ok.ret ?_
      all_goals simp only [List.length_append,List.length_cons,List.length_nil,List.length_take,List.length_drop,List.length_set,List.nil_append]<;>omega
  · repeat' first
      | refine Ok.need (by omega) ?_
      | refine Ok.need2 (by omega) (by omega) ?_
      | refine Ok.fit (by simp only [List.length_append,List.length_cons,List.length_nil,List.length_take,List.length_drop,List.length_set,List.nil_append]<;>omega) ?_
      | refine Ok.ob (Ok.get (by omega)) fun e he=>?_
      | refine Ok.need (by simp only [List.length_append,List.length_cons,List.length_nil,List.length_take,List.length_drop,List.length_set,List.nil_append]<;>omega) ?_
      | refine Ok.ob (Ok.get (by simp only [List.length_append,List.length_cons,List.length_nil,List.length_take,List.length_drop,List.length_set,List.nil_append]<;>omega)) fun e he=>?_
      | refine Ok.or (fun hc=>?_) (fun hc hc2=>?_)
      | refine Ok.dec (fun hc=>?_) (fun hc=>?_)
      | refine Ok.beq (fun hc=>?_) (fun hc=>?_)
      | refine Ok.bne (fun hc=>?_) (fun hc=>?_)
      | refine Ok.cond (fun hc=>?_) (fun hc=>?_)
      | refine Ok.inl ?_
      | refine Ok.inr2 ?_
      | refine Ok.inr1 ?_
      | refine Ok.inr ?_
      | refine Ok.ret ?_
    all_goals simp only [List.length_append,List.length_cons,List.length_nil,List.length_take,List.length_drop,List.length_set,List.nil_append]<;>omega
theorem t_10set (l:List Reg)(o:Op)(hl:l.length≤1000000):Ok (ref10_set l o) (fun y=>y.length≤l.length+1):=by
  unfold ref10_set
  have hloop:Ok (L169_3 l 0 o (Reg.mk o.key o.text o.ver o.time o.dot)) (fun y=>y.1=l∧0≤y.2.1∧y.2.1≤(l.length:Int)):=by
    refine Ok.iter (fun x=>x.1=l∧0≤x.2.1∧x.2.1≤(l.length:Int)) (fun x=>l.length - x.2.1.toNat) ?_ _ _ ⟨rfl,by dsimp only;omega,by dsimp only;omega⟩ (by dsimp only;omega)
    rintro ⟨l',i,p,q⟩ ⟨h1,h2,h3⟩
    dsimp only at h1 h2 h3
    subst h1
    unfold stp_L169_3 step_L169_3
    dsimp only
    refine Ok.dec (fun hi=>?_) (fun _=>Ok.inr ⟨rfl,h2,h3⟩)
    have hw:w64 (i+1)=i+1:=w64_ok (by omega)
    repeat' first
      | refine Ok.need (by omega) ?_
      | refine Ok.need2 (by omega) (by omega) ?_
      | refine Ok.fit (by simp only [List.length_append,List.length_cons,List.length_nil,List.length_take,List.length_drop,List.length_set,List.nil_append]<;>omega) ?_
      | refine Ok.ob (Ok.get (by omega)) fun e he=>?_
      | refine Ok.need (by simp only [List.length_append,List.length_cons,List.length_nil,List.length_take,List.length_drop,List.length_set,List.nil_append]<;>omega) ?_
      | refine Ok.ob (Ok.get (by simp only [List.length_append,List.length_cons,List.length_nil,List.length_take,List.length_drop,List.length_set,List.nil_append]<;>omega)) fun e he=>?_
      | refine Ok.or (fun hc=>?_) (fun hc hc2=>?_)
      | refine Ok.dec (fun hc=>?_) (fun hc=>?_)
      | refine Ok.beq (fun hc=>?_) (fun hc=>?_)
      | refine Ok.bne (fun hc=>?_) (fun hc=>?_)
      | refine Ok.cond (fun hc=>?_) (fun hc=>?_)
      | refine Ok.inl ?_
      | refine Ok.inr2 ?_
      | refine Ok.inr1 ?_
      | refine Ok.inr ?_
      | refine Ok.ret ?_
    · dsimp only;exact ⟨⟨rfl,by omega,by omega⟩,by omega⟩
    · exact ⟨rfl,h2,h3⟩
  refine Ok.ob hloop fun y hy=>?_
  obtain ⟨l',i,q⟩:=y
  obtain ⟨h1,h2,h3⟩:=hy
  dsimp only at h1 h2 h3
  subst h1
  dsimp only
  have hw:i < (l'.length:Int)→w64 (i+1)=i+1:=fun _=>w64_ok (by omega)
  refine Ok.need (by omega) (Ok.need (by omega) (Ok.fit (by simp only [List.length_append,List.length_cons,List.length_nil,List.length_take,List.length_drop,List.length_set,List.nil_append]<;>omega) ?_))
  by_cases hi:i < (l'.length:Int)
  · have hw:=hw hi
    repeat' first
      | refine Ok.need (by omega) ?_
      | refine Ok.need2 (by omega) (by omega) ?_
      | refine Ok.fit (by simp only [List.length_append,List.length_cons,List.length_nil,List.length_take,List.length_drop,List.length_set,List.nil_append]<;>omega) ?_
      | refine Ok.ob (Ok.get (by omega)) fun e he=>?_
      | refine Ok.need (by simp only [List.length_append,List.length_cons,List.length_nil,List.length_take,List.length_drop,List.length_set,List.nil_append]<;>omega) ?_
      | refine Ok.ob (Ok.get (by simp only [List.length_append,List.length_cons,List.length_nil,List.length_take,List.length_drop,List.length_set,List.nil_append]<;>omega)) fun e he=>?_
      | refine Ok.ob (t_ref9Less _ _) fun y hy=>?_
      | refine Ok.or (fun hc=>?_) (fun hc hc2=>?_)
      | refine Ok.dec (fun hc=>?_) (fun hc=>?_)
      | refine Ok.beq (fun hc=>?_) (fun hc=>?_)
      | refine Ok.bne (fun hc=>?_) (fun hc=>?_)
      | refine Ok.cond (fun hc=>?_) (fun hc=>?_)
      | refine Ok.inl ?_
      | refine Ok.inr2 ?_
      | refine Ok.inr1 ?_
      | refine Ok.inr ?_
      | refine Ok.ret ?_
    all_goals simp only [List.length_append,List.length_cons,List.length_nil,List.length_take,List.length_drop,List.length_set,List.nil_append]<;>omega
  · repeat' first
      | refine Ok.need (by omega) ?_
      | refine Ok.need2 (by omega) (by omega) ?_
      | refine Ok.fit (by simp only [List.length_append,List.length_cons,List.length_nil,List.length_take,List.length_drop,List.length_set,List.nil_append]<;>omega) ?_
      | refine Ok.ob (Ok.get (by omega)) fun e he=>?_
      | refine Ok.need (by simp only [List.length_append,List.length_cons,List.length_nil,List.length_take,List.length_drop,List.length_set,List.nil_append]<;>omega) ?_
      | refine Ok.ob (Ok.get (by simp only [List.length_append,List.length_cons,List.length_nil,List.length_take,List.length_drop,List.length_set,List.nil_append]<;>omega)) fun e he=>?_
      | refine Ok.or (fun hc=>?_) (fun hc hc2=>?_)
      | refine Ok.dec (fun hc=>?_) (fun hc=>?_)
      | refine Ok.beq (fun hc=>?_) (fun hc=>?_)
      | refine Ok.bne (fun hc=>?_) (fun hc=>?_)
      | refine Ok.cond (fun hc=>?_) (fun hc=>?_)
      | refine Ok.inl ?_
      | refine Ok.inr2 ?_
      | refine Ok.inr1 ?_
      | refine Ok.inr ?_
      | refine Ok.ret ?_
    all_goals simp only [List.length_append,List.length_cons,List.length_nil,List.length_take,List.length_drop,List.length_set,List.nil_append]<;>omega
theorem t_10add (l:List Elem)(o:Op)(hl:l.length≤1000000):Ok (ref10_add l o) (fun y=>y.length≤l.length+1):=by
  unfold ref10_add
  have hloop:Ok (L171_3 l 0 (Elem.mk o.key o.text o.ver o.dot)) (fun y=>y.1=l∧0≤y.2.1∧y.2.1≤(l.length:Int)):=by
    refine Ok.iter (fun x=>x.1=l∧0≤x.2.1∧x.2.1≤(l.length:Int)) (fun x=>l.length - x.2.1.toNat) ?_ _ _ ⟨rfl,by dsimp only;omega,by dsimp only;omega⟩ (by dsimp only;omega)
    rintro ⟨l',i,q⟩ ⟨h1,h2,h3⟩
    dsimp only at h1 h2 h3
    subst h1
    unfold stp_L171_3 step_L171_3
    dsimp only
    refine Ok.dec (fun hi=>?_) (fun _=>Ok.inr ⟨rfl,h2,h3⟩)
    have hw:w64 (i+1)=i+1:=w64_ok (by omega)
    repeat' first
      | refine Ok.need (by omega) ?_
      | refine Ok.need2 (by omega) (by omega) ?_
      | refine Ok.fit (by simp only [List.length_append,List.length_cons,List.length_nil,List.length_take,List.length_drop,List.length_set,List.nil_append]<;>omega) ?_
      | refine Ok.ob (Ok.get (by omega)) fun e he=>?_
      | refine Ok.need (by simp only [List.length_append,List.length_cons,List.length_nil,List.length_take,List.length_drop,List.length_set,List.nil_append]<;>omega) ?_
      | refine Ok.ob (Ok.get (by simp only [List.length_append,List.length_cons,List.length_nil,List.length_take,List.length_drop,List.length_set,List.nil_append]<;>omega)) fun e he=>?_
      | refine Ok.ob (t_10ahead _ _) fun y hy=>?_
      | refine Ok.or (fun hc=>?_) (fun hc hc2=>?_)
      | refine Ok.dec (fun hc=>?_) (fun hc=>?_)
      | refine Ok.beq (fun hc=>?_) (fun hc=>?_)
      | refine Ok.bne (fun hc=>?_) (fun hc=>?_)
      | refine Ok.cond (fun hc=>?_) (fun hc=>?_)
      | refine Ok.inl ?_
      | refine Ok.inr2 ?_
      | refine Ok.inr1 ?_
      | refine Ok.inr ?_
      | refine Ok.ret ?_
    · dsimp only;exact ⟨⟨rfl,by omega,by omega⟩,by omega⟩
    · exact ⟨rfl,h2,h3⟩
  refine Ok.ob hloop fun y hy=>?_
  obtain ⟨l',i,q⟩:=y
  obtain ⟨h1,h2,h3⟩:=hy
  dsimp only at h1 h2 h3
  subst h1
  dsimp only
  have hw:i < (l'.length:Int)→w64 (i+1)=i+1:=fun _=>w64_ok (by omega)
  repeat' first
    | refine Ok.need (by omega) ?_
    | refine Ok.need2 (by omega) (by omega) ?_
    | refine Ok.fit (by simp only [List.length_append,List.length_cons,List.length_nil,List.length_take,List.length_drop,List.length_set,List.nil_append]<;>omega) ?_
    | refine Ok.ob (Ok.get (by omega)) fun e he=>?_
    | refine Ok.need (by simp only [List.length_append,List.length_cons,List.length_nil,List.length_take,List.length_drop,List.length_set,List.nil_append]<;>omega) ?_
    | refine Ok.ob (Ok.get (by simp only [List.length_append,List.length_cons,List.length_nil,List.length_take,List.length_drop,List.length_set,List.nil_append]<;>omega)) fun e he=>?_
    | refine Ok.or (fun hc=>?_) (fun hc hc2=>?_)
    | refine Ok.dec (fun hc=>?_) (fun hc=>?_)
    | refine Ok.beq (fun hc=>?_) (fun hc=>?_)
    | refine Ok.bne (fun hc=>?_) (fun hc=>?_)
    | refine Ok.cond (fun hc=>?_) (fun hc=>?_)
    | refine Ok.inl ?_
    | refine Ok.inr2 ?_
    | refine Ok.inr1 ?_
    | refine Ok.inr ?_
    | refine Ok.ret ?_
  all_goals simp only [List.length_append,List.length_cons,List.length_nil,List.length_take,List.length_drop,List.length_set,List.nil_append]<;>omega
theorem t_10count (l:List Sum)(o:Op)(hl:l.length≤1000000):Ok (ref10_count l o) (fun y=>y.length≤l.length+1):=by
  unfold ref10_count
  have hloop:Ok (L173_3 l 0 o (Sum.mk o.key o.n)) (fun y=>y.1=l∧0≤y.2.1∧y.2.1≤(l.length:Int)):=by
    refine Ok.iter (fun x=>x.1=l∧0≤x.2.1∧x.2.1≤(l.length:Int)) (fun x=>l.length - x.2.1.toNat) ?_ _ _ ⟨rfl,by dsimp only;omega,by dsimp only;omega⟩ (by dsimp only;omega)
    rintro ⟨l',i,p,q⟩ ⟨h1,h2,h3⟩
    dsimp only at h1 h2 h3
    subst h1
    unfold stp_L173_3 step_L173_3
    dsimp only
    refine Ok.dec (fun hi=>?_) (fun _=>Ok.inr ⟨rfl,h2,h3⟩)
    have hw:w64 (i+1)=i+1:=w64_ok (by omega)
    repeat' first
      | refine Ok.need (by omega) ?_
      | refine Ok.need2 (by omega) (by omega) ?_
      | refine Ok.fit (by simp only [List.length_append,List.length_cons,List.length_nil,List.length_take,List.length_drop,List.length_set,List.nil_append]<;>omega) ?_
      | refine Ok.ob (Ok.get (by omega)) fun e he=>?_
      | refine Ok.need (by simp only [List.length_append,List.length_cons,List.length_nil,List.length_take,List.length_drop,List.length_set,List.nil_append]<;>omega) ?_
      | refine Ok.ob (Ok.get (by simp only [List.length_append,List.length_cons,List.length_nil,List.length_take,List.length_drop,List.length_set,List.nil_append]<;>omega)) fun e he=>?_
      | refine Ok.or (fun hc=>?_) (fun hc hc2=>?_)
      | refine Ok.dec (fun hc=>?_) (fun hc=>?_)
      | refine Ok.beq (fun hc=>?_) (fun hc=>?_)
      | refine Ok.bne (fun hc=>?_) (fun hc=>?_)
      | refine Ok.cond (fun hc=>?_) (fun hc=>?_)
      | refine Ok.inl ?_
      | refine Ok.inr2 ?_
      | refine Ok.inr1 ?_
      | refine Ok.inr ?_
      | refine Ok.ret ?_
    · dsimp only;exact ⟨⟨rfl,by omega,by omega⟩,by omega⟩
    · exact ⟨rfl,h2,h3⟩
  refine Ok.ob hloop fun y hy=>?_
  obtain ⟨l',i,q⟩:=y
  obtain ⟨h1,h2,h3⟩:=hy
  dsimp only at h1 h2 h3
  subst h1
  dsimp only
  have hw:i < (l'.length:Int)→w64 (i+1)=i+1:=fun _=>w64_ok (by omega)
  refine Ok.need (by omega) (Ok.need (by omega) (Ok.fit (by simp only [List.length_append,List.length_cons,List.length_nil,List.length_take,List.length_drop,List.length_set,List.nil_append]<;>omega) ?_))
  by_cases hi:i < (l'.length:Int)
  · have hw:=hw hi
    repeat' first
      | refine Ok.need (by omega) ?_
      | refine Ok.need2 (by omega) (by omega) ?_
      | refine Ok.fit (by simp only [List.length_append,List.length_cons,List.length_nil,List.length_take,List.length_drop,List.length_set,List.nil_append]<;>omega) ?_
      | refine Ok.ob (Ok.get (by omega)) fun e he=>?_
      | refine Ok.need (by simp only [List.length_append,List.length_cons,List.length_nil,List.length_take,List.length_drop,List.length_set,List.nil_append]<;>omega) ?_
      | refine Ok.ob (Ok.get (by simp only [List.length_append,List.length_cons,List.length_nil,List.length_take,List.length_drop,List.length_set,List.nil_append]<;>omega)) fun e he=>?_
      | refine Ok.or (fun hc=>?_) (fun hc hc2=>?_)
      | refine Ok.dec (fun hc=>?_) (fun hc=>?_)
      | refine Ok.beq (fun hc=>?_) (fun hc=>?_)
      | refine Ok.bne (fun hc=>?_) (fun hc=>?_)
      | refine Ok.cond (fun hc=>?_) (fun hc=>?_)
      | refine Ok.inl ?_
      | refine Ok.inr2 ?_
      | refine Ok.inr1 ?_
      | refine Ok.inr ?_
      | refine Ok.ret ?_
    all_goals simp only [List.length_append,List.length_cons,List.length_nil,List.length_take,List.length_drop,List.length_set,List.nil_append]<;>omega
  · repeat' first
      | refine Ok.need (by omega) ?_
      | refine Ok.need2 (by omega) (by omega) ?_
      | refine Ok.fit (by simp only [List.length_append,List.length_cons,List.length_nil,List.length_take,List.length_drop,List.length_set,List.nil_append]<;>omega) ?_
      | refine Ok.ob (Ok.get (by omega)) fun e he=>?_
      | refine Ok.need (by simp only [List.length_append,List.length_cons,List.length_nil,List.length_take,List.length_drop,List.length_set,List.nil_append]<;>omega) ?_
      | refine Ok.ob (Ok.get (by simp only [List.length_append,List.length_cons,List.length_nil,List.length_take,List.length_drop,List.length_set,List.nil_append]<;>omega)) fun e he=>?_
      | refine Ok.or (fun hc=>?_) (fun hc hc2=>?_)
      | refine Ok.dec (fun hc=>?_) (fun hc=>?_)
      | refine Ok.beq (fun hc=>?_) (fun hc=>?_)
      | refine Ok.bne (fun hc=>?_) (fun hc=>?_)
      | refine Ok.cond (fun hc=>?_) (fun hc=>?_)
      | refine Ok.inl ?_
      | refine Ok.inr2 ?_
      | refine Ok.inr1 ?_
      | refine Ok.inr ?_
      | refine Ok.ret ?_
    all_goals simp only [List.length_append,List.length_cons,List.length_nil,List.length_take,List.length_drop,List.length_set,List.nil_append]<;>omega
theorem t_10bind (l:List Bind)(o:Op)(hl:l.length≤1000000):Ok (ref10_bind l o) (fun y=>y.length≤l.length+1):=by
  unfold ref10_bind
  have hloop:Ok (L174_3 l 0 o (Bind.mk o.n o.text o.ver o.dot)) (fun y=>y.1=l∧0≤y.2.1∧y.2.1≤(l.length:Int)):=by
    refine Ok.iter (fun x=>x.1=l∧0≤x.2.1∧x.2.1≤(l.length:Int)) (fun x=>l.length - x.2.1.toNat) ?_ _ _ ⟨rfl,by dsimp only;omega,by dsimp only;omega⟩ (by dsimp only;omega)
    rintro ⟨l',i,p,q⟩ ⟨h1,h2,h3⟩
    dsimp only at h1 h2 h3
    subst h1
    unfold stp_L174_3 step_L174_3
    dsimp only
    refine Ok.dec (fun hi=>?_) (fun _=>Ok.inr ⟨rfl,h2,h3⟩)
    have hw:w64 (i+1)=i+1:=w64_ok (by omega)
    repeat' first
      | refine Ok.need (by omega) ?_
      | refine Ok.need2 (by omega) (by omega) ?_
      | refine Ok.fit (by simp only [List.length_append,List.length_cons,List.length_nil,List.length_take,List.length_drop,List.length_set,List.nil_append]<;>omega) ?_
      | refine Ok.ob (Ok.get (by omega)) fun e he=>?_
      | refine Ok.need (by simp only [List.length_append,List.length_cons,List.length_nil,List.length_take,List.length_drop,List.length_set,List.nil_append]<;>omega) ?_
      | refine Ok.ob (Ok.get (by simp only [List.length_append,List.length_cons,List.length_nil,List.length_take,List.length_drop,List.length_set,List.nil_append]<;>omega)) fun e he=>?_
      | refine Ok.or (fun hc=>?_) (fun hc hc2=>?_)
      | refine Ok.dec (fun hc=>?_) (fun hc=>?_)
      | refine Ok.beq (fun hc=>?_) (fun hc=>?_)
      | refine Ok.bne (fun hc=>?_) (fun hc=>?_)
      | refine Ok.cond (fun hc=>?_) (fun hc=>?_)
      | refine Ok.inl ?_
      | refine Ok.inr2 ?_
      | refine Ok.inr1 ?_
      | refine Ok.inr ?_
      | refine Ok.ret ?_
    · dsimp only;exact ⟨⟨rfl,by omega,by omega⟩,by omega⟩
    · exact ⟨rfl,h2,h3⟩
  refine Ok.ob hloop fun y hy=>?_
  obtain ⟨l',i,q⟩:=y
  obtain ⟨h1,h2,h3⟩:=hy
  dsimp only at h1 h2 h3
  subst h1
  dsimp only
  have hw:i < (l'.length:Int)→w64 (i+1)=i+1:=fun _=>w64_ok (by omega)
  refine Ok.need (by omega) (Ok.need (by omega) (Ok.fit (by simp only [List.length_append,List.length_cons,List.length_nil,List.length_take,List.length_drop,List.length_set,List.nil_append]<;>omega) ?_))
  by_cases hi:i < (l'.length:Int)
  · have hw:=hw hi
    repeat' first
      | refine Ok.need (by omega) ?_
      | refine Ok.need2 (by omega) (by omega) ?_
      | refine Ok.fit (by simp only [List.length_append,List.length_cons,List.length_nil,List.length_take,List.length_drop,List.length_set,List.nil_append]<;>omega) ?_
      | refine Ok.ob (Ok.get (by omega)) fun e he=>?_
      | refine Ok.need (by simp only [List.length_append,List.length_cons,List.length_nil,List.length_take,List.length_drop,List.length_set,List.nil_append]<;>omega) ?_
      | refine Ok.ob (Ok.get (by simp only [List.length_append,List.length_cons,List.length_nil,List.length_take,List.length_drop,List.length_set,List.nil_append]<;>omega)) fun e he=>?_
      | refine Ok.ob (t_ref9Less _ _) fun y hy=>?_
      | refine Ok.or (fun hc=>?_) (fun hc hc2=>?_)
      | refine Ok.dec (fun hc=>?_) (fun hc=>?_)
      | refine Ok.beq (fun hc=>?_) (fun hc=>?_)
      | refine Ok.bne (fun hc=>?_) (fun hc=>?_)
      | refine Ok.cond (fun hc=>?_) (fun hc=>?_)
      | refine Ok.inl ?_
      | refine Ok.inr2 ?_
      | refine Ok.inr1 ?_
      | refine Ok.inr ?_
      | refine Ok.ret ?_
    all_goals simp only [List.length_append,List.length_cons,List.length_nil,List.length_take,List.length_drop,List.length_set,List.nil_append]<;>omega
  · repeat' first
      | refine Ok.need (by omega) ?_
      | refine Ok.need2 (by omega) (by omega) ?_
      | refine Ok.fit (by simp only [List.length_append,List.length_cons,List.length_nil,List.length_take,List.length_drop,List.length_set,List.nil_append]<;>omega) ?_
      | refine Ok.ob (Ok.get (by omega)) fun e he=>?_
      | refine Ok.need (by simp only [List.length_append,List.length_cons,List.length_nil,List.length_take,List.length_drop,List.length_set,List.nil_append]<;>omega) ?_
      | refine Ok.ob (Ok.get (by simp only [List.length_append,List.length_cons,List.length_nil,List.length_take,List.length_drop,List.length_set,List.nil_append]<;>omega)) fun e he=>?_
      | refine Ok.or (fun hc=>?_) (fun hc hc2=>?_)
      | refine Ok.dec (fun hc=>?_) (fun hc=>?_)
      | refine Ok.beq (fun hc=>?_) (fun hc=>?_)
      | refine Ok.bne (fun hc=>?_) (fun hc=>?_)
      | refine Ok.cond (fun hc=>?_) (fun hc=>?_)
      | refine Ok.inl ?_
      | refine Ok.inr2 ?_
      | refine Ok.inr1 ?_
      | refine Ok.inr ?_
      | refine Ok.ret ?_
    all_goals simp only [List.length_append,List.length_cons,List.length_nil,List.length_take,List.length_drop,List.length_set,List.nil_append]<;>omega
theorem t_7Step (l:List Entry)(d:Entry)(hl:l.length≤1000000):Ok (ref7Step l d) (fun y=>y.1.length≤l.length+1):=by
  unfold ref7Step
  refine Ok.cond (fun _=>Ok.ret (Nat.zero_le _)) fun _=>Ok.ob (t_7Has l d hl) fun _ _=>Ok.cond (fun _=>Ok.ret (Nat.zero_le _)) fun _=>Ok.ob (t_7put l d hl) fun y hy=>Ok.ret hy
/-- bounds of a collection -/
structure CoOk (K:Nat) (c:Coll):Prop where
  v:c.v.length≤K
  regs:c.regs.length≤K
  elems:c.elems.length≤K
  gone:c.gone.length≤100 * K
  sums:c.sums.length≤K
  binds:c.binds.length≤K
theorem CoOk.mono {K M:Nat}{c:Coll}(h:CoOk K c)(hk:K≤M):CoOk M c:=⟨Nat.le_trans h.v hk,Nat.le_trans h.regs hk,Nat.le_trans h.elems hk,by have:=h.gone;omega,Nat.le_trans h.sums hk,Nat.le_trans h.binds hk⟩
theorem t_rem (c:Coll)(o:Op)(hg:c.gone.length≤500000)(hd:o.dots.length≤100)(he:c.elems.length≤500000) :
    Ok (ref10_rem c o) (fun y=>y.v=c.v∧y.regs=c.regs∧y.sums=c.sums∧y.binds=c.binds∧y.elems.length≤c.elems.length∧y.gone.length≤c.gone.length+o.dots.length):=by
  unfold ref10_rem
  have hloop:Ok (L172_2 0 c o (Coll.mk [] [] [] [] [] [])) (fun y=>y.1.v=c.v∧y.1.regs=c.regs∧y.1.sums=c.sums∧y.1.binds=c.binds∧y.1.elems=c.elems∧y.1.gone.length≤c.gone.length+o.dots.length):=by
    refine Ok.iter (fun x=>x.2.2.1=o∧0≤x.1∧x.1≤(o.dots.length:Int)∧x.2.1.v=c.v∧x.2.1.regs=c.regs∧x.2.1.sums=c.sums∧x.2.1.binds=c.binds∧x.2.1.elems=c.elems∧(x.2.1.gone.length:Int)≤c.gone.length+x.1) (fun x=>o.dots.length - x.1.toNat) ?_ _ _ ⟨rfl,by dsimp only;omega,by dsimp only;omega,rfl,rfl,rfl,rfl,rfl,by dsimp only;omega⟩ (by dsimp only;omega)
    rintro ⟨i,c1,o',c2⟩ ⟨h1,h2,h3,h4,h5,h6,h7,h8,h9⟩
    dsimp only at h1 h2 h3 h4 h5 h6 h7 h8 h9
    subst h1
    unfold stp_L172_2 step_L172_2
    dsimp only
    refine Ok.dec (fun hi=>?_) (fun _=>Ok.inr ⟨h4,h5,h6,h7,h8,by dsimp only;omega⟩)
    have hw:w64 (i+1)=i+1:=w64_ok (by omega)
    refine Ok.need (by omega) (Ok.ob (Ok.get (by omega)) fun e _=>Ok.ob (t_10in c1.gone e (by omega)) fun _ _=>Ok.cond (fun _=>Ok.inl ?_) fun _=>?_)
    · dsimp only
      exact ⟨⟨rfl,by omega,by omega,h4,h5,h6,h7,h8,by omega⟩,by omega⟩
    · have hloop2:Ok (L172_6 i 0 c1 o' c2) (fun y=>y.1=i∧0≤y.2.1∧y.2.1≤(c1.gone.length:Int)∧y.2.2.1=c1∧y.2.2.2.1=o'):=by
        refine Ok.iter (fun x=>x.1=i∧0≤x.2.1∧x.2.1≤(c1.gone.length:Int)∧x.2.2.1=c1∧x.2.2.2.1=o') (fun x=>c1.gone.length - x.2.1.toNat) ?_ _ _ ⟨rfl,by dsimp only;omega,by dsimp only;omega,rfl,rfl⟩ (by dsimp only;omega)
        rintro ⟨i',k,c1',o'',c2'⟩ ⟨f1,f2,f3,f4,f5⟩
        dsimp only at f1 f2 f3 f4 f5
        subst f1;subst f4;subst f5
        unfold stp_L172_6 step_L172_6
        dsimp only
        refine Ok.dec (fun hk=>?_) (fun _=>Ok.inr ⟨rfl,f2,f3,rfl,rfl⟩)
        have hwk:w64 (k+1)=k+1:=w64_ok (by omega)
        refine Ok.need (by omega) (Ok.ob (Ok.get (by omega)) fun a _=>Ok.need (by omega) (Ok.ob (Ok.get (by omega)) fun b _=>Ok.ob (t_ref9Less a b) fun _ _=>Ok.cond (fun _=>Ok.inl ?_) (fun _=>Ok.inr ⟨rfl,f2,f3,rfl,rfl⟩)))
        dsimp only
        exact ⟨⟨rfl,by omega,by omega,rfl,rfl⟩,by omega⟩
      refine Ok.ob hloop2 fun y hy=>?_
      obtain ⟨i',k,c1',o'',c2'⟩:=y
      obtain ⟨f1,f2,f3,f4,f5⟩:=hy
      dsimp only at f1 f2 f3 f4 f5
      subst f1;subst f4;subst f5
      dsimp only
      refine Ok.need (by omega) (Ok.need (by omega) (Ok.fit (by simp only [List.length_append,List.length_cons,List.length_nil,List.length_take,List.length_drop,List.length_set,List.nil_append]<;>omega) (Ok.need (by omega) (Ok.ob (Ok.get (by omega)) fun a _=>Ok.fit (by simp only [List.length_append,List.length_cons,List.length_nil,List.length_take,List.length_drop,List.length_set,List.nil_append]<;>omega) (Ok.need (by omega) (Ok.need (by omega) (Ok.need (by omega) (Ok.fit (by simp only [List.length_append,List.length_cons,List.length_nil,List.length_take,List.length_drop,List.length_set,List.nil_append]<;>omega) (Ok.inl ?_)))))))))
      dsimp only
      exact ⟨⟨rfl,by omega,by omega,h4,h5,h6,h7,h8,by simp only [List.length_append,List.length_cons,List.length_nil,List.length_take,List.length_drop,List.length_set,List.nil_append]<;>omega⟩,by omega⟩
  refine Ok.ob hloop fun y hy=>?_
  obtain ⟨c1,o1,c2⟩:=y
  obtain ⟨h4,h5,h6,h7,h8,h9⟩:=hy
  dsimp only at h4 h5 h6 h7 h8 h9
  dsimp only
  have hloop3:Ok (L172_13 [] 0 c1 c2) (fun y=>y.2.1=c1∧y.1.length≤c1.elems.length):=by
    have hel:c1.elems.length≤500000:=by rw [h8];exact he
    refine Ok.iter (fun x=>x.2.2.1=c1∧0≤x.2.1∧x.2.1≤(c1.elems.length:Int)∧(x.1.length:Int)≤x.2.1) (fun x=>c1.elems.length - x.2.1.toNat) ?_ _ _ ⟨rfl,by dsimp only;omega,by dsimp only;omega,by simp⟩ (by dsimp only;omega)
    rintro ⟨l,i,c1',c2'⟩ ⟨f1,f2,f3,f4⟩
    dsimp only at f1 f2 f3 f4
    subst f1
    unfold stp_L172_13 step_L172_13
    dsimp only
    refine Ok.dec (fun hi=>?_) (fun _=>Ok.inr ⟨rfl,by dsimp only;omega⟩)
    have hw:w64 (i+1)=i+1:=w64_ok (by omega)
    refine Ok.need (by omega) (Ok.ob (Ok.get (by omega)) fun e _=>Ok.ob (t_10in c1'.gone _ (by omega)) fun _ _=>Ok.cond (fun _=>?_) (fun _=>Ok.inl ?_))
    · refine Ok.need (by omega) (Ok.ob (Ok.get (by omega)) fun e _=>Ok.fit (by simp only [List.length_append,List.length_cons,List.length_nil,List.length_take,List.length_drop,List.length_set,List.nil_append]<;>omega) (Ok.inl ?_))
      dsimp only
      exact ⟨⟨rfl,by omega,by omega,by rw [List.length_append,List.length_singleton];omega⟩,by omega⟩
    · dsimp only
      exact ⟨⟨rfl,by omega,by omega,by omega⟩,by omega⟩
  refine Ok.ob hloop3 fun z hz=>Ok.ret ?_
  obtain ⟨g1,g2⟩:=hz
  rw [g1]
  exact ⟨h4,h5,h6,h7,by dsimp only;rw [h8] at g2;exact g2,h9⟩
theorem t_Apply {K:Nat}(c:Coll)(o:Op)(h:CoOk K c)(hK:K≤4000)(hd:o.dots.length≤100):Ok (ref10Apply c o) (fun y=>y.2=0→CoOk (K+1) y.1):=by
  have hv:=h.v
  have hr:=h.regs
  have he:=h.elems
  have hg:=h.gone
  have hs:=h.sums
  have hb:=h.binds
  unfold ref10Apply
  refine Ok.ob (t_ref9Check o (by omega)) fun r0 _=>Ok.bne (fun hne=>Ok.ret (fun hz=>absurd hz hne)) fun _=>Ok.ob (t_7Step c.v o.dot (by omega)) fun y hy=>Ok.bne (fun hne=>Ok.ret (fun hz=>absurd hz hne)) fun _=>?_
  refine Ok.beq (fun _=>Ok.ob (t_10set c.regs o (by omega)) fun z hz=>Ok.ret fun _=>⟨by dsimp only;omega,by dsimp only;omega,by dsimp only;omega,by dsimp only;omega,by dsimp only;omega,by dsimp only;omega⟩) fun _=>?_
  refine Ok.beq (fun _=>Ok.ob (t_10in c.gone o.dot (by omega)) fun _ _=>Ok.cond (fun _=>Ok.ob (t_10add c.elems o (by omega)) fun z hz=>Ok.ret fun _=>⟨by dsimp only;omega,by dsimp only;omega,by dsimp only;omega,by dsimp only;omega,by dsimp only;omega,by dsimp only;omega⟩) fun _=>Ok.ret fun _=>⟨by dsimp only;omega,by dsimp only;omega,by dsimp only;omega,by dsimp only;omega,by dsimp only;omega,by dsimp only;omega⟩) fun _=>?_
  refine Ok.beq (fun _=>Ok.ob (t_rem (Coll.mk y.1 c.regs c.elems c.gone c.sums c.binds) o (by dsimp only;omega) hd (by dsimp only;omega)) fun z hz=>Ok.ret fun _=>?_) fun _=>?_
  · obtain ⟨z1,z2,z3,z4,z5,z6⟩:=hz
    dsimp only at z1 z2 z3 z4 z5 z6
    exact ⟨by dsimp only;rw [z1];omega,by dsimp only;rw [z2];omega,by dsimp only;omega,by dsimp only;omega,by dsimp only;rw [z3];omega,by dsimp only;rw [z4];omega⟩
  refine Ok.beq (fun _=>Ok.ob (t_10count c.sums o (by omega)) fun z hz=>Ok.ret fun _=>⟨by dsimp only;omega,by dsimp only;omega,by dsimp only;omega,by dsimp only;omega,by dsimp only;omega,by dsimp only;omega⟩) fun _=>?_
  refine Ok.beq (fun _=>Ok.ob (t_10bind c.binds o (by omega)) fun z hz=>Ok.ret fun _=>⟨by dsimp only;omega,by dsimp only;omega,by dsimp only;omega,by dsimp only;omega,by dsimp only;omega,by dsimp only;omega⟩) fun _=>Ok.ret fun _=>⟨by dsimp only;omega,by dsimp only;omega,by dsimp only;omega,by dsimp only;omega,by dsimp only;omega,by dsimp only;omega⟩
end Go.Proofs.YtcjpeijiaojeiaaGreat
