/- LocalShed on typed data: the answer, what comes back, the law. -/
import Derived.Test.YthhfjodcgibhfaaGreatLq
namespace Go.Proofs.YthhfjodcgibhfaaGreat
open Go Go.Ev
set_option maxRecDepth 100000
theorem filter_all {α:Type}{p:α→Bool}:∀ {l:List α},l.all p=true→l.filter p=l
  | [],_=>rfl
  | a::l,h=>by
    simp only [List.all_cons,Bool.and_eq_true] at h
    rw [List.filter_cons,h.1,filter_all h.2]
    rfl
theorem small_st (P:List Op)(n r:Int)(hn:P.length≤100)(hd:∀ o∈P,o.dots.length≤1000):localOwn (stS 0 n r 0 P c0 c0)=some (stS 0 n r 0 P c0 c0):=own_st 0 n r 0 P c0 c0 (by omega) hd small_0 small_0
/-- the answer to a merge: what is included, and not read, goes -/
theorem shed_reply (n:Nat)(r:Nat)(P:List Op)(hr:r≤n)(hn:P.length≤80)(hc:∀ o∈P,0≤o.coll∧o.coll≤2)(hd:∀ o∈P,o.dots.length≤1000) :
    reply (stS 0 n 0 0 P c0 c0) 0 (Reply.mk 0 r (Lease.mk 0 0 0 0 [] [] []))=some (stS 0 n r 0 (P.filter (keepO r)) c0 c0,0):=by
  have e1:=small_st P n 0 (by omega) hd
  have e2:=small_st P n r (by omega) hd
  have hmx:max2 0 (r:Int)=r:=by unfold max2;split<;>omega
  unfold reply
  rw [show ((0:Int) == 0)=true from rfl,cond_true,e1,ob_some]
  rw [show ((stS 0 (n:Int) 0 0 P c0 c0).epoch == 0)=false from rfl,cond_false]
  rw [show ((0:Int) == 16)=false from rfl,cond_false,show ((0:Int) != 0)=false from rfl,cond_false]
  rw [cdt (show (r:Int)≤(stS 0 (n:Int) 0 0 P c0 c0).seq from (by simp only [stS];omega))]
  rw [show (stS 0 (n:Int) 0 0 P c0 c0).sent=0 from rfl,hmx]
  have hst:∀ z:Option (State×Int),z=z:=fun _=>rfl
  have e3:=shed_find 0 r n P (by omega) hc
  have hsame:State.mk (stS 0 (n:Int) 0 0 P c0 c0).device (stS 0 (n:Int) 0 0 P c0 c0).epoch (stS 0 (n:Int) 0 0 P c0 c0).lease (stS 0 (n:Int) 0 0 P c0 c0).ends (stS 0 (n:Int) 0 0 P c0 c0).seq (r:Int) (stS 0 (n:Int) 0 0 P c0 c0).pending (stS 0 (n:Int) 0 0 P c0 c0).colls (stS 0 (n:Int) 0 0 P c0 c0).at_ (stS 0 (n:Int) 0 0 P c0 c0).ver (stS 0 (n:Int) 0 0 P c0 c0).subs (stS 0 (n:Int) 0 0 P c0 c0).req (stS 0 (n:Int) 0 0 P c0 c0).asked (stS 0 (n:Int) 0 0 P c0 c0).cmd (stS 0 (n:Int) 0 0 P c0 c0).fenced (stS 0 (n:Int) 0 0 P c0 c0).now=stS 0 (n:Int) r 0 P c0 c0:=rfl
  rw [hsame,show (stS 0 (n:Int) 0 0 P c0 c0).pending=P from rfl]
  rcases e3 with ⟨ha,e3⟩ | ⟨A,o,B,hP,ha,hk,e3⟩
  · rw [e3,ob_some,two_inl,e2,ob_some,filter_all ha]
  · rw [e3,ob_some,two_inr]
    simp only
    have hl:P.length=A.length+(B.length+1):=by rw [hP];simp
    rw [cbf (by omega),w64_ok (by omega)]
    obtain ⟨M,e4,hM⟩:=shed_move r n A o B (by omega) (fun x hx=>hc x (by rw [hP];simp [hx]))
    rw [← hP] at e4
    rw [e4,ob_some]
    generalize hQ:A++B.filter (keepO r)=Q at *
    have hf:P.filter (keepO r)=Q:=by
      rw [hP,List.filter_append,List.filter_cons,hk,filter_all ha]
      exact hQ
    have hdQ:∀ x∈Q,x.dots.length≤1000:=fun x hx=>hd x (List.mem_filter.1 (hf ▸ hx)).1
    have hlQ:Q.length+M.length≤80:=by omega
    have hpl:(stS 0 (n:Int) r 0 (Q++M) c0 c0).pending=Q++M:=rfl
    have hcut:=cut_front Q M (Op.mk (Dot.mk 0 0 0) 0 0 0 s_empty s_empty 0 0 [])
    simp only [hpl,Int.toNat_natCast]
    have hl2:(Q++M).length=Q.length+M.length:=List.length_append
    rw [cdt (by omega),cdt (by omega),cdt (by omega),cdt (by omega),cdt (by simp;omega)]
    rw [hcut]
    have e5:=small_st Q n r (by omega) hdQ
    rw [hf]
    exact (congrArg (fun z=>ob z fun y=>some (y,(0:Int))) e5).trans rfl
/-- how many stay -/
theorem shed_left (l:List Int)(n r:Nat)(hn:n≤12)(s:State)(b:Bool)(i3:Int):L8_18 (r:Int) b (n:Int) (shA l n) i3 0 0 s=some ((r:Int),b,(n:Int),shA l n,i3,(((shA l n).filter (keepO r)).length:Int),s):=by
  have key:∀ (m i fuel:Nat),i+m=n→m < fuel→iterO stp_L8_18 fuel ((r:Int),b,(n:Int),shA l n,i3,((((shA l n).take i).filter (keepO r)).length:Int),(i:Int),s)=some ((r:Int),b,(n:Int),shA l n,i3,(((shA l n).filter (keepO r)).length:Int),s):=by
    intro m
    induction m with
    | zero =>
      intro i fuel hm hf
      obtain ⟨fuel,rfl⟩:∃ k,fuel=k+1:=⟨fuel - 1,by omega⟩
      refine iter_end ?_
      simp only [stp_L8_18,step_L8_18]
      rw [cdf (by omega),show i=(shA l n).length by rw [shA_len];omega,List.take_length]
    | succ m ih =>
      intro i fuel hm hf
      obtain ⟨fuel,rfl⟩:∃ k,fuel=k+1:=⟨fuel - 1,by omega⟩
      have hw:w64 ((i:Int)+1)=((i+1:Nat):Int):=w64_ok (by omega)
      have hx:(shA l n)[(i:Int).toNat]?=some (shO l i):=by rw [Int.toNat_natCast];exact shA_get l (by omega)
      have hlen:(((shA l n).take i).filter (keepO r)).length≤12:=by
        have:=List.length_filter_le (keepO r) ((shA l n).take i)
        have h2:((shA l n).take i).length≤12:=by rw [List.length_take,shA_len];omega
        omega
      have hs:(shO l i).dot.seq=((i+1:Nat):Int):=rfl
      refine (iter_go ?_).trans (ih (i+1) fuel (by omega) (by omega))
      rw [shA_take l (by omega),List.filter_append,List.length_append,List.filter_cons]
      simp only [stp_L8_18,step_L8_18]
      rw [cdt (by omega)]
      have hw1:w64 (((((shA l n).take i).filter (keepO r)).length:Int)+1)=((((shA l n).take i).filter (keepO r)).length:Int)+1:=w64_ok (by omega)
      by_cases hi:r≤i
      · rw [cdt (by omega),keep_t (by rw [hs];omega),hw,hw1]
        simp
      · rw [cdf (by omega),cdt (by omega),hx,ob_some,keep_c (by rw [hs];omega),hw,hw1]
        cases ((shO l i).coll != 2)<;>simp
  exact key n 0 _ (by omega) (by omega)
end Go.Proofs.YthhfjodcgibhfaaGreat
