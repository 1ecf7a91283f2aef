/- The document's replicas are Raft's nodes: indices, what is owed, ticks. -/
import Derived.Test.YtoicjnggljeicaaRw
namespace Go.Proofs.Ytoicjnggljeicaa
open Go Go.Ev
set_option maxRecDepth 100000
theorem others0:ref15_others 0=some [1,2]:=by kernel_rfl
theorem others1:ref15_others 1=some [0,2]:=by kernel_rfl
theorem others2:ref15_others 2=some [0,1]:=by kernel_rfl
theorem others_eq {a:Raft.AN}(h:Wf a):ref15_others (a.id:Int)=some ((Raft.others a.id).map (fun j:Nat=>(j:Int))):=by
  have:=h.id
  have:a.id=0∨a.id=1∨a.id=2:=by omega
  rcases this with e | e | e<;>rw [e]
  · exact others0
  · exact others1
  · exact others2
theorem rLast_eq {a:Raft.AN}(h:Wf a):ref15Last (toN a)=some ((a.log.length:Int),(Raft.lastT a.log:Int)):=by
  have hb:=base_le h
  have h3:=h.len
  have hl:((toN a).log.length:Int)=((a.log.length - a.base:Nat):Int):=by rw [n_log,toL_len,List.length_drop]
  unfold ref15Last
  rw [hl,n_base]
  by_cases hz:a.log.length=a.base
  · rw [cbt (by omega),n_bt,Raft.lastT,hz]
  · rw [cbf (by omega)]
    have hw1:w64 (((a.log.length - a.base:Nat):Int) - 1)=((a.log.length - a.base - 1:Nat):Int):=by rw [w64_ok (by omega)];omega
    have hw2:w64 ((a.base:Int)+((a.log.length - a.base:Nat):Int))=(a.log.length:Int):=by rw [w64_ok (by omega)];omega
    obtain ⟨e,he,_,ht⟩:=log_get a.log a.base (a.log.length - a.base - 1) (by omega)
    rw [hw1,hw2,cdt (by omega),Int.toNat_natCast,n_log,he,ob_some]
    rw [show a.base+(a.log.length - a.base - 1)+1=a.log.length by omega] at ht
    rw [Raft.lastT,ht]
    rfl
theorem rTermAt_eq {a:Raft.AN}(h:Wf a)(idx:Nat)(h1:a.base≤idx)(h2:idx≤a.log.length):ref15TermAt (toN a) (idx:Int)=some (Raft.tAt a.log idx:Int):=by
  have hb:=base_le h
  have h3:=h.len
  have hl:((toN a).log.length:Int)=((a.log.length - a.base:Nat):Int):=by rw [n_log,toL_len,List.length_drop]
  unfold ref15TermAt
  rw [hl,n_base]
  have hw2:w64 ((a.base:Int)+((a.log.length - a.base:Nat):Int))=(a.log.length:Int):=by rw [w64_ok (by omega)];omega
  rw [hw2]
  by_cases hz:idx=a.base
  · rw [cbt (by omega),n_bt,hz]
  · rw [cbf (by omega),cdf (by omega),decide_eq_false (by omega),cond_false]
    have hw1:w64 (w64 ((idx:Int) - (a.base:Int)) - 1)=((idx - a.base - 1:Nat):Int):=by rw [w64_ok (n:=(idx:Int) - (a.base:Int)) (by omega),w64_ok (by omega)];omega
    obtain ⟨e,he,_,ht⟩:=log_get a.log a.base (idx - a.base - 1) (by omega)
    rw [hw1,cdt (by omega),Int.toNat_natCast,n_log,he,ob_some]
    rw [show a.base+(idx - a.base - 1)+1=idx by omega] at ht
    rw [ht]
    rfl
theorem rTermAt_far {a:Raft.AN}(h:Wf a)(idx:Nat)(h0:idx≤1000000)(h1:idx < a.base∨a.log.length < idx):ref15TermAt (toN a) (idx:Int)=some (-1):=by
  have hb:=base_le h
  have h3:=h.len
  have hl:((toN a).log.length:Int)=((a.log.length - a.base:Nat):Int):=by rw [n_log,toL_len,List.length_drop]
  unfold ref15TermAt
  rw [hl,n_base]
  have hw2:w64 ((a.base:Int)+((a.log.length - a.base:Nat):Int))=(a.log.length:Int):=by rw [w64_ok (by omega)];omega
  rw [hw2,cbf (by omega)]
  by_cases hx:idx < a.base
  · rw [cdt (by omega),cond_true]
  · rw [cdf (by omega),decide_eq_true (by omega),cond_true]
theorem owes_loop (n:Node)(m1:Msg)(hn:n.log.length≤1000000):∀ (j i:Nat) (m2:Msg) (fuel:Nat),m2.entries.length+j=8→i≤1000000→j < fuel →
    iterO stp_L61_8 fuel ((i:Int),n,m1,m2)=some (n,m1,Msg.mk m2.kind m2.from_ m2.to_ m2.term_ m2.index m2.logTerm m2.commit m2.yes (m2.entries++(n.log.drop i).take j) m2.snap):=by
  intro j
  induction j with
  | zero =>
    intro i m2 fuel hj hi hf
    obtain ⟨fuel,rfl⟩:∃ k,fuel=k+1:=⟨fuel - 1,by omega⟩
    refine iter_end ?_
    unfold stp_L61_8 step_L61_8
    dsimp only
    rw [decide_eq_false (show ¬ (m2.entries.length:Int) < 8 by omega),cself,cond_false,List.take_zero,List.append_nil]
  | succ j ih =>
    intro i m2 fuel hj hi hf
    obtain ⟨fuel,rfl⟩:∃ k,fuel=k+1:=⟨fuel - 1,by omega⟩
    by_cases hlt:i < n.log.length
    · have hw:w64 ((i:Int)+1)=((i+1:Nat):Int):=w64_ok (by omega)
      have hget:n.log[i]?=some n.log[i]:=List.getElem?_eq_getElem hlt
      have hrec:=ih (i+1) (Msg.mk m2.kind m2.from_ m2.to_ m2.term_ m2.index m2.logTerm m2.commit m2.yes (m2.entries++[n.log[i]]) m2.snap) fuel (by simp;omega) (by omega) (by omega)
      refine (iter_go (x':=(((i+1:Nat):Int),n,m1,Msg.mk m2.kind m2.from_ m2.to_ m2.term_ m2.index m2.logTerm m2.commit m2.yes (m2.entries++[n.log[i]]) m2.snap)) ?_).trans (hrec.trans ?_)
      · unfold stp_L61_8 step_L61_8
        dsimp only
        rw [cdt (show (i:Int) < (n.log.length:Int) by omega),decide_eq_true (show (m2.entries.length:Int) < 8 by omega),cond_true,cdt (by omega),Int.toNat_natCast,hget,ob_some,fits_ok (by simp;omega),cond_true,hw]
      · dsimp only
        rw [List.drop_eq_getElem_cons hlt,List.take_succ_cons,List.append_assoc]
        rfl
    · refine iter_end ?_
      unfold stp_L61_8 step_L61_8
      dsimp only
      rw [cdf (show ¬ (i:Int) < (n.log.length:Int) by omega),cond_false,List.drop_eq_nil_of_le (by omega),List.take_nil,List.append_nil]
theorem owes_red (n:Node)(to:Int):ref15_owes n to =
    cond (ok3 to) (cond (decide (get3 n.next to≤n.base)) (some (Msg.mk 5 n.id_ to n.term_ n.base n.baseTerm 0 false [] n.snap))
      (ob (ref15TermAt n (w64 (get3 n.next to - 1))) fun r=>ob (L61_8 (w64 (w64 (get3 n.next to - n.base) - 1)) n (Msg.mk 0 0 0 0 0 0 0 false [] s_empty) (Msg.mk 3 n.id_ to n.term_ (w64 (get3 n.next to - 1)) r n.commit false [] s_empty)) fun y=>some y.2.2)) none:=by kernel_rfl
theorem owes_eq {a:Raft.AN}(h:Wf a){to:Nat}(ht:to < 3)(h1:1≤a.next to)(h2:a.next to≤a.log.length+1):ref15_owes (toN a) (to:Int)=some (toM (Raft.owe a to)):=by
  have hb:=base_le h
  have hl:=h.len
  have hlog:=h.log
  rw [owes_red,show ok3 (to:Int)=true from in3 ht,cond_true,n_next,get3_eq _ ht,n_base]
  unfold Raft.owe
  by_cases hs:a.next to≤a.base
  · rw [cdt (by omega),if_pos hs]
    rfl
  · have hw1:w64 ((a.next to:Int) - 1)=((a.next to - 1:Nat):Int):=by rw [w64_ok (by omega)];omega
    have hw2:w64 (w64 ((a.next to:Int) - (a.base:Int)) - 1)=((a.next to - 1 - a.base:Nat):Int):=by rw [w64_ok (n:=(a.next to:Int) - (a.base:Int)) (by omega),w64_ok (by omega)];omega
    rw [cdf (by omega),if_neg hs,hw1,hw2,rTermAt_eq h _ (by omega) (by omega),ob_some]
    unfold L61_8
    rw [owes_loop (toN a) _ (by omega) 8 (a.next to - 1 - a.base) _ _ rfl (by omega) (by omega),ob_some]
    dsimp only
    rw [List.nil_append,n_log,toL_drop,toL_take,List.drop_drop,show a.base+(a.next to - 1 - a.base)=a.next to - 1 by omega]
    rfl
theorem step50a (n:Node)(x y:Int):stp_L50_4 ([],[x,y],0,n)=ob (ref15_owes n x) fun r=>some (.inl ([r],[x,y],1,n)):=by kernel_rfl
theorem step50b (n:Node)(x y:Int)(m:Msg):stp_L50_4 ([m],[x,y],1,n)=ob (ref15_owes n y) fun r=>some (.inl ([m,r],[x,y],2,n)):=by kernel_rfl
theorem step50c (n:Node)(x y:Int)(m r:Msg):stp_L50_4 ([m,r],[x,y],2,n)=some (.inr ([m,r],n)):=by kernel_rfl
theorem send_two (n:Node)(x y:Int)(m r:Msg)(h1:ref15_owes n x=some m)(h2:ref15_owes n y=some r):L50_4 [] [x,y] 0 n=some ([m,r],n):=by
  show iterO stp_L50_4 (3+1) _=_
  rw [iter_go (by rw [step50a,h1,ob_some]),iter_go (by rw [step50b,h2,ob_some]),iter_end (step50c n x y m r)]
theorem rsend_eq {a:Raft.AN}(h:Wf a)(hl:Ld a):ref15_send (toN a)=some (((Raft.others a.id).map (Raft.owe a)).map toM):=by
  have he:∀ j:Nat,j < 3→ref15_owes (toN a) (j:Int)=some (toM (Raft.owe a j)):=fun j hj=>owes_eq h hj (hl j hj).1 (hl j hj).2.1
  unfold ref15_send
  rw [n_id,others_eq h,ob_some]
  have:=h.id
  have:a.id=0∨a.id=1∨a.id=2:=by omega
  rcases this with e | e | e<;>rw [e]
  · exact (congrArg (fun z=>ob z fun y=>some y.1) (send_two (toN a) 1 2 _ _ (he 1 (by omega)) (he 2 (by omega)))).trans rfl
  · exact (congrArg (fun z=>ob z fun y=>some y.1) (send_two (toN a) 0 2 _ _ (he 0 (by omega)) (he 2 (by omega)))).trans rfl
  · exact (congrArg (fun z=>ob z fun y=>some y.1) (send_two (toN a) 0 1 _ _ (he 0 (by omega)) (he 1 (by omega)))).trans rfl
theorem asks_two (i1 i2:Int)(x y:Int)(n1 n2:Node):L37_13 i1 i2 [] [x,y] 0 n1 n2=some ([Msg.mk 1 n1.id_ x n1.term_ i1 i2 0 false [] s_empty,Msg.mk 1 n1.id_ y n1.term_ i1 i2 0 false [] s_empty],n1,n2):=by kernel_rfl
def stR (n:Node):Node:=Node.mk n.id_ (w64 (n.term_+1)) n.id_ n.base n.baseTerm n.snap n.log 1 n.commit 0 (A3Bool.mk (cond (decide (n.id_=0)) true false) (cond (decide (n.id_=1)) true false) (cond (decide (n.id_=2)) true false)) n.next n.match_
theorem rtick_red (n:Node):ref15Tick n=cond (n.role == 2) (ob (ref15_send n) fun r=>some (n,r))
    (cond (cond (decide (w64 (n.wait+1) < w64 (5+w64 (3 * n.id_)))) true (decide (n.term_≥1073741824))) (some ({ n with wait:=w64 (n.wait+1) },[]))
      (cond (ok3 n.id_) (ob (ref15Last (stR n)) fun r=>ob (ref15_others n.id_) fun l=>ob (L37_13 r.1 r.2 [] l 0 (stR n) (Node.mk 0 0 0 0 0 s_empty [] 0 0 0 (A3Bool.mk false false false) (A3Int.mk 0 0 0) (A3Int.mk 0 0 0))) fun y=>some (y.2.1,y.1)) none)):=by kernel_rfl
theorem stR_eq (a:Raft.AN)(h:Wf a)(ht:a.term < 1073741824):stR (toN a)=toN (Raft.standA a).1:=by
  have hw:w64 ((a.term:Int)+1)=((a.term+1:Nat):Int):=by rw [w64_ok (by omega)];omega
  have hv:A3Bool.mk (cond (decide ((a.id:Int)=0)) true false) (cond (decide ((a.id:Int)=1)) true false) (cond (decide ((a.id:Int)=2)) true false)=a3b (fun j=>j == a.id):=by
    have:=h.id
    have:a.id=0∨a.id=1∨a.id=2:=by omega
    rcases this with e | e | e<;>rw [e]<;>rfl
  unfold stR
  rw [n_term,hw,n_id,hv]
  rfl
theorem rtick_eq (a:Raft.AN)(h:Wf a)(hl:a.role=2→Ld a):ref15Tick (toN a)=some (toN (Raft.tick a).1,(Raft.tick a).2.map toM):=by
  rw [rtick_red,n_role]
  unfold Raft.tick
  by_cases hr:a.role=2
  · rw [cbt (by omega),if_pos hr,rsend_eq h (hl hr),ob_some]
  · rw [cbf (by omega),if_neg hr]
    have hid:=h.id
    have hwt:=h.wait
    have hw:w64 ((a.wait:Int)+1)=((a.wait+1:Nat):Int):=by rw [w64_ok (by omega)];omega
    have hlim:w64 (5+w64 (3 * (a.id:Int)))=((5+3 * a.id:Nat):Int):=by rw [w64_ok (n:=3 * (a.id:Int)) (by omega),w64_ok (by omega)];omega
    rw [n_wait,n_id,n_term,hw,hlim]
    by_cases hs:a.wait+1≥5+3 * a.id∧a.term < Raft.most
    · have hm:a.term < 1073741824:=hs.2
      have hwf:=h.standA hm
      have hlast:=rLast_eq hwf
      rw [if_pos hs,cdf (by omega),decide_eq_false (by omega),cond_false,show ok3 (a.id:Int)=true from in3 h.id,cond_true,stR_eq a h hm,hlast,ob_some,others_eq h,ob_some]
      have:a.id=0∨a.id=1∨a.id=2:=by omega
      have hidn:(Raft.standA a).1.id=a.id:=rfl
      unfold Raft.standA
      rcases this with e | e | e<;>simp only [e,Raft.others,List.map_cons,List.map_nil]<;>rw [asks_two,ob_some]<;>rfl
    · rw [if_neg hs]
      have hg:(cond (decide (((a.wait+1:Nat):Int) < ((5+3 * a.id:Nat):Int))) true (decide ((a.term:Int)≥1073741824)))=true:=by
        by_cases h1:a.wait+1≥5+3 * a.id
        · rw [cdf (by omega)]
          exact decide_eq_true (by
            rcases Nat.lt_or_ge a.term 1073741824 with h2 | h2
            · exact absurd ⟨h1,h2⟩ hs
            · omega)
        · rw [cdt (by omega)]
      rw [hg,cond_true]
      rfl
end Go.Proofs.Ytoicjnggljeicaa
