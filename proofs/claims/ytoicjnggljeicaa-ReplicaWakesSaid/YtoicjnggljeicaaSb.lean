/- The document's replicas are Raft's nodes: what is heard; snapshots; what is taken, proposed, cut away, woken. -/
import Derived.Test.YtoicjnggljeicaaSa
namespace Go.Proofs.Ytoicjnggljeicaa
open Go Go.Ev
set_option maxRecDepth 100000
theorem rheard_eq (a:Raft.AN)(h:Wf a)(s d t idx:Nat)(y:Bool)(hs:s < 3)(hidx:idx≤200000)(hl:a.role=2→Ld a) :
    ref15_added (toN a) (toM (.added s d t y idx))=some (toN (Raft.takeHeard a s t y idx).1,(Raft.takeHeard a s t y idx).2.map toM):=by
  have hb:=base_le h
  have hlen:=h.len
  have hlast:=rLast_eq h
  rw [rheard_red]
  unfold Raft.takeHeard
  by_cases hg:t=a.term∧a.role=2
  · obtain ⟨rfl,hr⟩:=hg
    have hld:=hl hr s hs
    rw [if_pos ⟨rfl,hr⟩,cnf rfl,cnf (show (a.role:Int)=2 by omega),hlast,ob_some,show ok3 (s:Int)=true from in3 hs]
    cases y with
    | true =>
      simp only [Bool.not_true,cond_true,cond_false,if_true]
      have e1:moreM a (s:Int) (idx:Int)=a3i (Raft.up a.mat s (max (a.mat s) idx)):=by
        unfold moreM;rw [get3_eq _ hs,max2_nat,put3_eq _ _ hs]
      have e2:moreN a (s:Int) (idx:Int)=a3i (Raft.up a.next s (max (a.mat s) idx+1)):=by
        unfold moreN;rw [e1,get3_eq _ hs,show Raft.up a.mat s (max (a.mat s) idx) s=max (a.mat s) idx by simp [Raft.up],w64_ok (by omega),← put3_eq _ _ hs];rfl
      rw [e1,e2]
      have hwf:Wf { a with mat:=Raft.up a.mat s (max (a.mat s) idx),next:=Raft.up a.next s (max (a.mat s) idx+1) }:=⟨h.id,h.bc,h.cl,h.len,h.term,h.wait,h.role⟩
      have:=rreach_loop _ hwf (a.log.length - a.base) 1099511627776 (by simp only;omega) (by omega)
      have e3:((a.base+(a.log.length - a.base):Nat):Int)=(a.log.length:Int):=by omega
      simp only [e3] at this
      exact (congrArg (fun z=>ob z fun y=>some (y.1,([]:List Msg))) this).trans rfl
    | false =>
      simp only [Bool.not_false,cond_true,Bool.false_eq_true,if_false]
      have e0:max2 (max2 (min2 (w64 ((a.next s:Int) - 1)) (w64 ((idx:Int)+1))) 1) (w64 ((a.mat s:Int)+1))=((max (max (min (a.next s - 1) (idx+1)) 1) (a.mat s+1):Nat):Int):=by
        rw [w64_ok (n:=(a.next s:Int) - 1) (by omega),w64_ok (n:=(idx:Int)+1) (by omega),w64_ok (n:=(a.mat s:Int)+1) (by omega)]
        rw [show (a.next s:Int) - 1=((a.next s - 1:Nat):Int) by omega,show (idx:Int)+1=((idx+1:Nat):Int) by omega,show (a.mat s:Int)+1=((a.mat s+1:Nat):Int) by omega,min2_nat,show (1:Int)=((1:Nat):Int) from rfl,max2_nat,max2_nat]
      generalize hv:max (max (min (a.next s - 1) (idx+1)) 1) (a.mat s+1)=v at e0
      have hv1:1≤v:=by omega
      have e1:lessN a (s:Int) (idx:Int)=a3i (Raft.up a.next s v):=by
        unfold lessN;rw [get3_eq _ hs,get3_eq _ hs,e0,put3_eq _ _ hs]
      have eu:Raft.up a.next s v s=v:=by simp [Raft.up]
      rw [e1,get3_eq _ hs]
      have hN:({ toN a with next:=a3i (Raft.up a.next s v) }:Node)=toN { a with next:=Raft.up a.next s v }:=rfl
      rw [hN]
      by_cases hle:v≤a.log.length
      · rw [cdt (by rw [eu];omega),if_pos (by rw [eu];exact hle)]
        have hwf:Wf { a with next:=Raft.up a.next s v }:=⟨h.id,h.bc,h.cl,h.len,h.term,h.wait,h.role⟩
        rw [owes_eq hwf hs (by simp only [eu];exact hv1) (by simp only [eu];omega),ob_some]
        rfl
      · rw [cdf (by rw [eu];omega),if_neg (by rw [eu];exact hle)]
        rfl
  · rw [if_neg hg]
    have:(cond ((t:Int) != (a.term:Int)) true ((a.role:Int) != 2))=true:=by
      by_cases h1:t=a.term
      · rw [cnf (by omega)]
        exact bne_iff_ne.2 (fun h2=>hg ⟨h1,by omega⟩)
      · rw [cnt_ (by omega)]
    rw [this,cond_true]
    rfl
/-- what a snapshot leaves -/
def rsnapK (a:Raft.AN)(s idx lt:Int)(b:ByteArray)(l:List Entry):Option (Node×List Msg) :=
  some (Node.mk (a.id:Int) (a.term:Int) (vo a.vote) idx lt b l 0 idx 0 (a3b a.votes) (a3i a.next) (a3i a.mat),[Msg.mk 4 (a.id:Int) s (a.term:Int) (max2 idx (a.commit:Int)) 0 0 true [] s_empty])
theorem rsnap_red (a:Raft.AN)(s d t idx lt:Nat)(pre:Raft.Lg)(b:ByteArray):ref15_snap (toN a) (toM (.snap s d t idx lt pre b)) =
    cond (decide ((t:Int) < (a.term:Int))) (radd (toN a) (s:Int) false 0)
      (cond (decide ((idx:Int) > (a.commit:Int)))
        (ob (ref15TermAt (toN (foll a)) (idx:Int)) fun r =>
          cond (r == (lt:Int))
            (cond (decide (0≤w64 ((idx:Int) - (a.base:Int)))) (cond (decide (w64 ((idx:Int) - (a.base:Int))≤((toL (a.log.drop a.base)).length:Int))) (cond (decide (((toL (a.log.drop a.base)).length:Int)≤((toL (a.log.drop a.base)).length:Int)))
              (cond (fits (((toL (a.log.drop a.base)).take (((toL (a.log.drop a.base)).length:Int)).toNat).drop (w64 ((idx:Int) - (a.base:Int))).toNat).length)
                (rsnapK a (s:Int) (idx:Int) (lt:Int) b (((toL (a.log.drop a.base)).take (((toL (a.log.drop a.base)).length:Int)).toNat).drop (w64 ((idx:Int) - (a.base:Int))).toNat)) none) none) none) none)
            (rsnapK a (s:Int) (idx:Int) (lt:Int) b []))
        (radd (toN (foll a)) (s:Int) true (max2 (idx:Int) (a.commit:Int)))):=by kernel_rfl
theorem rsnapK_eq (a:Raft.AN)(s idx lt:Nat)(b:ByteArray)(L:Raft.Lg)(ht:Raft.tAt L idx=lt):rsnapK a (s:Int) (idx:Int) (lt:Int) b (toL (L.drop idx))=some (toN { foll a with log:=L,base:=idx,snap:=b,commit:=idx },[toM (.added a.id s a.term true (max idx a.commit))]):=by
  unfold rsnapK
  rw [max2_nat,← ht]
  rfl
theorem rsnap_eq (a:Raft.AN)(h:Wf a)(s d t idx lt:Nat)(pre:Raft.Lg)(b:ByteArray)(hidx:idx≤100000)(hpl:pre.length=idx)(hpt:Raft.tAt pre idx=lt) :
    ref15_snap (toN a) (toM (.snap s d t idx lt pre b))=some (toN (Raft.takeSnap a s t idx lt pre b).1,(Raft.takeSnap a s t idx lt pre b).2.map toM):=by
  have hb:=base_le h
  have hbc:=h.bc
  have hcl:=h.cl
  have hlen:=h.len
  have hwr:Wf (foll a):=⟨h.id,h.bc,h.cl,h.len,h.term,by simp,by simp⟩
  rw [rsnap_red]
  unfold Raft.takeSnap
  by_cases h1:t < a.term
  · rw [cdt (by omega),if_pos h1]
    rfl
  · rw [cdf (by omega),if_neg h1]
    by_cases h2:idx > a.commit
    · rw [cdt (by omega),if_pos h2]
      have hdrop:rsnapK a (s:Int) (idx:Int) (lt:Int) b []=some (toN { foll a with log:=pre,base:=idx,snap:=b,commit:=idx },[toM (.added a.id s a.term true (max idx a.commit))]):=by
        have:=rsnapK_eq a s idx lt b pre hpt
        rwa [List.drop_eq_nil_of_le (by omega)] at this
      by_cases h3:idx≤a.log.length
      · rw [rTermAt_eq hwr idx (by simp only;omega) (by simp only;omega),ob_some]
        by_cases he:Raft.tAt a.log idx=lt
        · have hw1:w64 ((idx:Int) - (a.base:Int))=((idx - a.base:Nat):Int):=by rw [w64_ok (by omega)];omega
          have hll:((toL (a.log.drop a.base)).length:Int)=((a.log.length - a.base:Nat):Int):=by rw [toL_len,List.length_drop]
          rw [cbt (by simp only;omega),if_pos ⟨h3,by omega,he⟩,hw1,hll,cdt (by omega),cdt (by omega),cdt (by omega),Int.toNat_natCast,Int.toNat_natCast]
          have hkk:((toL (a.log.drop a.base)).take (a.log.length - a.base)).drop (idx - a.base)=toL (a.log.drop idx):=by
            rw [List.take_of_length_le (by rw [toL_len,List.length_drop];exact Nat.le_refl _),toL_drop,List.drop_drop,show a.base+(idx - a.base)=idx by omega]
          rw [hkk,fits_ok (by rw [toL_len,List.length_drop];omega),cond_true,rsnapK_eq a s idx lt b a.log he]
          rfl
        · rw [cbf (by simp only;omega),if_neg (fun h=>he h.2.2),hdrop]
          rfl
      · rw [rTermAt_far hwr idx (by omega) (.inr (by simp only;omega)),ob_some,cbf (by omega),if_neg (fun h=>h3 h.1),hdrop]
        rfl
    · rw [cdf (by omega),if_neg h2,max2_nat]
      rfl
def pr (p:Node×List Msg):Option (Node×List Msg):=some (p.1,p.2)
def rdisp (m:Msg)(n:Node):Option (Node×List Msg) :=
  cond (m.kind == 1) (ob (ref15_vote n m) pr)
    (cond (m.kind == 2) (ob (ref15_voted n m) pr)
      (cond (m.kind == 3) (ob (ref15_add n m) pr)
        (cond (m.kind == 4) (ob (ref15_added n m) pr) (ob (ref15_snap n m) pr))))
theorem rtake_red (n:Node)(m:Msg):ref15Take n m =
    cond (cond (decide (m.from_ < 0)) true (cond (decide (m.from_ > 2)) true (cond (m.from_ == n.id_) true (cond (m.to_ != n.id_) true (cond (decide (m.kind < 1)) true (cond (decide (m.kind > 5)) true (cond (decide (m.term_ < 0)) true (decide (m.term_ > 1073741824))))))))) (some (n,[]))
      (cond (decide (m.term_ > n.term_)) (rdisp m { n with term_:=m.term_,vote := -1,role:=0,votes:=A3Bool.mk false false false }) (rdisp m n)):=by kernel_rfl
theorem rdisp_eq (a:Raft.AN)(h:Wf a)(hl:a.role=2→Ld a)(m:Raft.AM)(hm:Wm m)(hs:m.src < 3)(hlen:a.log.length < 100000):rdisp (toM m) (toN a)=some (toN (took a m).1,(took a m).2.map toM):=by
  cases m with
  | vote s d t idx lt=>exact (show rdisp (toM (.vote s d t idx lt)) (toN a)=ob (ref15_vote (toN a) (toM (.vote s d t idx lt))) pr from rfl).trans (by rw [rvote_eq a h,ob_some];rfl)
  | voted s d t y=>exact (show rdisp (toM (.voted s d t y)) (toN a)=ob (ref15_voted (toN a) (toM (.voted s d t y))) pr from rfl).trans (by rw [rvoted_eq a h s d t y hs hlen,ob_some];rfl)
  | add s d t idx lt es c=>exact (show rdisp (toM (.add s d t idx lt es c)) (toN a)=ob (ref15_add (toN a) (toM (.add s d t idx lt es c))) pr from rfl).trans (by rw [ref_add_eq a h s d t idx lt es c hm.1 hm.2.1 hm.2.2,ob_some];rfl)
  | added s d t y idx=>exact (show rdisp (toM (.added s d t y idx)) (toN a)=ob (ref15_added (toN a) (toM (.added s d t y idx))) pr from rfl).trans (by rw [rheard_eq a h s d t idx y hs hm hl,ob_some];rfl)
  | snap s d t idx lt pre b=>exact (show rdisp (toM (.snap s d t idx lt pre b)) (toN a)=ob (ref15_snap (toN a) (toM (.snap s d t idx lt pre b))) pr from rfl).trans (by rw [rsnap_eq a h s d t idx lt pre b hm.1 hm.2.1 hm.2.2,ob_some];rfl)
theorem rtake_eq (a:Raft.AN)(h:Wf a)(hl:a.role=2→Ld a)(m:Raft.AM)(hm:Wm m)(hs:m.src < 3)(hd:m.dst=a.id)(hne:m.src≠a.id)(ht:m.term≤1073741824)(hlen:a.log.length < 100000) :
    ref15Take (toN a) (toM m)=some (toN (Raft.take a m).1,(Raft.take a m).2.map toM):=by
  rw [take_took]
  have hk:=m_kind m
  rw [rtake_red,m_from,m_to,m_term,n_id,n_term]
  have g1:(cond (decide ((m.src:Int) < 0)) true (cond (decide ((m.src:Int) > 2)) true (cond ((m.src:Int) == (a.id:Int)) true (cond ((m.dst:Int) != (a.id:Int)) true (cond (decide ((toM m).kind < 1)) true (cond (decide ((toM m).kind > 5)) true (cond (decide ((m.term:Int) < 0)) true (decide ((m.term:Int) > 1073741824)))))))))=false:=by
    rw [cdf (by omega),cdf (by omega),cbf (by omega),cnf (by omega),cdf (by omega),cdf (by omega),cdf (by omega)]
    exact decide_eq_false (by omega)
  rw [g1,cond_false]
  by_cases hb:m.term > a.term
  · rw [cdt (by omega)]
    have hbm:Raft.bumpA a m.term={ a with term:=m.term,vote:=none,role:=0,votes:=fun _=>false }:=by unfold Raft.bumpA;rw [if_pos hb]
    rw [hbm]
    have hwf:Wf { a with term:=m.term,vote:=none,role:=0,votes:=fun _=>false }:=⟨h.id,h.bc,h.cl,h.len,ht,h.wait,by simp⟩
    exact rdisp_eq _ hwf (by simp) m hm hs hlen
  · rw [cdf (by omega)]
    have hbm:Raft.bumpA a m.term=a:=by unfold Raft.bumpA;rw [if_neg hb]
    rw [hbm]
    exact rdisp_eq a h hl m hm hs hlen
theorem rwake_eq (a:Raft.AN)(h:Wf a):ref15Wake (toN a)=some (toN (Raft.wake a)):=by
  have hlog:=h.log
  unfold ref15Wake
  rw [List.nil_append,fits_ok (by omega),cond_true]
  rfl
theorem rpropose_red (n:Node)(s:ByteArray):ref15Propose n s =
    cond (n.role != 2) (some (n,0,21)) (cond (sEq s s_empty) (some (n,0,1))
      (cond (fits n.log.length) (cond (fits (n.log++[Entry.mk n.term_ s]).length) (ob (ref15Last { n with log:=n.log++[Entry.mk n.term_ s] }) fun q =>
        cond (ok3 n.id_) (some ({ n with log:=n.log++[Entry.mk n.term_ s],match_:=put3 n.match_ n.id_ q.1 },q.1,0)) none) none) none)):=by kernel_rfl
theorem rpropose_eq (a:Raft.AN)(h:Wf a)(hlen:a.log.length < 100000)(s:ByteArray):ref15Propose (toN a) s=some (toN (prop a s).1,(prop a s).2):=by
  have hlog:=h.log
  have hb:=base_le h
  rw [rpropose_red,n_role]
  unfold prop
  by_cases hr:a.role=2
  · rw [cnf (by omega),if_pos hr]
    cases hs:sEq s s_empty with
    | true=>rfl
    | false =>
      rw [cond_false,if_neg (by simp)]
      have hwf:Wf { a with log:=a.log++[(a.term,s)] }:=⟨h.id,h.bc,by simp only [List.length_append,List.length_singleton];have:=h.cl;omega,by simp only [List.length_append,List.length_singleton];omega,h.term,h.wait,h.role⟩
      have hlast:=rLast_eq hwf
      have hlogL:(toN a).log++[Entry.mk (toN a).term_ s]=toL ((a.log++[(a.term,s)]).drop a.base):=by
        rw [n_log,n_term,show [Entry.mk (a.term:Int) s]=toL [(a.term,s)] from rfl,toL_append,List.drop_append_of_le_length hb]
      have hll:(toL ((a.log++[(a.term,s)]).drop a.base)).length≤1000000:=by rw [toL_len,List.length_drop,List.length_append,List.length_singleton];omega
      rw [hlogL,fits_ok (by omega),cond_true,fits_ok (by omega),cond_true]
      have hbt:(toN a).baseTerm=(Raft.tAt (a.log++[(a.term,s)]) a.base:Int):=by rw [n_bt,Raft.tAt_append hb]
      have e1:({ toN a with log:=toL ((a.log++[(a.term,s)]).drop a.base) }:Node)=toN { a with log:=a.log++[(a.term,s)] }:=by
        rw [show toN { a with log:=a.log++[(a.term,s)] }={ toN a with log:=toL ((a.log++[(a.term,s)]).drop a.base),baseTerm:=(Raft.tAt (a.log++[(a.term,s)]) a.base:Int) } from rfl,← hbt]
      refine (congrArg (fun z=>ob z _) ((congrArg ref15Last e1).trans hlast)).trans ?_
      rw [ob_some,n_id,show ok3 (a.id:Int)=true from in3 h.id,cond_true]
      dsimp only
      have hln:((a.log++[(a.term,s)]).length:Int)=((a.log.length+1:Nat):Int):=by simp
      rw [hln,n_mat,put3_eq _ _ h.id]
      have e2:({ toN a with log:=toL ((a.log++[(a.term,s)]).drop a.base),match_:=a3i (Raft.up a.mat a.id (a.log.length+1)) }:Node)=toN (Raft.propose a s):=by
        rw [show toN (Raft.propose a s)={ toN a with log:=toL ((a.log++[(a.term,s)]).drop a.base),baseTerm:=(Raft.tAt (a.log++[(a.term,s)]) a.base:Int),match_:=a3i (Raft.up a.mat a.id (a.log.length+1)) } from rfl,← hbt]
      exact congrArg some (congrArg (fun z=>(z,((a.log.length+1:Nat):Int),(0:Int))) e2)
  · rw [cnt_ (by omega),if_neg hr]
theorem rcompact_no (a:Raft.AN)(i:Int)(s:ByteArray)(hi:i≤(a.base:Int)):ref15Compact (toN a) i s=some (toN a,1):=by
  unfold ref15Compact
  rw [n_base,cdt hi,cond_true]
theorem rcompact_red (n:Node)(i:Int)(s:ByteArray):ref15Compact n i s =
    cond (cond (decide (i≤n.base)) true (decide (i > n.commit))) (some (n,1)) (ob (ref15TermAt n i) fun r =>
      cond (decide (0≤w64 (i - n.base))) (cond (decide (w64 (i - n.base)≤(n.log.length:Int))) (cond (decide ((n.log.length:Int)≤(n.log.length:Int)))
        (cond (fits ((n.log.take ((n.log.length:Int)).toNat).drop (w64 (i - n.base)).toNat).length) (some ({ n with base:=i,baseTerm:=r,snap:=s,log:=(n.log.take ((n.log.length:Int)).toNat).drop (w64 (i - n.base)).toNat },0)) none) none) none) none):=by kernel_rfl
theorem rcompact_eq (a:Raft.AN)(h:Wf a)(idx:Nat)(s:ByteArray)(h1:a.base < idx)(h2:idx≤a.commit):ref15Compact (toN a) (idx:Int) s=some (toN (Raft.compact a idx s),0):=by
  have hb:=base_le h
  have hcl:=h.cl
  have hlen:=h.len
  have hw1:w64 ((idx:Int) - (a.base:Int))=((idx - a.base:Nat):Int):=by rw [w64_ok (by omega)];omega
  have hll:((toN a).log.length:Int)=((a.log.length - a.base:Nat):Int):=by rw [n_log,toL_len,List.length_drop]
  rw [rcompact_red,n_base,n_commit,cdf (by omega),decide_eq_false (by omega),cond_false,rTermAt_eq h idx (by omega) (by omega),ob_some,hw1,hll,cdt (by omega),cdt (by omega),cdt (by omega),Int.toNat_natCast,Int.toNat_natCast,n_log]
  have hkk:((toL (a.log.drop a.base)).take (a.log.length - a.base)).drop (idx - a.base)=toL (a.log.drop idx):=by
    rw [List.take_of_length_le (by rw [toL_len,List.length_drop];exact Nat.le_refl _),toL_drop,List.drop_drop,show a.base+(idx - a.base)=idx by omega]
  rw [hkk,fits_ok (by rw [toL_len,List.length_drop];omega),cond_true]
  rfl
end Go.Proofs.Ytoicjnggljeicaa
