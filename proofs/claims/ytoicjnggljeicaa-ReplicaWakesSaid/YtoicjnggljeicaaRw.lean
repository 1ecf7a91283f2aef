/- The program's replicas are Raft's nodes: what is taken, proposed, cut away, woken. -/
import Derived.Test.YtoicjnggljeicaaRv
namespace Go.Proofs.Ytoicjnggljeicaa
open Go Go.Ev
set_option maxRecDepth 100000
def fin (w:Worker):Option (Node×List Msg):=ob (own w.node.log) fun r=>some ({ w.node with log:=r },w.out)
def disp (m:Msg)(n:Node):Option (Node×List Msg) :=
  cond (m.kind == 1) (ob (vote m (Worker.mk n [])) fin)
    (cond (m.kind == 2) (ob (voted m (Worker.mk n [])) fin)
      (cond (m.kind == 3) (ob (add m (Worker.mk n [])) fin)
        (cond (m.kind == 4) (ob (heard m (Worker.mk n [])) fin)
          (cond (m.kind == 5) (ob (snap m (Worker.mk n [])) fin) (fin (Worker.mk n []))))))
theorem take_red (n:Node)(m:Msg):take n m=ob (own n.log) fun r =>
    cond (cond (decide (m.from_ < 0)) true (cond (decide (m.from_≥3)) true (cond (m.from_ == n.id_) true (m.to_ != n.id_)))) (fin (Worker.mk { n with log:=r } []))
      (cond (cond (decide (m.kind < 1)) true (cond (decide (m.kind > 5)) true (cond (decide (m.term_ < 0)) true (decide (m.term_ > 1073741824))))) (fin (Worker.mk { n with log:=r } []))
        (cond (decide (m.term_ > n.term_)) (disp m { n with term_:=m.term_,vote := -1,role:=0,votes:=A3Bool.mk false false false,log:=r }) (disp m { n with log:=r }))):=by kernel_rfl
theorem fin_eq (a:Raft.AN)(l:List Msg)(h:a.log.length≤200000):fin (Worker.mk (toN a) l)=some (toN a,l):=by
  unfold fin
  dsimp only
  rw [own_eq _ (by rw [n_log,toL_len,List.length_drop];omega),ob_some]
/-- bounds of a message -/
def Wm:Raft.AM→Prop
  | .vote _ _ _ _ _=>True
  | .voted _ _ _ _=>True
  | .add _ _ _ idx lt es _=>es.length≤100000∧idx≤100000∧(idx=0→lt=0)
  | .added _ _ _ _ idx=>idx≤200000
  | .snap _ _ _ idx lt pre _=>idx≤100000∧pre.length=idx∧Raft.tAt pre idx=lt
theorem m_from (m:Raft.AM):(toM m).from_=(m.src:Int):=by cases m<;>rfl
theorem m_to (m:Raft.AM):(toM m).to_=(m.dst:Int):=by cases m<;>rfl
theorem m_term (m:Raft.AM):(toM m).term_=(m.term:Int):=by cases m<;>rfl
theorem m_kind (m:Raft.AM):1≤(toM m).kind∧(toM m).kind≤5:=by cases m<;>simp [toM]
/-- what is done with a message of its own term, or of an elder one -/
def took (a:Raft.AN):Raft.AM→Raft.AN×List Raft.AM
  | .vote s _ t idx lt=>Raft.takeVote a s t idx lt
  | .voted s _ t y=>Raft.takeVoted a s t y
  | .add s _ t idx lt es c=>Raft.takeAdd a s t idx lt es c
  | .added s _ t y idx=>Raft.takeHeard a s t y idx
  | .snap s _ t idx lt pre b=>Raft.takeSnap a s t idx lt pre b
theorem disp_eq (a:Raft.AN)(h:Wf a)(hl:a.role=2→Ld a)(m:Raft.AM)(hm:Wm m)(hs:m.src < 3)(hlen:a.log.length < 100000)(hr:(took a m).1.log.length≤200000):disp (toM m) (toN a)=some (toN (took a m).1,(took a m).2.map toM):=by
  cases m with
  | vote s d t idx lt =>
    exact (show disp (toM (.vote s d t idx lt)) (toN a)=ob (vote (toM (.vote s d t idx lt)) (Worker.mk (toN a) [])) fin from rfl).trans (by rw [vote_eq a h,ob_some];exact fin_eq _ _ hr)
  | voted s d t y =>
    exact (show disp (toM (.voted s d t y)) (toN a)=ob (voted (toM (.voted s d t y)) (Worker.mk (toN a) [])) fin from rfl).trans (by rw [voted_eq a h s d t y hs hlen,ob_some];exact fin_eq _ _ hr)
  | add s d t idx lt es c =>
    exact (show disp (toM (.add s d t idx lt es c)) (toN a)=ob (add (toM (.add s d t idx lt es c)) (Worker.mk (toN a) [])) fin from rfl).trans (by rw [add_eq a h s d t idx lt es c hm.1 hm.2.1 hm.2.2,ob_some];exact fin_eq _ _ hr)
  | added s d t y idx =>
    exact (show disp (toM (.added s d t y idx)) (toN a)=ob (heard (toM (.added s d t y idx)) (Worker.mk (toN a) [])) fin from rfl).trans (by rw [heard_eq a h s d t idx y hs hm hl,ob_some];exact fin_eq _ _ hr)
  | snap s d t idx lt pre b =>
    exact (show disp (toM (.snap s d t idx lt pre b)) (toN a)=ob (snap (toM (.snap s d t idx lt pre b)) (Worker.mk (toN a) [])) fin from rfl).trans (by rw [snap_eq a h s d t idx lt pre b hm.1 hm.2.1 hm.2.2,ob_some];exact fin_eq _ _ hr)
theorem take_took (a:Raft.AN)(m:Raft.AM):Raft.take a m=took (Raft.bumpA a m.term) m:=by cases m<;>rfl
theorem take_eq (a:Raft.AN)(h:Wf a)(hl:a.role=2→Ld a)(m:Raft.AM)(hm:Wm m)(hs:m.src < 3)(hd:m.dst=a.id)(hne:m.src≠a.id)(ht:m.term≤1073741824)(hlen:a.log.length < 100000)(hr:(Raft.take a m).1.log.length≤200000) :
    take (toN a) (toM m)=some (toN (Raft.take a m).1,(Raft.take a m).2.map toM):=by
  rw [take_took] at hr ⊢
  have hk:=m_kind m
  rw [take_red,own_eq _ (by have:=h.log;omega),ob_some,m_from,m_to,m_term,n_id,n_term]
  have g1:(cond (decide ((m.src:Int) < 0)) true (cond (decide ((m.src:Int)≥3)) true (cond ((m.src:Int) == (a.id:Int)) true ((m.dst:Int) != (a.id:Int)))))=false:=by
    rw [cdf (by omega),cdf (by omega),cbf (by omega),hd]
    simp
  have g2:(cond (decide ((toM m).kind < 1)) true (cond (decide ((toM m).kind > 5)) true (cond (decide ((m.term:Int) < 0)) true (decide ((m.term:Int) > 1073741824)))))=false:=by
    rw [cdf (by omega),cdf (by omega),cdf (by omega)]
    exact decide_eq_false (by omega)
  rw [g1,g2,cond_false,cond_false]
  by_cases hb:m.term > a.term
  · rw [cdt (by omega)]
    have hbm:Raft.bumpA a m.term={ a with term:=m.term,vote:=none,role:=0,votes:=fun _=>false }:=by unfold Raft.bumpA;rw [if_pos hb]
    rw [hbm] at hr ⊢
    have hwf:Wf { a with term:=m.term,vote:=none,role:=0,votes:=fun _=>false }:=⟨h.id,h.bc,h.cl,h.len,ht,h.wait,by simp⟩
    exact disp_eq _ hwf (by simp) m hm hs hlen hr
  · rw [cdf (by omega)]
    have hbm:Raft.bumpA a m.term=a:=by unfold Raft.bumpA;rw [if_neg hb]
    rw [hbm] at hr ⊢
    exact disp_eq a h hl m hm hs hlen hr
theorem wake_eq (a:Raft.AN)(h:Wf a):wake (toN a)=some (toN (Raft.wake a)):=by
  have hlog:=h.log
  unfold wake
  rw [own_eq _ (by omega),ob_some]
  rfl
theorem propose_red (n:Node)(s:ByteArray):propose n s=ob (own n.log) fun r =>
    cond (n.role != 2) (some ({ n with log:=r },0,21))
      (cond (sEq s s_empty) (some ({ n with log:=r },0,1))
        (cond (fits (r++[Entry.mk n.term_ s]).length) (ob (last_ { n with log:=r++[Entry.mk n.term_ s] }) fun q =>
          cond (ok3 n.id_) (ob (own (r++[Entry.mk n.term_ s])) fun r2=>some ({ n with log:=r2,match_:=put3 n.match_ n.id_ q.1 },q.1,0)) none) none)):=by kernel_rfl
/-- what a proposal does -/
def prop (a:Raft.AN)(s:ByteArray):Raft.AN×Int×Int:=if a.role=2 then (if sEq s s_empty=true then (a,0,1) else (Raft.propose a s,((a.log.length+1:Nat):Int),0)) else (a,0,21)
theorem propose_eq (a:Raft.AN)(h:Wf a)(hlen:a.log.length < 100000)(s:ByteArray):propose (toN a) s=some (toN (prop a s).1,(prop a s).2):=by
  have hlog:=h.log
  have hb:=base_le h
  rw [propose_red,own_eq _ (by omega),ob_some,n_role]
  unfold prop
  by_cases hr:a.role=2
  · rw [cnf (by omega),if_pos hr]
    cases hs:sEq s s_empty with
    | true=>rfl
    | false =>
      rw [cond_false,if_neg (by simp)]
      have hwf:Wf { a with log:=a.log++[(a.term,s)] }:=⟨h.id,h.bc,by simp only [List.length_append,List.length_singleton];have:=h.cl;omega,by simp only [List.length_append,List.length_singleton];omega,h.term,h.wait,h.role⟩
      have hlast:=last_eq hwf
      have hlogL:(toN a).log++[Entry.mk (toN a).term_ s]=toL ((a.log++[(a.term,s)]).drop a.base):=by
        rw [n_log,n_term,show [Entry.mk (a.term:Int) s]=toL [(a.term,s)] from rfl,toL_append,List.drop_append_of_le_length hb]
      have hll:(toL ((a.log++[(a.term,s)]).drop a.base)).length≤1000000:=by rw [toL_len,List.length_drop,List.length_append,List.length_singleton];omega
      rw [hlogL,fits_ok (by omega),cond_true]
      have hbt:(toN a).baseTerm=(Raft.tAt (a.log++[(a.term,s)]) a.base:Int):=by rw [n_bt,Raft.tAt_append hb]
      have e1:({ toN a with log:=toL ((a.log++[(a.term,s)]).drop a.base) }:Node)=toN { a with log:=a.log++[(a.term,s)] }:=by
        rw [show toN { a with log:=a.log++[(a.term,s)] }={ toN a with log:=toL ((a.log++[(a.term,s)]).drop a.base),baseTerm:=(Raft.tAt (a.log++[(a.term,s)]) a.base:Int) } from rfl,← hbt]
      refine (congrArg (fun z=>ob z _) ((congrArg last_ e1).trans hlast)).trans ?_
      rw [ob_some,n_id,show ok3 (a.id:Int)=true from in3 h.id,cond_true,own_eq _ (by omega),ob_some]
      dsimp only
      have hln:((a.log++[(a.term,s)]).length:Int)=((a.log.length+1:Nat):Int):=by simp
      rw [hln,n_mat,put3_eq _ _ h.id]
      have e2:({ toN a with log:=toL ((a.log++[(a.term,s)]).drop a.base),match_:=a3i (Raft.up a.mat a.id (a.log.length+1)) }:Node)=toN (Raft.propose a s):=by
        rw [show toN (Raft.propose a s)={ toN a with log:=toL ((a.log++[(a.term,s)]).drop a.base),baseTerm:=(Raft.tAt (a.log++[(a.term,s)]) a.base:Int),match_:=a3i (Raft.up a.mat a.id (a.log.length+1)) } from rfl,← hbt]
      exact congrArg some (congrArg (fun z=>(z,((a.log.length+1:Nat):Int),(0:Int))) e2)
  · rw [cnt_ (by omega),if_neg hr]
    rfl
theorem compact_red (n:Node)(i:Int)(s:ByteArray):compact n i s=ob (own n.log) fun r=>ob (last_ { n with log:=r }) fun q =>
    cond (cond (decide (i≤n.base)) true (cond (decide (i > n.commit)) true (decide (i > q.1)))) (some ({ n with log:=r },1))
      (cond (cond (decide (w64 (w64 (i - n.base) - 1)≥0)) (decide (w64 (w64 (i - n.base) - 1) < (r.length:Int))) false)
        (cond (decide (0≤w64 (w64 (i - n.base) - 1))) (cond (decide (w64 (w64 (i - n.base) - 1) < (r.length:Int))) (ob (r[(w64 (w64 (i - n.base) - 1)).toNat]?) fun e =>
          cond (decide (0≤w64 (i - n.base))) (cond (decide (w64 (i - n.base)≤(r.length:Int))) (cond (decide ((r.length:Int)≤(r.length:Int))) (ob (own ((r.take ((r.length:Int)).toNat).drop (w64 (i - n.base)).toNat)) fun r3 =>
            some ({ n with base:=i,baseTerm:=e.term_,snap:=s,log:=r3 },0)) none) none) none) none) none)
        (cond (decide (0≤w64 (i - n.base))) (cond (decide (w64 (i - n.base)≤(r.length:Int))) (cond (decide ((r.length:Int)≤(r.length:Int))) (ob (own ((r.take ((r.length:Int)).toNat).drop (w64 (i - n.base)).toNat)) fun r4 =>
            some ({ n with base:=i,snap:=s,log:=r4 },0)) none) none) none)):=by kernel_rfl
theorem compact_no (a:Raft.AN)(h:Wf a)(i:Int)(s:ByteArray)(hi:i≤(a.base:Int)):compact (toN a) i s=some (toN a,1):=by
  have hlog:=h.log
  rw [compact_red,own_eq _ (by omega),ob_some,show ({ toN a with log:=(toN a).log }:Node)=toN a from rfl,last_eq h,ob_some,n_base,cdt hi,cond_true]
theorem compact_eq (a:Raft.AN)(h:Wf a)(idx:Nat)(s:ByteArray)(h1:a.base < idx)(h2:idx≤a.commit):compact (toN a) (idx:Int) s=some (toN (Raft.compact a idx s),0):=by
  have hlog:=h.log
  have hb:=base_le h
  have hcl:=h.cl
  have hlen:=h.len
  have hll:((toN a).log.length:Int)=((a.log.length - a.base:Nat):Int):=by rw [n_log,toL_len,List.length_drop]
  obtain ⟨j,hj⟩:∃ j,idx=a.base+j+1:=⟨idx - a.base - 1,by omega⟩
  have hw1:w64 ((idx:Int) - (a.base:Int))=((j+1:Nat):Int):=by rw [w64_ok (by omega)];omega
  have hw2:w64 (((j+1:Nat):Int) - 1)=(j:Int):=by rw [w64_ok (by omega)];omega
  rw [compact_red,own_eq _ (by omega),ob_some,show ({ toN a with log:=(toN a).log }:Node)=toN a from rfl,last_eq h,ob_some,n_base,n_commit]
  dsimp only
  rw [cdf (by omega),cdf (by omega),hw1,hw2,hll]
  rw [show decide ((idx:Int) > (a.log.length:Int))=false from decide_eq_false (by omega),cond_false]
  obtain ⟨x,hx,_,hxt⟩:=log_get a.log a.base j (by omega)
  rw [← hj] at hxt
  rw [cdt (show (j:Int)≥0 by omega),decide_eq_true (show (j:Int) < ((a.log.length - a.base:Nat):Int) by omega),cond_true,cdt (show (0:Int)≤(j:Int) by omega),cond_true,Int.toNat_natCast,n_log,hx,ob_some]
  rw [cdt (by omega),cdt (by omega),cdt (by omega),Int.toNat_natCast,Int.toNat_natCast]
  have hkk:((toL (a.log.drop a.base)).take (a.log.length - a.base)).drop (j+1)=toL (a.log.drop idx):=by
    rw [List.take_of_length_le (by rw [toL_len,List.length_drop];exact Nat.le_refl _),toL_drop,List.drop_drop,hj]
    rfl
  rw [hkk,own_eq _ (by rw [toL_len,List.length_drop];omega),ob_some,show (toE x).term_=(Raft.tAt a.log idx:Int) by rw [hxt];rfl]
  rfl
end Go.Proofs.Ytoicjnggljeicaa
