/- The program's replicas are Raft's nodes: what is heard, snapshots. -/
import Derived.Test.YtoicjnggljeicaaRu
namespace Go.Proofs.Ytoicjnggljeicaa
open Go Go.Ev
set_option maxRecDepth 100000
def put3 (m:A3Int)(s v:Int):A3Int:=A3Int.mk (cond (decide (s=0)) v m.a0) (cond (decide (s=1)) v m.a1) (cond (decide (s=2)) v m.a2)
def get3 (m:A3Int)(s:Int):Int:=cond (decide (s=0)) m.a0 (cond (decide (s=1)) m.a1 m.a2)
abbrev ok3 (s:Int):Bool:=decide (0≤s) && decide (s < 3)
theorem put3_eq (f:Nat→Nat){s:Nat}(v:Nat)(h:s < 3):put3 (a3i f) (s:Int) (v:Int)=a3i (Raft.up f s v):=by
  match s,h with
  | 0,_=>rfl
  | 1,_=>rfl
  | 2,_=>rfl
theorem get3_eq (f:Nat→Nat){s:Nat}(h:s < 3):get3 (a3i f) (s:Int)=(f s:Int):=sel3 f h
def lessN (a:Raft.AN)(s idx:Int):A3Int:=put3 (a3i a.next) s (max2 (max2 (min2 (w64 (get3 (a3i a.next) s - 1)) (w64 (idx+1))) 1) (w64 (get3 (a3i a.mat) s+1)))
def moreM (a:Raft.AN)(s idx:Int):A3Int:=put3 (a3i a.mat) s (max2 (get3 (a3i a.mat) s) idx)
def moreN (a:Raft.AN)(s idx:Int):A3Int:=put3 (a3i a.next) s (w64 (get3 (moreM a s idx) s+1))
theorem heard_red (a:Raft.AN)(s d t idx:Nat)(y:Bool):heard (toM (.added s d t y idx)) (Worker.mk (toN a) []) =
    cond (cond ((t:Int) != (a.term:Int)) true ((a.role:Int) != 2)) (some (Worker.mk (toN a) []))
      (cond y
        (cond (ok3 (s:Int)) (cond (ok3 (s:Int)) (cond (ok3 (s:Int)) (cond (ok3 (s:Int)) (ob (reach (Worker.mk { toN a with next:=moreN a (s:Int) (idx:Int),match_:=moreM a (s:Int) (idx:Int) } [])) fun z=>some z) none) none) none) none)
        (cond (ok3 (s:Int)) (cond (ok3 (s:Int)) (cond (ok3 (s:Int)) (ob (last_ (toN a)) fun r =>
          cond (ok3 (s:Int)) (cond (decide (get3 (lessN a (s:Int) (idx:Int)) (s:Int)≤r.1)) (ob (owe (s:Int) (Worker.mk { toN a with next:=lessN a (s:Int) (idx:Int) } [])) fun z=>some z) (some (Worker.mk { toN a with next:=lessN a (s:Int) (idx:Int) } []))) none) none) none) none)):=by kernel_rfl
theorem heard_eq (a:Raft.AN)(h:Wf a)(s d t idx:Nat)(y:Bool)(hs:s < 3)(hidx:idx≤200000)(hl:a.role=2→Ld a) :
    heard (toM (.added s d t y idx)) (Worker.mk (toN a) [])=some (Worker.mk (toN (Raft.takeHeard a s t y idx).1) ((Raft.takeHeard a s t y idx).2.map toM)):=by
  have hb:=base_le h
  have hlen:=h.len
  have hlast:=last_eq h
  rw [heard_red]
  unfold Raft.takeHeard
  by_cases hg:t=a.term∧a.role=2
  · obtain ⟨rfl,hr⟩:=hg
    have hld:=hl hr s hs
    have hmt:=hld.2.2
    rw [if_pos ⟨rfl,hr⟩,cnf rfl,cnf (show (a.role:Int)=2 by omega),show ok3 (s:Int)=true from in3 hs]
    cases y with
    | true =>
      simp only [cond_true,if_true]
      have e1:moreM a (s:Int) (idx:Int)=a3i (Raft.up a.mat s (max (a.mat s) idx)):=by
        unfold moreM;rw [get3_eq _ hs,max2_nat,put3_eq _ _ hs]
      have e2:moreN a (s:Int) (idx:Int)=a3i (Raft.up a.next s (max (a.mat s) idx+1)):=by
        unfold moreN;rw [e1,get3_eq _ hs,show Raft.up a.mat s (max (a.mat s) idx) s=max (a.mat s) idx by simp [Raft.up],w64_ok (by omega),← put3_eq _ _ hs];rfl
      rw [e1,e2]
      have:=reach_eq { a with mat:=Raft.up a.mat s (max (a.mat s) idx),next:=Raft.up a.next s (max (a.mat s) idx+1) } hb hlen
      exact (congrArg (fun z=>ob z fun y=>some y) this).trans rfl
    | false =>
      simp only [cond_true,cond_false,Bool.false_eq_true,if_false]
      rw [hlast,ob_some]
      have e0:max2 (max2 (min2 (w64 ((a.next s:Int) - 1)) (w64 ((idx:Int)+1))) 1) (w64 ((a.mat s:Int)+1))=((max (max (min (a.next s - 1) (idx+1)) 1) (a.mat s+1):Nat):Int):=by
        rw [w64_ok (n:=(a.next s:Int) - 1) (by omega),w64_ok (n:=(idx:Int)+1) (by omega),w64_ok (n:=(a.mat s:Int)+1) (by omega)]
        rw [show (a.next s:Int) - 1=((a.next s - 1:Nat):Int) by omega,show (idx:Int)+1=((idx+1:Nat):Int) by omega,show (a.mat s:Int)+1=((a.mat s+1:Nat):Int) by omega,min2_nat,show (1:Int)=((1:Nat):Int) from rfl,max2_nat,max2_nat]
      generalize hv:max (max (min (a.next s - 1) (idx+1)) 1) (a.mat s+1)=v at e0
      have hv1:1≤v:=by omega
      have e1:lessN a (s:Int) (idx:Int)=a3i (Raft.up a.next s v):=by
        unfold lessN;rw [get3_eq _ hs,get3_eq _ hs,e0,put3_eq _ _ hs]
      have eu:Raft.up a.next s v s=v:=by simp [Raft.up]
      rw [e1,get3_eq _ hs]
      dsimp only
      have hN:({ toN a with next:=a3i (Raft.up a.next s v) }:Node)=toN { a with next:=Raft.up a.next s v }:=rfl
      rw [hN]
      by_cases hle:v≤a.log.length
      · rw [cdt (by rw [eu];omega),if_pos (by rw [eu];exact hle)]
        have hwf:Wf { a with next:=Raft.up a.next s v }:=⟨h.id,h.bc,h.cl,h.len,h.term,h.wait,h.role⟩
        rw [owe_eq hwf hs (by simp only [eu];exact hv1) (by simp only [eu];omega) [] (by simp),ob_some]
        rfl
      · rw [cdf (by rw [eu];omega),if_neg (by rw [eu];exact hle)]
        rfl
  · rw [if_neg hg]
    have:(cond ((t:Int) != (a.term:Int)) true ((a.role:Int) != 2))=true:=by
      by_cases h1:t=a.term
      · rw [cnf (by omega)]
        exact bne_iff_ne.2 (fun h2=>hg ⟨h1,by omega⟩)
      · rw [cnt_ (by omega)]
    rw [this,cond_true]
    rfl
/-- what a snapshot leaves -/
def snapK (a:Raft.AN)(s idx lt:Int)(b:ByteArray)(l:List Entry):Option Worker :=
  ob (own l) fun r=>ob (added s true (max2 idx (a.commit:Int)) (Worker.mk (Node.mk (a.id:Int) (a.term:Int) (vo a.vote) idx lt b r 0 idx 0 (a3b a.votes) (a3i a.next) (a3i a.mat)) [])) fun z=>some z
def keepK (a:Raft.AN)(s idx lt k len:Int)(lg:List Entry)(b:ByteArray):Option Worker :=
  cond (decide (0≤k)) (cond (decide (k≤len)) (cond (decide (len≤len)) (snapK a s idx lt b ((lg.take len.toNat).drop k.toNat)) none) none) none
theorem snap_red (a:Raft.AN)(s d t idx lt:Nat)(pre:Raft.Lg)(b:ByteArray):snap (toM (.snap s d t idx lt pre b)) (Worker.mk (toN a) []) =
    cond (decide ((t:Int) < (a.term:Int))) (ob (added (s:Int) false 0 (Worker.mk (toN a) [])) fun y=>some y)
      (cond (decide ((idx:Int) > (a.commit:Int)))
        (ob (last_ (toN (foll a))) fun r =>
          cond (decide ((idx:Int)≤r.1))
            (cond (decide ((idx:Int) > (a.base:Int)))
              (cond (cond (decide (w64 (w64 ((idx:Int) - (a.base:Int)) - 1)≥0)) (decide (w64 (w64 ((idx:Int) - (a.base:Int)) - 1) < ((toL (a.log.drop a.base)).length:Int))) false)
                (cond (decide (0≤w64 (w64 ((idx:Int) - (a.base:Int)) - 1))) (cond (decide (w64 (w64 ((idx:Int) - (a.base:Int)) - 1) < ((toL (a.log.drop a.base)).length:Int)))
                  (ob ((toL (a.log.drop a.base))[(w64 (w64 ((idx:Int) - (a.base:Int)) - 1)).toNat]?) fun e =>
                    cond (e.term_ == (lt:Int)) (keepK a (s:Int) (idx:Int) (lt:Int) (w64 ((idx:Int) - (a.base:Int))) ((toL (a.log.drop a.base)).length:Int) (toL (a.log.drop a.base)) b) (snapK a (s:Int) (idx:Int) (lt:Int) b [])) none) none)
                (cond ((Raft.tAt a.log a.base:Int) == (lt:Int)) (keepK a (s:Int) (idx:Int) (lt:Int) (w64 ((idx:Int) - (a.base:Int))) ((toL (a.log.drop a.base)).length:Int) (toL (a.log.drop a.base)) b) (snapK a (s:Int) (idx:Int) (lt:Int) b [])))
              (snapK a (s:Int) (idx:Int) (lt:Int) b []))
            (snapK a (s:Int) (idx:Int) (lt:Int) b []))
        (ob (added (s:Int) true (max2 (idx:Int) (a.commit:Int)) (Worker.mk (toN (foll a)) [])) fun y=>some y)):=by kernel_rfl
theorem snapK_eq (a:Raft.AN)(s idx lt:Nat)(b:ByteArray)(L:Raft.Lg)(hl:L.length≤200000)(ht:Raft.tAt L idx=lt):snapK a (s:Int) (idx:Int) (lt:Int) b (toL (L.drop idx))=some (Worker.mk (toN { foll a with log:=L,base:=idx,snap:=b,commit:=idx }) [toM (.added a.id s a.term true (max idx a.commit))]):=by
  unfold snapK
  rw [own_eq _ (by rw [toL_len,List.length_drop];omega),ob_some,max2_nat]
  have e:Node.mk (a.id:Int) (a.term:Int) (vo a.vote) (idx:Int) (lt:Int) b (toL (L.drop idx)) 0 (idx:Int) 0 (a3b a.votes) (a3i a.next) (a3i a.mat)=toN { foll a with log:=L,base:=idx,snap:=b,commit:=idx }:=by
    rw [← ht];rfl
  rw [e,added_eq _ s (max idx a.commit) true _ rfl,ob_some]
theorem snap_eq (a:Raft.AN)(h:Wf a)(s d t idx lt:Nat)(pre:Raft.Lg)(b:ByteArray)(hidx:idx≤100000)(hpl:pre.length=idx)(hpt:Raft.tAt pre idx=lt) :
    snap (toM (.snap s d t idx lt pre b)) (Worker.mk (toN a) [])=some (Worker.mk (toN (Raft.takeSnap a s t idx lt pre b).1) ((Raft.takeSnap a s t idx lt pre b).2.map toM)):=by
  have hb:=base_le h
  have hbc:=h.bc
  have hcl:=h.cl
  have hlen:=h.len
  have hwr:Wf (foll a):=⟨h.id,h.bc,h.cl,h.len,h.term,by simp,by simp⟩
  have hlast:=last_eq hwr
  rw [snap_red]
  unfold Raft.takeSnap
  by_cases h1:t < a.term
  · rw [cdt (by omega),if_pos h1,added_eq a s 0 false 0 rfl,ob_some]
    rfl
  · rw [cdf (by omega),if_neg h1]
    by_cases h2:idx > a.commit
    · rw [cdt (by omega),if_pos h2,hlast,ob_some]
      dsimp only
      have hdrop:snapK a (s:Int) (idx:Int) (lt:Int) b []=some (Worker.mk (toN { foll a with log:=pre,base:=idx,snap:=b,commit:=idx }) [toM (.added a.id s a.term true (max idx a.commit))]):=by
        have:=snapK_eq a s idx lt b pre (by omega) hpt
        rwa [List.drop_eq_nil_of_le (by omega)] at this
      by_cases h3:idx≤a.log.length
      · rw [cdt (by omega),cdt (by omega)]
        obtain ⟨j,hj⟩:∃ j,idx=a.base+j+1:=⟨idx - a.base - 1,by omega⟩
        have hw1:w64 ((idx:Int) - (a.base:Int))=((j+1:Nat):Int):=by rw [w64_ok (by omega)];omega
        have hw2:w64 (((j+1:Nat):Int) - 1)=(j:Int):=by rw [w64_ok (by omega)];omega
        have hll:((toL (a.log.drop a.base)).length:Int)=((a.log.length - a.base:Nat):Int):=by rw [toL_len,List.length_drop]
        rw [hw1,hw2,hll]
        obtain ⟨x,hx,_,hxt⟩:=log_get a.log a.base j (by omega)
        rw [← hj] at hxt
        rw [cdt (show (j:Int)≥0 by omega),decide_eq_true (show (j:Int) < ((a.log.length - a.base:Nat):Int) by omega),cond_true,cdt (show (0:Int)≤(j:Int) by omega),cond_true,Int.toNat_natCast,hx,ob_some]
        by_cases he:Raft.tAt a.log idx=lt
        · rw [cbt (by simp only [toE];omega),if_pos ⟨h3,by omega,he⟩]
          unfold keepK
          rw [cdt (by omega),cdt (by omega),cdt (by omega),Int.toNat_natCast,Int.toNat_natCast]
          have hkk:((toL (a.log.drop a.base)).take (a.log.length - a.base)).drop (j+1)=toL (a.log.drop idx):=by
            rw [List.take_of_length_le (by rw [toL_len,List.length_drop];exact Nat.le_refl _),toL_drop,List.drop_drop,hj]
            rfl
          rw [hkk,snapK_eq a s idx lt b a.log (by omega) he]
          rfl
        · rw [cbf (by simp only [toE];omega),if_neg (fun h=>he h.2.2),hdrop]
          rfl
      · rw [cdf (by omega),if_neg (fun h=>h3 h.1),hdrop]
        rfl
    · rw [cdf (by omega),if_neg h2,max2_nat,added_eq (foll a) s _ true _ rfl,ob_some]
      rfl
end Go.Proofs.Ytoicjnggljeicaa
