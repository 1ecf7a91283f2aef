/- The document's replicas are Raft's nodes: what is heard; snapshots. -/
import Derived.Test.YtoicjnggljeicaaRz
namespace Go.Proofs.Ytoicjnggljeicaa
open Go Go.Ev
set_option maxRecDepth 100000
theorem reach_ge (m:Nat→Nat)(T:Nat)(L:Raft.Lg)(b:Nat):∀ n c,c≤Raft.reach m T L b n c
  | 0,_=>Nat.le_refl _
  | n+1,c=>by
    have:=reach_ge m T L b n c
    unfold Raft.reach
    dsimp only
    split<;>omega
theorem reach_le (m:Nat→Nat)(T:Nat)(L:Raft.Lg)(b:Nat):∀ n c,Raft.reach m T L b n c≤max c (b+n)
  | 0,c=>by simp only [Raft.reach];omega
  | n+1,c=>by
    have:=reach_le m T L b n c
    unfold Raft.reach
    dsimp only
    split<;>omega
theorem rhold_eq (i1:Int)(n m:Node):L56_16 i1 0 0 n m=some (i1,cond (decide (n.match_.a2≥i1)) (w64 (cond (decide (n.match_.a1≥i1)) (w64 (cond (decide (n.match_.a0≥i1)) (w64 (0+1)) 0+1)) (cond (decide (n.match_.a0≥i1)) (w64 (0+1)) 0)+1)) (cond (decide (n.match_.a1≥i1)) (w64 (cond (decide (n.match_.a0≥i1)) (w64 (0+1)) 0+1)) (cond (decide (n.match_.a0≥i1)) (w64 (0+1)) 0)),n,m):=by kernel_rfl
def goK (i:Int)(n m:Node)(q:Int):Option ((Int×Node×Node)⊕(Node×Node)) :=
  cond (decide (q≥2)) (ob (ref15TermAt n i) fun r=>cond (r == n.term_) (some (.inl (w64 (i - 1),{ n with commit:=i },m))) (some (.inl (w64 (i - 1),n,m)))) (some (.inl (w64 (i - 1),n,m)))
theorem rreach_step (i:Int)(n m:Node):stp_L56_12 (i,n,m)=cond (decide (i > n.commit)) (ob (L56_16 i 0 0 n m) fun y=>goK y.1 y.2.2.1 y.2.2.2 y.2.1) (some (.inr (n,m))):=by kernel_rfl
theorem rreach_step2 (a:Raft.AN)(i:Int):stp_L56_12 (i,toN a,N0)=cond (decide (i > (a.commit:Int))) (goK i (toN a) N0 (cond (decide ((a.mat 2:Int)≥i)) (w64 (cond (decide ((a.mat 1:Int)≥i)) (w64 (cond (decide ((a.mat 0:Int)≥i)) (w64 (0+1)) 0+1)) (cond (decide ((a.mat 0:Int)≥i)) (w64 (0+1)) 0)+1)) (cond (decide ((a.mat 1:Int)≥i)) (w64 (cond (decide ((a.mat 0:Int)≥i)) (w64 (0+1)) 0+1)) (cond (decide ((a.mat 0:Int)≥i)) (w64 (0+1)) 0)))) (some (.inr (toN a,N0))):=by kernel_rfl
theorem rreach_loop (a:Raft.AN)(h:Wf a):∀ (n:Nat) (fuel:Nat),a.base+n≤a.log.length→n+1 < fuel →
    iterO stp_L56_12 fuel (((a.base+n:Nat):Int),toN a,N0)=some (toN { a with commit:=Raft.reach a.mat a.term a.log a.base n a.commit },N0):=by
  have hbc:=h.bc
  have hlen:=h.len
  have hend:∀ (b:Raft.AN) (i:Int) (fuel:Nat),0 < fuel→i≤(b.commit:Int)→iterO stp_L56_12 fuel (i,toN b,N0)=some (toN b,N0):=by
    intro b i fuel hf hi
    obtain ⟨fuel,rfl⟩:∃ k,fuel=k+1:=⟨fuel - 1,by omega⟩
    refine iter_end ?_
    rw [rreach_step,n_commit,cdf (by omega)]
  intro n
  induction n with
  | zero =>
    intro fuel _ hf
    rw [hend a _ fuel (by omega) (by omega)]
    rfl
  | succ n ih =>
    intro fuel hn hf
    by_cases hc:a.base+(n+1)≤a.commit
    · have h1:=reach_ge a.mat a.term a.log a.base (n+1) a.commit
      have h2:=reach_le a.mat a.term a.log a.base (n+1) a.commit
      rw [hend a _ fuel (by omega) (by omega),show Raft.reach a.mat a.term a.log a.base (n+1) a.commit=a.commit by omega]
    · obtain ⟨fuel,rfl⟩:∃ k,fuel=k+1:=⟨fuel - 1,by omega⟩
      have hw:w64 (((a.base+(n+1):Nat):Int) - 1)=((a.base+n:Nat):Int):=by rw [w64_ok (by omega)];omega
      have hd:∀ i,decide ((a.mat i:Int)≥((a.base+(n+1):Nat):Int))=decide (a.base+n+1≤a.mat i):=by
        intro i
        by_cases h:a.base+n+1≤a.mat i
        · rw [decide_eq_true h,decide_eq_true (by omega)]
        · rw [decide_eq_false h,decide_eq_false (by omega)]
      have htw:((decide (a.base+n+1≤a.mat 0) && decide (a.base+n+1≤a.mat 1)) || (decide (a.base+n+1≤a.mat 0) && decide (a.base+n+1≤a.mat 2)) || (decide (a.base+n+1≤a.mat 1) && decide (a.base+n+1≤a.mat 2)))=Raft.two a.mat (a.base+n+1):=rfl
      have hst:stp_L56_12 (((a.base+(n+1):Nat):Int),toN a,N0)=cond (Raft.two a.mat (a.base+n+1)) (ob (ref15TermAt (toN a) ((a.base+(n+1):Nat):Int)) fun r=>cond (r == (a.term:Int)) (some (.inl (((a.base+n:Nat):Int),{ toN a with commit:=((a.base+(n+1):Nat):Int) },N0))) (some (.inl (((a.base+n:Nat):Int),toN a,N0)))) (some (.inl (((a.base+n:Nat):Int),toN a,N0))):=by
        rw [rreach_step2,cdt (by omega)]
        unfold goK
        rw [hw,two_typed,hd,hd,hd,htw]
        rfl
      rw [rTermAt_eq h _ (by omega) (by omega),ob_some] at hst
      have hre:Raft.reach a.mat a.term a.log a.base (n+1) a.commit=(if Raft.two a.mat (a.base+n+1)=true∧Raft.tAt a.log (a.base+n+1)=a.term then max (Raft.reach a.mat a.term a.log a.base n a.commit) (a.base+n+1) else Raft.reach a.mat a.term a.log a.base n a.commit):=rfl
      by_cases ht:Raft.two a.mat (a.base+n+1)=true
      · rw [ht,cond_true] at hst
        by_cases he:Raft.tAt a.log (a.base+n+1)=a.term
        · rw [cbt (by rw [show a.base+(n+1)=a.base+n+1 by omega];omega)] at hst
          have hle:=reach_le a.mat a.term a.log a.base n a.commit
          rw [hre,if_pos ⟨ht,he⟩,show max (Raft.reach a.mat a.term a.log a.base n a.commit) (a.base+n+1)=a.base+(n+1) by omega]
          refine (iter_go hst).trans ?_
          exact hend { a with commit:=a.base+(n+1) } _ fuel (by omega) (by simp only;omega)
        · rw [cbf (by rw [show a.base+(n+1)=a.base+n+1 by omega];omega)] at hst
          rw [hre,if_neg (fun h=>he h.2)]
          exact (iter_go hst).trans (ih fuel (by omega) (by omega))
      · rw [Bool.eq_false_iff.2 ht,cond_false] at hst
        rw [hre,if_neg (fun h=>ht h.1)]
        exact (iter_go hst).trans (ih fuel (by omega) (by omega))
theorem rheard_red (a:Raft.AN)(s d t idx:Nat)(y:Bool):ref15_added (toN a) (toM (.added s d t y idx)) =
    cond (cond ((t:Int) != (a.term:Int)) true ((a.role:Int) != 2)) (some (toN a,[]))
      (ob (ref15Last (toN a)) fun r =>
        cond (!y)
          (cond (ok3 (s:Int)) (cond (ok3 (s:Int)) (cond (ok3 (s:Int)) (cond (ok3 (s:Int))
            (cond (decide (get3 (lessN a (s:Int) (idx:Int)) (s:Int)≤r.1)) (ob (ref15_owes { toN a with next:=lessN a (s:Int) (idx:Int) } (s:Int)) fun z=>some ({ toN a with next:=lessN a (s:Int) (idx:Int) },[z])) (some ({ toN a with next:=lessN a (s:Int) (idx:Int) },[]))) none) none) none) none)
          (cond (ok3 (s:Int)) (cond (ok3 (s:Int)) (cond (ok3 (s:Int)) (cond (ok3 (s:Int))
            (ob (L56_12 r.1 { toN a with next:=moreN a (s:Int) (idx:Int),match_:=moreM a (s:Int) (idx:Int) } N0) fun z=>some (z.1,[])) none) none) none) none)):=by kernel_rfl
end Go.Proofs.Ytoicjnggljeicaa
