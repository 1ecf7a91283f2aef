/- The program's replicas are Raft's nodes: what is heard, snapshots. -/
import Derived.Test.YtoicjnggljeicaaRs
namespace Go.Proofs.Ytoicjnggljeicaa
open Go Go.Ev
set_option maxRecDepth 100000
theorem b2i (x:Bool):(cond x (w64 (0+1)) 0:Int)=cond x 1 0:=by cases x<;>rfl
/-- how many hold an index -/
theorem hold_eq (i1:Int)(l1:List Entry)(i3 i4:Int)(m:A3Int)(w:Worker)(e:Entry) :
    L48_5 i1 0 l1 i3 i4 m 0 w e=some (i1,cond (decide (m.a2≥i1)) (w64 (cond (decide (m.a1≥i1)) (w64 (cond (decide (m.a0≥i1)) (w64 (0+1)) 0+1)) (cond (decide (m.a0≥i1)) (w64 (0+1)) 0)+1)) (cond (decide (m.a1≥i1)) (w64 (cond (decide (m.a0≥i1)) (w64 (0+1)) 0+1)) (cond (decide (m.a0≥i1)) (w64 (0+1)) 0)),l1,i3,i4,w,e):=by kernel_rfl
theorem two_typed (x y z:Bool):decide (cond z (w64 (cond y (w64 (cond x (w64 (0+1)) 0+1)) (cond x (w64 (0+1)) 0)+1)) (cond y (w64 (cond x (w64 (0+1)) 0+1)) (cond x (w64 (0+1)) 0))≥2)=((x && y) || (x && z) || (y && z)):=by
  cases x<;>cases y<;>cases z<;>rfl
/-- an act of the loop that commits -/
theorem reach_red (a:Raft.AN)(k:Nat)(len:Int)(r1:Int)(hr:r1=w64 (w64 ((a.base:Int)+(k:Int))+1)) :
    step_L48_1 (toL (a.log.drop a.base)) len (k:Int) (Worker.mk (toN a) []) =
    cond (decide ((k:Int) < len)) (cond (decide (0≤(k:Int))) (ob ((toL (a.log.drop a.base))[((k:Int)).toNat]?) fun e =>
      cond (cond (decide (cond (decide ((a.mat 2:Int)≥r1)) (w64 (cond (decide ((a.mat 1:Int)≥r1)) (w64 (cond (decide ((a.mat 0:Int)≥r1)) (w64 (0+1)) 0+1)) (cond (decide ((a.mat 0:Int)≥r1)) (w64 (0+1)) 0)+1)) (cond (decide ((a.mat 1:Int)≥r1)) (w64 (cond (decide ((a.mat 0:Int)≥r1)) (w64 (0+1)) 0+1)) (cond (decide ((a.mat 0:Int)≥r1)) (w64 (0+1)) 0))≥2)) (e.term_ == (a.term:Int)) false)
        (some (.inl (toL (a.log.drop a.base),len,w64 ((k:Int)+1),Worker.mk { toN a with commit:=max2 (a.commit:Int) r1 } [])))
        (some (.inl (toL (a.log.drop a.base),len,w64 ((k:Int)+1),Worker.mk (toN a) [])))) none) (some (.inr (Worker.mk (toN a) []))):=by
  subst hr
  kernel_rfl
theorem reach_loop (a:Raft.AN)(hb:a.base≤a.log.length)(hlen:a.log.length≤100000) :
    ∀ (n k:Nat) (c:Nat) (fuel:Nat),k+n=a.log.length - a.base→n < fuel→c=Raft.reach a.mat a.term a.log a.base k a.commit →
      iterO stp_L48_1 fuel (toL (a.log.drop a.base),((toL (a.log.drop a.base)).length:Int),(k:Int),Worker.mk (toN { a with commit:=c }) [])=some (Worker.mk (toN { a with commit:=Raft.reach a.mat a.term a.log a.base (a.log.length - a.base) a.commit }) []):=by
  intro n
  induction n with
  | zero =>
    intro k c fuel hk hf hc
    obtain ⟨fuel,rfl⟩:∃ k,fuel=k+1:=⟨fuel - 1,by omega⟩
    refine iter_end ?_
    unfold stp_L48_1
    dsimp only
    refine (reach_red { a with commit:=c } k _ _ rfl).trans ?_
    rw [cdf (by rw [toL_len,List.length_drop];omega),hc,show k=a.log.length - a.base by omega]
  | succ n ih =>
    intro k c fuel hk hf hc
    obtain ⟨fuel,rfl⟩:∃ k,fuel=k+1:=⟨fuel - 1,by omega⟩
    have hw1:w64 ((k:Int)+1)=((k+1:Nat):Int):=w64_ok (by omega)
    have hr:(((a.base+k+1:Nat)):Int)=w64 (w64 ((({ a with commit:=c }:Raft.AN).base:Int)+(k:Int))+1):=by
      dsimp only
      rw [w64_ok (n:=(a.base:Int)+(k:Int)) (by omega),w64_ok (by omega)];omega
    obtain ⟨x,hx,_,hxt⟩:=log_get a.log a.base k (by omega)
    have hstep:stp_L48_1 (toL (a.log.drop a.base),((toL (a.log.drop a.base)).length:Int),(k:Int),Worker.mk (toN { a with commit:=c }) [])=some (.inl (toL (a.log.drop a.base),((toL (a.log.drop a.base)).length:Int),((k+1:Nat):Int),Worker.mk (toN { a with commit:=Raft.reach a.mat a.term a.log a.base (k+1) a.commit }) [])):=by
      unfold stp_L48_1
      dsimp only
      refine (reach_red { a with commit:=c } k _ _ hr).trans ?_
      dsimp only
      rw [cdt (by rw [toL_len,List.length_drop];omega),cdt (by omega),Int.toNat_natCast,hx,ob_some,two_typed,hw1]
      have hd:∀ i,decide ((a.mat i:Int)≥((a.base+k+1:Nat):Int))=decide (a.base+k+1≤a.mat i):=by
        intro i
        by_cases h:a.base+k+1≤a.mat i
        · rw [decide_eq_true h,decide_eq_true (by omega)]
        · rw [decide_eq_false h,decide_eq_false (by omega)]
      rw [hd,hd,hd]
      have htw:((decide (a.base+k+1≤a.mat 0) && decide (a.base+k+1≤a.mat 1)) || (decide (a.base+k+1≤a.mat 0) && decide (a.base+k+1≤a.mat 2)) || (decide (a.base+k+1≤a.mat 1) && decide (a.base+k+1≤a.mat 2)))=Raft.two a.mat (a.base+k+1):=rfl
      rw [htw]
      unfold Raft.reach
      dsimp only
      rw [← hc]
      by_cases ht:Raft.two a.mat (a.base+k+1)=true
      · rw [ht,cond_true]
        by_cases he:Raft.tAt a.log (a.base+k+1)=a.term
        · rw [if_pos ⟨rfl,he⟩]
          rw [cbt (show (toE x).term_=(a.term:Int) by simp only [toE];omega),max2_nat]
          rfl
        · rw [if_neg (fun h=>he h.2)]
          rw [cbf (show (toE x).term_≠(a.term:Int) by simp only [toE];omega)]
      · rw [if_neg (fun h=>ht h.1)]
        rw [Bool.eq_false_iff.2 ht,cond_false,cond_false]
    rw [iter_go hstep]
    exact ih (k+1) _ fuel (by omega) (by omega) rfl
theorem reach_eq (a:Raft.AN)(hb:a.base≤a.log.length)(hlen:a.log.length≤100000):reach (Worker.mk (toN a) [])=some (Worker.mk (toN { a with commit:=Raft.reach a.mat a.term a.log a.base (a.log.length - a.base) a.commit }) []):=by
  have h:=reach_loop a hb hlen (a.log.length - a.base) 0 a.commit ((((toL (a.log.drop a.base)).length:Int) - 0).toNat+2) (by omega) (by rw [toL_len,List.length_drop];omega) rfl
  exact (congrArg (fun z=>ob z fun y=>some y) h).trans rfl
end Go.Proofs.Ytoicjnggljeicaa
