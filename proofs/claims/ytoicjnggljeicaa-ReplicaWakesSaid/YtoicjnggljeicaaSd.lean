/- Three replicas and what is under way: bounds. -/
import Derived.Test.YtoicjnggljeicaaSc
namespace Go.Proofs.Ytoicjnggljeicaa
open Go Go.Ev
set_option maxRecDepth 100000
theorem sys_node {N:Nat→Raft.AN}{M:List Raft.AM}{B i:Nat}(h:Raft.Sys N M B)(hB:B≤50000)(hi:i < 3)(hw:(N i).wait≤B):Wf (N i)∧((N i).role=2→Ld (N i))∧(N i).id=i∧(N i).log.length≤B:=by
  obtain ⟨g,hg,hn,_⟩:=h.ok
  have n:=hn i hi
  have hlen:(N i).log.length≤B:=by rw [n.lg];exact Raft.lg_len hg
  refine ⟨⟨by rw [n.id];exact hi,n.bc,n.cl,by omega,n.t30,by omega,n.r2⟩,fun hr j hj=>?_,n.id,hlen⟩
  obtain ⟨hl,hx⟩:=n.ldr hr
  obtain ⟨h1,h2,h3⟩:=hx j hj
  refine ⟨h2,h3,?_⟩
  rcases Nat.eq_zero_or_pos (g.ack j (N i).term) with h0 | h0
  · omega
  · have:=(hg.ak j _ h0).2.1
    have:=hg.size _ _ hl
    omega
theorem sys_msg {N:Nat→Raft.AN}{M:List Raft.AM}{B:Nat}(h:Raft.Sys N M B)(hB:B≤50000){m:Raft.AM}(hm:m∈M):Wm m∧m.src < 3∧m.dst < 3∧m.src≠m.dst∧m.term≤1073741824:=by
  obtain ⟨g,hg,_,hms⟩:=h.ok
  have x:=hms m hm
  refine ⟨?_,x.src,x.dst,x.ne,x.t30⟩
  have hs:=x.says
  cases m with
  | vote s d t idx lt=>trivial
  | voted s d t y=>trivial
  | add s d t idx lt es c =>
    obtain ⟨x1,x2,x3,_⟩:=hs
    have:=hg.size _ _ x1
    exact ⟨by omega,by omega,fun h0=>by rw [x3,h0];rfl⟩
  | added s d t y idx =>
    have:=hs.2
    show idx≤200000
    omega
  | snap s d t idx lt pre b =>
    obtain ⟨x1,x2,x3,x4,_⟩:=hs
    have:=hg.size _ _ x1
    refine ⟨by omega,by rw [x4,List.length_take];omega,?_⟩
    rw [x4,x3,Raft.tAt_take (Nat.le_refl _)]
theorem toM_es (m:Raft.AM)(h:Wm m):(toM m).entries.length≤100000:=by
  cases m with
  | add s d t idx lt es c=>exact (toL_len es).symm ▸ h.1
  | _=>exact Nat.zero_le _
theorem same_msgs (l:List Msg)(hn:l.length≤1000000)(hl:∀ m∈l,m.entries.length≤1000000):l15_sameMsgs l l=some true:=by
  have hloop:∀ (j i:Nat) (b:Bool) (fuel:Nat),i+j=l.length→j < fuel→iterO stp_L45_4 fuel (l,l,b,(i:Int))=some (.inl b):=by
    intro j
    induction j with
    | zero =>
      intro i b fuel hj hf
      obtain ⟨fuel,rfl⟩:∃ k,fuel=k+1:=⟨fuel - 1,by omega⟩
      refine iter_end ?_
      unfold stp_L45_4 step_L45_4
      dsimp only
      rw [cdf (by omega)]
    | succ j ih =>
      intro i b fuel hj hf
      obtain ⟨fuel,rfl⟩:∃ k,fuel=k+1:=⟨fuel - 1,by omega⟩
      have h1:i < l.length:=by omega
      have hw:w64 ((i:Int)+1)=((i+1:Nat):Int):=w64_ok (by omega)
      have hm:=hl l[i] (List.getElem_mem h1)
      refine (iter_go (x':=(l,l,b,((i+1:Nat):Int))) ?_).trans (ih (i+1) b fuel (by omega) (by omega))
      unfold stp_L45_4 step_L45_4
      dsimp only
      rw [cdt (by omega),cdt (by omega),Int.toNat_natCast,List.getElem?_eq_getElem h1,ob_some,toRefMsg_eq _ hm,ob_some,cdt (by omega),ob_some,rsameMsg_refl _ hm,ob_some,Bool.not_true,cond_false,hw]
  unfold l15_sameMsgs
  rw [cnf rfl]
  have a:=hloop l.length 0 false (((l.length:Int) - 0).toNat+2) (by omega) (by omega)
  exact (congrArg (fun z=>ob z fun y0=>two y0 (fun _=>some true) fun b2=>some b2) a).trans rfl
end Go.Proofs.Ytoicjnggljeicaa
