/- The laws ReplicaTakes and ReplicaWakes on typed data. -/
import Derived.Test.YtoicjnggljeicaaSf
namespace Go.Proofs.Ytoicjnggljeicaa
open Go Go.Ev
set_option maxRecDepth 100000
theorem few_loop (l:List Act)(hl:l.length≤9223372036854775807):∀ (j i:Nat) (b:Bool) (fuel:Nat),i+j=l.length→j < fuel→∃ r,iterO stp_L19_2 fuel (l,b,(i:Int))=some r:=by
  intro j
  induction j with
  | zero =>
    intro i b fuel hj hf
    obtain ⟨fuel,rfl⟩:∃ k,fuel=k+1:=⟨fuel - 1,by omega⟩
    refine ⟨_,iter_end (y:=.inl (l,b)) ?_⟩
    unfold stp_L19_2 step_L19_2
    dsimp only
    rw [cdf (by omega)]
  | succ j ih =>
    intro i b fuel hj hf
    obtain ⟨fuel,rfl⟩:∃ k,fuel=k+1:=⟨fuel - 1,by omega⟩
    have h1:i < l.length:=by omega
    have hw:w64 ((i:Int)+1)=((i+1:Nat):Int):=w64_ok (by omega)
    have hst:stp_L19_2 (l,b,(i:Int))=cond (decide ((l[i].cmd.size:Int) > 40)) (some (.inr (.inr (l,false)))) (some (.inl (l,b,((i+1:Nat):Int)))):=by
      unfold stp_L19_2 step_L19_2
      dsimp only
      rw [cdt (by omega),cdt (by omega),Int.toNat_natCast,List.getElem?_eq_getElem h1,ob_some,hw]
    by_cases hc:(l[i].cmd.size:Int) > 40
    · rw [cdt hc] at hst
      exact ⟨_,iter_end hst⟩
    · rw [cdf hc] at hst
      obtain ⟨r,hr⟩:=ih (i+1) b fuel (by omega) (by omega)
      exact ⟨r,(iter_go hst).trans hr⟩
theorem few_some (l:List Act)(hl:l.length≤9223372036854775807):∃ b,l15Few l=some b:=by
  unfold l15Few
  obtain ⟨r,hr⟩:=few_loop l hl l.length 0 false (((l.length:Int) - 0).toNat+2) (by omega) (by omega)
  have e:L19_2 l false 0=some r:=hr
  rw [e,ob_some]
  cases r<;>exact ⟨_,rfl⟩
theorem inv0:Inv Raft.an0 [] 0:=⟨Raft.sys0 0,Nat.zero_le _,fun _ _=>Nat.le_refl _⟩
theorem acts_take (l:List Act)(hl:l.length≤1000)(i1:Int)(b:Bool)(m:Msg):∀ (j k:Nat) (N:Nat→Raft.AN) (M:List Raft.AM) (fuel:Nat),k+j=l.length→j < fuel→Inv N M k →
    ∃ N' M',iterO stp_L7_7 fuel (l,i1,b,(k:Int),m,toT N M)=some (.inl (i1,b,m,toT N' M'))∧Inv N' M' l.length:=by
  intro j
  induction j with
  | zero =>
    intro k N M fuel hj hf hi
    obtain ⟨fuel,rfl⟩:∃ k,fuel=k+1:=⟨fuel - 1,by omega⟩
    have hk:k=l.length:=by omega
    refine ⟨N,M,iter_end ?_,hk ▸ hi⟩
    unfold stp_L7_7 step_L7_7
    dsimp only
    rw [cdf (by omega)]
  | succ j ih =>
    intro k N M fuel hj hf hi
    obtain ⟨fuel,rfl⟩:∃ k,fuel=k+1:=⟨fuel - 1,by omega⟩
    have h1:k < l.length:=by omega
    have hw:w64 ((k:Int)+1)=((k+1:Nat):Int):=w64_ok (by omega)
    obtain ⟨N1,M1,h2,h3⟩:=do_ok hi (by omega) l[k]
    obtain ⟨N',M',h4,h5⟩:=ih (k+1) N1 M1 fuel (by omega) (by omega) h3
    refine ⟨N',M',(iter_go ?_).trans h4,h5⟩
    unfold stp_L7_7 step_L7_7
    dsimp only
    rw [cdt (by omega),cdt (by omega),Int.toNat_natCast,List.getElem?_eq_getElem h1,ob_some,h2,ob_some,hw]
    rfl
theorem acts_wake (l:List Act)(hl:l.length≤1000)(b:Bool):∀ (j k:Nat) (N:Nat→Raft.AN) (M:List Raft.AM) (fuel:Nat),k+j=l.length→j < fuel→Inv N M k →
    ∃ N' M',iterO stp_L8_7 fuel (l,b,(k:Int),toT N M)=some (.inl (b,toT N' M'))∧Inv N' M' l.length:=by
  intro j
  induction j with
  | zero =>
    intro k N M fuel hj hf hi
    obtain ⟨fuel,rfl⟩:∃ k,fuel=k+1:=⟨fuel - 1,by omega⟩
    have hk:k=l.length:=by omega
    refine ⟨N,M,iter_end ?_,hk ▸ hi⟩
    unfold stp_L8_7 step_L8_7
    dsimp only
    rw [cdf (by omega)]
  | succ j ih =>
    intro k N M fuel hj hf hi
    obtain ⟨fuel,rfl⟩:∃ k,fuel=k+1:=⟨fuel - 1,by omega⟩
    have h1:k < l.length:=by omega
    have hw:w64 ((k:Int)+1)=((k+1:Nat):Int):=w64_ok (by omega)
    obtain ⟨N1,M1,h2,h3⟩:=do_ok hi (by omega) l[k]
    obtain ⟨N',M',h4,h5⟩:=ih (k+1) N1 M1 fuel (by omega) (by omega) h3
    refine ⟨N',M',(iter_go ?_).trans h4,h5⟩
    unfold stp_L8_7 step_L8_7
    dsimp only
    rw [cdt (by omega),cdt (by omega),Int.toNat_natCast,List.getElem?_eq_getElem h1,ob_some,h2,ob_some,hw]
    rfl
/-- what nobody sent -/
theorem take_bad (n:Node)(x:Msg)(hn:n.log.length≤200000)(h:x.to_≠n.id_∨x.from_=n.id_∨x.kind > 5∨x.term_ > 1073741824):take n x=some (n,[]):=by
  rw [take_red,own_eq _ (by omega),ob_some]
  have hf:fin (Worker.mk { n with log:=n.log } [])=some (n,[]):=by
    unfold fin
    dsimp only
    rw [own_eq _ (by omega),ob_some]
  rw [hf]
  rcases h with h | h | h | h
  · have g:(cond (decide (x.from_ < 0)) true (cond (decide (x.from_≥3)) true (cond (x.from_ == n.id_) true (x.to_ != n.id_))))=true:=by
      rw [show (x.to_ != n.id_)=true by rw [bne,beq_eq_false_iff_ne.2 h];rfl]
      cases decide (x.from_ < 0)<;>cases decide (x.from_≥3)<;>cases (x.from_ == n.id_)<;>rfl
    rw [g,cond_true]
  · have g:(cond (decide (x.from_ < 0)) true (cond (decide (x.from_≥3)) true (cond (x.from_ == n.id_) true (x.to_ != n.id_))))=true:=by
      rw [beq_iff_eq.2 h]
      cases decide (x.from_ < 0)<;>cases decide (x.from_≥3)<;>rfl
    rw [g,cond_true]
  · have g:(cond (decide (x.kind < 1)) true (cond (decide (x.kind > 5)) true (cond (decide (x.term_ < 0)) true (decide (x.term_ > 1073741824)))))=true:=by
      rw [decide_eq_true h]
      cases decide (x.kind < 1)<;>rfl
    rw [g,cond_true,cself]
  · have g:(cond (decide (x.kind < 1)) true (cond (decide (x.kind > 5)) true (cond (decide (x.term_ < 0)) true (decide (x.term_ > 1073741824)))))=true:=by
      rw [decide_eq_true h]
      cases decide (x.kind < 1)<;>cases decide (x.kind > 5)<;>cases decide (x.term_ < 0)<;>rfl
    rw [g,cond_true,cself]
abbrev RT:=Option ((Int×Bool×Int×Msg×Three)⊕(((Bool×Msg×Three)⊕(Bool×Msg×Three))))
def tkB (i1:Int)(b1:Bool)(i2:Int)(m1:Msg)(t1:Three)(x:Msg):RT :=
  cond (ok3 i2) (ob (take (gN t1.n i2) x) fun r=>cond (ok3 i2) (ob (same r.1 (gN t1.n i2)) fun c=>cond (cond (!c) true ((r.2.length:Int) != 0)) (some (.inr (.inr (false,m1,t1)))) (some (.inl (i1,b1,(w64 (i2+1)),m1,t1)))) none) none
theorem tk_red (i1:Int)(b1:Bool)(i2:Int)(m1:Msg)(t1:Three):step_L7_12 i1 b1 i2 m1 t1 =
    cond (decide (i2 < 3)) (ob (within m1.kind 5) fun r0=>ob (within m1.term_ 5) fun r1=>ob (within i1 4) fun r2 =>
      cond (r2 == 0) (ob (within m1.to_ 2) fun r3=>tkB i1 b1 i2 m1 t1 (Msg.mk (w64 (1+r0)) ((w64 (i2+1)).tmod 3) ((w64 ((w64 (i2+1))+r3)).tmod 3) r1 m1.index m1.logTerm m1.commit m1.yes m1.entries m1.snap))
      (cond (r2 == 1) (tkB i1 b1 i2 m1 t1 (Msg.mk (w64 (1+r0)) i2 i2 r1 m1.index m1.logTerm m1.commit m1.yes m1.entries m1.snap))
      (cond (r2 == 2) (ob (within m1.kind 9) fun r4=>tkB i1 b1 i2 m1 t1 (Msg.mk (w64 (6+r4)) ((w64 (i2+1)).tmod 3) i2 r1 m1.index m1.logTerm m1.commit m1.yes m1.entries m1.snap))
      (cond (r2 == 3) (ob (within m1.term_ 9) fun r5=>tkB i1 b1 i2 m1 t1 (Msg.mk (w64 (1+r0)) ((w64 (i2+1)).tmod 3) i2 (w64 (1073741825+r5)) m1.index m1.logTerm m1.commit m1.yes m1.entries m1.snap))
      (tkB i1 b1 i2 m1 t1 (Msg.mk (w64 (1+r0)) ((w64 (i2+1)).tmod 3) i2 r1 m1.index m1.logTerm m1.commit m1.yes m1.entries m1.snap))))))
    (some (.inr (.inl (b1,m1,t1)))):=by kernel_rfl
theorem inv_node {N:Nat→Raft.AN}{M:List Raft.AM}{B:Nat}(h:Inv N M B)(hB:B≤10000){i:Nat}(hi:i < 3):Wf (N i)∧(toN (N i)).id_=(i:Int)∧(toN (N i)).log.length≤100000:=by
  obtain ⟨a,_,b,c⟩:=sys_node h.sys (by omega) hi (h.wait i hi)
  exact ⟨a,by rw [n_id,b],by rw [n_log,toL_len,List.length_drop];omega⟩
theorem tkB_eq {N:Nat→Raft.AN}{M:List Raft.AM}{B:Nat}(h:Inv N M B)(hB:B≤10000){i:Nat}(hi:i < 3)(i1:Int)(b1:Bool)(m1 x:Msg)(hx:x.to_≠(i:Int)∨x.from_=(i:Int)∨x.kind > 5∨x.term_ > 1073741824) :
    tkB i1 b1 (i:Int) m1 (toT N M) x=some (.inl (i1,b1,((i+1:Nat):Int),m1,toT N M)):=by
  obtain ⟨_,hid,hlen⟩:=inv_node h hB hi
  have hw:w64 ((i:Int)+1)=((i+1:Nat):Int):=w64_ok (by omega)
  unfold tkB
  rw [ok3_eq hi,cond_true,show (toT N M).n=toA N from rfl,gN_eq N hi,take_bad _ _ (by omega) (by rw [hid];exact hx),ob_some,cond_true,show same (toN (N i),([]:List Msg)).1 (toN (N i))=some true from (rsame_eq (toN (N i)) (toN (N i)) (by omega) (by omega)).symm.trans (rsame_refl (toN (N i)) (by omega)),ob_some,hw]
  rfl
theorem tk_step {N:Nat→Raft.AN}{M:List Raft.AM}{B:Nat}(h:Inv N M B)(hB:B≤10000){i:Nat}(hi:i < 3)(i1:Int)(b1:Bool)(m1:Msg) :
    stp_L7_12 (i1,b1,(i:Int),m1,toT N M)=some (.inl (i1,b1,((i+1:Nat):Int),m1,toT N M)):=by
  have hw:w64 ((i:Int)+1)=((i+1:Nat):Int):=w64_ok (by omega)
  have b1':=Int.emod_nonneg i1 (by omega:(4:Int)≠0)
  have b2':=Int.emod_lt_of_pos i1 (by omega:(0:Int) < 4)
  have c1':=Int.emod_nonneg m1.to_ (by omega:(2:Int)≠0)
  have c2':=Int.emod_lt_of_pos m1.to_ (by omega:(0:Int) < 2)
  have d1':=Int.emod_nonneg m1.kind (by omega:(9:Int)≠0)
  have d2':=Int.emod_lt_of_pos m1.kind (by omega:(0:Int) < 9)
  have e1':=Int.emod_nonneg m1.term_ (by omega:(9:Int)≠0)
  have e2':=Int.emod_lt_of_pos m1.term_ (by omega:(0:Int) < 9)
  show step_L7_12 i1 b1 (i:Int) m1 (toT N M)=_
  rw [tk_red,cdt (by omega),within_eq (a:=m1.kind) (n:=5) (by omega) (by omega),ob_some,within_eq (a:=m1.term_) (n:=5) (by omega) (by omega),ob_some,within_eq (a:=i1) (n:=4) (by omega) (by omega),ob_some]
  have hc:i1 % 4=0∨i1 % 4=1∨i1 % 4=2∨i1 % 4=3:=by omega
  rcases hc with hc | hc | hc | hc
  · rw [cbt hc,within_eq (a:=m1.to_) (n:=2) (by omega) (by omega),ob_some]
    refine tkB_eq h hB hi i1 b1 m1 _ (.inl ?_)
    show (w64 (w64 ((i:Int)+1)+m1.to_ % 2)).tmod 3≠(i:Int)
    rw [hw,w64_ok (by omega),Int.tmod_eq_emod_of_nonneg (by omega)]
    omega
  · rw [cbf (by omega),cbt hc]
    exact tkB_eq h hB hi i1 b1 m1 _ (.inr (.inl rfl))
  · rw [cbf (by omega),cbf (by omega),cbt hc,within_eq (a:=m1.kind) (n:=9) (by omega) (by omega),ob_some]
    refine tkB_eq h hB hi i1 b1 m1 _ (.inr (.inr (.inl ?_)))
    show w64 (6+m1.kind % 9) > 5
    rw [w64_ok (by omega)];omega
  · rw [cbf (by omega),cbf (by omega),cbf (by omega),cbt hc,within_eq (a:=m1.term_) (n:=9) (by omega) (by omega),ob_some]
    refine tkB_eq h hB hi i1 b1 m1 _ (.inr (.inr (.inr ?_)))
    show w64 (1073741825+m1.term_ % 9) > 1073741824
    rw [w64_ok (by omega)];omega
theorem tk_end (i1:Int)(b1:Bool)(m1:Msg)(t:Three):stp_L7_12 (i1,b1,((3:Nat):Int),m1,t)=some (.inr (.inl (b1,m1,t))):=by
  show step_L7_12 i1 b1 ((3:Nat):Int) m1 t=_
  rw [tk_red,cdf (by omega)]
theorem takes_true (l:List Act)(m:Msg)(i:Int)(hl:l.length≤9223372036854775807):replicaTakes l m i=some true:=by
  obtain ⟨b,hb⟩:=few_some l hl
  unfold replicaTakes
  rw [known_true,ob_some,Bool.not_true,cond_false,hb,ob_some]
  by_cases h100:l.length≤100
  · have e0:(Three.mk (A3Node.mk (Node.mk 0 0 (-1) 0 0 s_empty [] 0 0 0 (A3Bool.mk false false false) (A3Int.mk 0 0 0) (A3Int.mk 0 0 0)) (Node.mk 1 0 (-1) 0 0 s_empty [] 0 0 0 (A3Bool.mk false false false) (A3Int.mk 0 0 0) (A3Int.mk 0 0 0)) (Node.mk 2 0 (-1) 0 0 s_empty [] 0 0 0 (A3Bool.mk false false false) (A3Int.mk 0 0 0) (A3Int.mk 0 0 0))) [])=toT Raft.an0 []:=by kernel_rfl
    obtain ⟨N,M,h1,h2⟩:=acts_take l (by omega) i false m l.length 0 Raft.an0 [] (((l.length:Int) - 0).toNat+2) (by omega) (by omega) inv0
    have e1:L7_7 l i false 0 m (toT Raft.an0 [])=some (.inl (i,false,m,toT N M)):=h1
    have e2:L7_12 i false 0 m (toT N M)=some (.inl (false,m,toT N M)) :=
      (iter_go (tk_step h2 (by omega) (i:=0) (by omega) i false m)).trans ((iter_go (tk_step h2 (by omega) (i:=1) (by omega) i false m)).trans ((iter_go (tk_step h2 (by omega) (i:=2) (by omega) i false m)).trans (iter_end (n:=1) (tk_end i false m (toT N M)))))
    rw [e0,e1,ob_some]
    cases (cond (!b) true (cond (decide ((l.length:Int) > 100)) true (cond (decide ((m.entries.length:Int) > 20)) true (decide ((m.snap.size:Int) > 200))))) with
    | true=>rfl
    | false =>
      rw [cond_false]
      show ob (L7_12 i false 0 m (toT N M)) _=_
      rw [e2,ob_some]
      rfl
  · rw [show (cond (!b) true (cond (decide ((l.length:Int) > 100)) true (cond (decide ((m.entries.length:Int) > 20)) true (decide ((m.snap.size:Int) > 200)))))=true by
      rw [decide_eq_true (by omega)];cases b<;>rfl,cond_true]
/-- what is kept -/
def zB (v:A3Bool):Bool:=!(cond (v.a0 == false) (cond (v.a1 == false) (cond (v.a2 == false) true false) false) false)
def zI (v:A3Int):Bool:=!(cond (v.a0 == 0) (cond (v.a1 == 0) (cond (v.a2 == 0) true false) false) false)
abbrev RW:=Option ((Bool×Int×Three)⊕(((Bool×Three)⊕(Bool×Three))))
def wkB (b1:Bool)(i1:Int)(t1:Three)(n:Node):RW :=
  ob (wake n) fun r0=>cond (r0.term_ != n.term_) (some (.inr (.inr (false,t1)))) (cond (r0.vote != n.vote) (some (.inr (.inr (false,t1)))) (cond (r0.commit != n.commit) (some (.inr (.inr (false,t1)))) (cond (r0.base != n.base) (some (.inr (.inr (false,t1))))
    (cond (!sEq r0.snap n.snap) (some (.inr (.inr (false,t1)))) (cond ((r0.log.length:Int) != (n.log.length:Int)) (some (.inr (.inr (false,t1)))) (cond (r0.role != 0) (some (.inr (.inr (false,t1)))) (cond (r0.wait != 0) (some (.inr (.inr (false,t1))))
      (cond (zB r0.votes) (some (.inr (.inr (false,t1)))) (cond (zI r0.next) (some (.inr (.inr (false,t1)))) (cond (zI r0.match_) (some (.inr (.inr (false,t1))))
        (ob (wake r0) fun r1=>ob (same r0 r1) fun r2=>cond (!r2) (some (.inr (.inr (false,t1)))) (some (.inl (b1,w64 (i1+1),t1))))))))))))))
theorem wk0 (b1:Bool)(x y z:Node)(ms:List Msg):step_L8_12 b1 ((0:Nat):Int) (Three.mk (A3Node.mk x y z) ms)=wkB b1 ((0:Nat):Int) (Three.mk (A3Node.mk x y z) ms) x:=by kernel_rfl
theorem wk1 (b1:Bool)(x y z:Node)(ms:List Msg):step_L8_12 b1 ((1:Nat):Int) (Three.mk (A3Node.mk x y z) ms)=wkB b1 ((1:Nat):Int) (Three.mk (A3Node.mk x y z) ms) y:=by kernel_rfl
theorem wk2 (b1:Bool)(x y z:Node)(ms:List Msg):step_L8_12 b1 ((2:Nat):Int) (Three.mk (A3Node.mk x y z) ms)=wkB b1 ((2:Nat):Int) (Three.mk (A3Node.mk x y z) ms) z:=by kernel_rfl
theorem wk3 (b1:Bool)(t:Three):step_L8_12 b1 ((3:Nat):Int) t=some (.inr (.inl (b1,t))):=by kernel_rfl
theorem wkB_eq (a:Raft.AN)(h:Wf a)(hlen:(toN a).log.length≤100000)(b1:Bool)(i:Nat)(hi:i < 3)(t:Three):wkB b1 (i:Int) t (toN a)=some (.inl (b1,((i+1:Nat):Int),t)):=by
  have hw:w64 ((i:Int)+1)=((i+1:Nat):Int):=w64_ok (by omega)
  have hwf:Wf (Raft.wake a):=⟨h.id,h.bc,h.cl,h.len,h.term,Nat.zero_le _,Nat.zero_le _⟩
  have hlog:(toN (Raft.wake a)).log.length≤100000:=hlen
  have hww:toN (Raft.wake (Raft.wake a))=toN (Raft.wake a):=rfl
  unfold wkB
  rw [wake_eq a h,ob_some,cnf (show (toN (Raft.wake a)).term_=(toN a).term_ from rfl),cnf (show (toN (Raft.wake a)).vote=(toN a).vote from rfl),cnf (show (toN (Raft.wake a)).commit=(toN a).commit from rfl),cnf (show (toN (Raft.wake a)).base=(toN a).base from rfl),
    show sEq (toN (Raft.wake a)).snap (toN a).snap=true from sEq_refl _,Bool.not_true,cond_false,cnf (show ((toN (Raft.wake a)).log.length:Int)=((toN a).log.length:Int) from rfl),cnf (show (toN (Raft.wake a)).role=0 from rfl),cnf (show (toN (Raft.wake a)).wait=0 from rfl),
    show zB (toN (Raft.wake a)).votes=false from rfl,cond_false,show zI (toN (Raft.wake a)).next=false from rfl,cond_false,show zI (toN (Raft.wake a)).match_=false from rfl,cond_false,
    wake_eq _ hwf,ob_some,hww,← rsame_eq _ _ (by omega) (by omega),rsame_refl _ (by omega),ob_some,Bool.not_true,cond_false,hw]
theorem wakes_true (l:List Act)(hl:l.length≤9223372036854775807):replicaWakes l=some true:=by
  obtain ⟨b,hb⟩:=few_some l hl
  unfold replicaWakes
  rw [known_true,ob_some,Bool.not_true,cond_false,hb,ob_some]
  by_cases h150:l.length≤150
  · have e0:(Three.mk (A3Node.mk (Node.mk 0 0 (-1) 0 0 s_empty [] 0 0 0 (A3Bool.mk false false false) (A3Int.mk 0 0 0) (A3Int.mk 0 0 0)) (Node.mk 1 0 (-1) 0 0 s_empty [] 0 0 0 (A3Bool.mk false false false) (A3Int.mk 0 0 0) (A3Int.mk 0 0 0)) (Node.mk 2 0 (-1) 0 0 s_empty [] 0 0 0 (A3Bool.mk false false false) (A3Int.mk 0 0 0) (A3Int.mk 0 0 0))) [])=toT Raft.an0 []:=by kernel_rfl
    obtain ⟨N,M,h1,h2⟩:=acts_wake l (by omega) false l.length 0 Raft.an0 [] (((l.length:Int) - 0).toNat+2) (by omega) (by omega) inv0
    have e1:L8_7 l false 0 (toT Raft.an0 [])=some (.inl (false,toT N M)):=h1
    obtain ⟨w0,_,l0⟩:=inv_node h2 (by omega) (i:=0) (by omega)
    obtain ⟨w1,_,l1⟩:=inv_node h2 (by omega) (i:=1) (by omega)
    obtain ⟨w2,_,l2⟩:=inv_node h2 (by omega) (i:=2) (by omega)
    have s0:stp_L8_12 (false,((0:Nat):Int),toT N M)=some (.inl (false,((1:Nat):Int),toT N M)):=(wk0 false _ _ _ _).trans (wkB_eq _ w0 l0 false 0 (by omega) _)
    have s1:stp_L8_12 (false,((1:Nat):Int),toT N M)=some (.inl (false,((2:Nat):Int),toT N M)):=(wk1 false _ _ _ _).trans (wkB_eq _ w1 l1 false 1 (by omega) _)
    have s2:stp_L8_12 (false,((2:Nat):Int),toT N M)=some (.inl (false,((3:Nat):Int),toT N M)):=(wk2 false _ _ _ _).trans (wkB_eq _ w2 l2 false 2 (by omega) _)
    have e2:L8_12 false 0 (toT N M)=some (.inl (false,toT N M)):=(iter_go s0).trans ((iter_go s1).trans ((iter_go s2).trans (iter_end (n:=1) (wk3 false (toT N M)))))
    rw [e0,e1,ob_some]
    cases (cond (!b) true (decide ((l.length:Int) > 150))) with
    | true=>rfl
    | false =>
      rw [cond_false]
      show ob (L8_12 false 0 (toT N M)) _=_
      rw [e2,ob_some]
      rfl
  · rw [show (cond (!b) true (decide ((l.length:Int) > 150)))=true by
      rw [decide_eq_true (by omega)];cases b<;>rfl,cond_true]
end Go.Proofs.Ytoicjnggljeicaa
