/- LocalShed on typed data. -/
import Derived.Test.YthhfjodcgibhfaaGreatLo
namespace Go.Proofs.YthhfjodcgibhfaaGreat
open Go Go.Ev
set_option maxRecDepth 100000
/-- the k-th operation of the law -/
def shO (l:List Int)(k:Nat):Op:=addO (k+1) ((l[k]?.getD 0) % 3) 0
def shA (l:List Int)(n:Nat):List Op:=(List.range n).map (shO l)
theorem shO_coll (l:List Int)(k:Nat):0≤(shO l k).coll∧(shO l k).coll≤2:=by
  have a1:=Int.emod_nonneg (l[k]?.getD 0) (by omega:(3:Int)≠0)
  have a2:=Int.emod_lt_of_pos (l[k]?.getD 0) (by omega:(0:Int) < 3)
  unfold shO addO
  simp only
  omega
theorem shO_dot (l:List Int)(k:Nat):(shO l k).dot=dt (k+1):=rfl
theorem shO_dots (l:List Int)(k:Nat):(shO l k).dots=[]:=rfl
theorem shA_len (l:List Int)(n:Nat):(shA l n).length=n:=by simp [shA]
theorem shA_get (l:List Int){n k:Nat}(h:k < n):(shA l n)[k]?=some (shO l k):=by simp [shA,h]
theorem shA_dots (l:List Int)(n:Nat):∀ o∈shA l n,o.dots.length≤1000:=by
  intro o ho
  simp only [shA,List.mem_map] at ho
  obtain ⟨k,_,rfl⟩:=ho
  simp [shO_dots]
theorem shA_succ (l:List Int)(n:Nat):shA l (n+1)=shA l n++[shO l n]:=by simp [shA,List.range_succ]
theorem shA_drop (l:List Int){n i:Nat}(h:i < n):(shA l n).drop i=shO l i::(shA l n).drop (i+1):=by
  have hi:i < (shA l n).length:=by rw [shA_len];exact h
  rw [List.drop_eq_getElem_cons hi]
  have:=shA_get l h
  rw [List.getElem?_eq_getElem hi] at this
  rw [Option.some.inj this]
theorem shA_take (l:List Int){n i:Nat}(h:i < n):(shA l n).take (i+1)=(shA l n).take i++[shO l i]:=by
  have hi:i < (shA l n).length:=by rw [shA_len];exact h
  rw [List.take_succ_eq_append_getElem hi]
  have:=shA_get l h
  rw [List.getElem?_eq_getElem hi] at this
  rw [Option.some.inj this]
/-- the first loop: the operations are done -/
theorem shed_do (l:List Int)(i1:Int):L8_6 l i1 false 0 0 (stS 0 0 0 0 [] c0 c0)=some (.inl (i1,false,((min l.length 12:Nat):Int),stS 0 ((min l.length 12:Nat):Int) 0 0 (shA l (min l.length 12)) c0 c0)):=by
  have key:∀ (m i fuel:Nat),i+m=min l.length 12→m < fuel→iterO stp_L8_6 fuel (l,i1,false,(i:Int),(i:Int),stS 0 (i:Int) 0 0 (shA l i) c0 c0)=some (.inl (i1,false,((min l.length 12:Nat):Int),stS 0 ((min l.length 12:Nat):Int) 0 0 (shA l (min l.length 12)) c0 c0)):=by
    intro m
    induction m with
    | zero =>
      intro i fuel hm hf
      obtain ⟨fuel,rfl⟩:∃ k,fuel=k+1:=⟨fuel - 1,by omega⟩
      have hx:(cond (decide ((i:Int) < (l.length:Int))) (decide ((i:Int) < 12)) false)=false:=by
        cases h:decide ((i:Int) < (l.length:Int)) with
        | false=>rfl
        | true=>simp at h ⊢;omega
      refine iter_end ?_
      simp only [stp_L8_6,step_L8_6,hx,cond_false]
      rw [show i=min l.length 12 by omega]
    | succ m ih =>
      intro i fuel hm hf
      obtain ⟨fuel,rfl⟩:∃ k,fuel=k+1:=⟨fuel - 1,by omega⟩
      have hi:i < l.length:=by omega
      have hg:(cond (decide ((i:Int) < (l.length:Int))) (decide ((i:Int) < 12)) false)=true:=by rw [cdt (by omega)];exact decide_eq_true (by omega)
      have hx:l[(i:Int).toNat]?=some l[i]:=by rw [Int.toNat_natCast];exact List.getElem?_eq_getElem hi
      have hw:w64 ((i:Int)+1)=((i+1:Nat):Int):=w64_ok (by omega)
      have hc:=shO_coll l i
      have hO:addO (i+1) (l[i] % 3) 0=shO l i:=by unfold shO;rw [List.getElem?_eq_getElem hi];rfl
      have hc':0≤l[i] % 3∧l[i] % 3≤2:=by rw [← hO] at hc;exact hc
      have e:=do_add 0 0 0 (l[i] % 3) 0 0 (Dot.mk 0 0 0) i (shA l i) c0 c0 (by rw [shA_len];omega) (by omega) (shA_dots l i) small_0 small_0 hc' (by omega)
      rw [hO,← shA_succ] at e
      have q0:(0:Int)≤(i:Int):=by omega
      refine (iter_go ?_).trans (ih (i+1) fuel (by omega) (by omega))
      simp only [stp_L8_6,step_L8_6,hg,cond_true,cdt q0,hx,ob_some,within_eq (a:=l[i]) (n:=3) (by omega) (by omega),e,bne_self_eq_false,cond_false,hw]
  exact key (min l.length 12) 0 _ (by omega) (by omega)
/-- what stays pending -/
def keepO (r:Int)(o:Op):Bool:=!(decide (o.dot.seq≤r) && (o.coll == 2))
theorem subs_get (c:Int)(h:0≤c∧c≤2):([true,true,false]:List Bool)[c.toNat]?=some (c != 2):=by
  have:c=0∨c=1∨c=2:=by omega
  rcases this with rfl | rfl | rfl<;>rfl
theorem keep_t {r:Int}{o:Op}(h:¬ o.dot.seq≤r):keepO r o=true:=by unfold keepO;rw [decide_eq_false h];rfl
theorem keep_c {r:Int}{o:Op}(h:o.dot.seq≤r):keepO r o=(o.coll != 2):=by unfold keepO;rw [decide_eq_true h];rfl
/-- the search for the first that goes -/
theorem shed_find (s r:Int)(n:Int)(P:List Op)(hn:P.length≤100)(hc:∀ o∈P,0≤o.coll∧o.coll≤2) :
    (P.all (keepO r)=true∧L27_2 s (P.length:Int) 0 (stS 0 n r 0 P c0 c0)=some (.inl (s,stS 0 n r 0 P c0 c0))) ∨
    (∃ A o B,P=A++o::B∧A.all (keepO r)=true∧keepO r o=false∧L27_2 s (P.length:Int) 0 (stS 0 n r 0 P c0 c0)=some (.inr ((A.length:Int),stS 0 n r 0 P c0 c0))):=by
  have key:∀ (B A:List Op) (fuel:Nat),A++B=P→A.all (keepO r)=true→B.length < fuel →
      (P.all (keepO r)=true∧iterO stp_L27_2 fuel (s,(P.length:Int),(A.length:Int),stS 0 n r 0 P c0 c0)=some (.inl (s,stS 0 n r 0 P c0 c0))) ∨
      (∃ A' o B',P=A'++o::B'∧A'.all (keepO r)=true∧keepO r o=false∧iterO stp_L27_2 fuel (s,(P.length:Int),(A.length:Int),stS 0 n r 0 P c0 c0)=some (.inr ((A'.length:Int),stS 0 n r 0 P c0 c0))):=by
    intro B
    induction B with
    | nil =>
      intro A fuel hA ha hf
      obtain ⟨fuel,rfl⟩:∃ k,fuel=k+1:=⟨fuel - 1,by omega⟩
      rw [List.append_nil] at hA
      subst hA
      refine .inl ⟨ha,iter_end ?_⟩
      simp only [stp_L27_2,step_L27_2]
      rw [cdf (by omega)]
    | cons b B ih =>
      intro A fuel hA ha hf
      obtain ⟨fuel,rfl⟩:∃ k,fuel=k+1:=⟨fuel - 1,by omega⟩
      have hb:P[(A.length:Int).toNat]?=some b:=by rw [← hA];simp
      have hl:P.length=A.length+(B.length+1):=by rw [← hA];simp
      have hw:w64 ((A.length:Int)+1)=((A.length+1:Nat):Int):=w64_ok (by omega)
      have hbc:=hc b (by rw [← hA];simp)
      have hsub:=subs_get b.coll hbc
      simp only [List.length_cons] at hf
      have q0:(0:Int)≤(A.length:Int):=by omega
      have q1:(A.length:Int) < (P.length:Int):=by omega
      have hst:stp_L27_2 (s,(P.length:Int),(A.length:Int),stS 0 n r 0 P c0 c0)=cond (keepO r b) (some (.inl (s,(P.length:Int),((A.length+1:Nat):Int),stS 0 n r 0 P c0 c0))) (some (.inr (.inr ((A.length:Int),stS 0 n r 0 P c0 c0)))):=by
        simp only [stp_L27_2,step_L27_2,show (stS 0 n r 0 P c0 c0).pending=P from rfl,show (stS 0 n r 0 P c0 c0).sent=r from rfl,show (stS 0 n r 0 P c0 c0).subs=[true,true,false] from rfl,cdt q0,cdt q1,hb,ob_some,hw]
        by_cases hs:b.dot.seq≤r
        · rw [cdt hs,keep_c hs,cdt (by omega),cdt (by simp;omega),cdt (by omega),cdt (by simp;omega),hsub,ob_some]
          cases (b.coll != 2)<;>rfl
        · rw [cdf hs,keep_t hs];rfl
      cases hk:keepO r b with
      | true =>
        rw [hk,cond_true] at hst
        have:=ih (A++[b]) fuel (by rw [← hA];simp) (by simp [ha,hk]) (by omega)
        rw [List.length_append,List.length_singleton] at this
        rw [iter_go hst]
        exact this
      | false =>
        rw [hk,cond_false] at hst
        exact .inr ⟨A,b,B,hA.symm,ha,hk,iter_end hst⟩
  exact key P [] _ rfl rfl (by omega)
/-- the others are moved to the front -/
theorem shed_move (r n:Int)(A:List Op)(o:Op)(B:List Op)(hn:A.length+B.length≤90)(hc:∀ o∈B,0≤o.coll∧o.coll≤2) :
    ∃ M,L70_5 (A.length:Int) ((A.length:Int)+1) (stS 0 n r 0 (A++o::B) c0 c0)=some (((A++B.filter (keepO r)).length:Int),stS 0 n r 0 ((A++B.filter (keepO r))++M) c0 c0)∧(A++B.filter (keepO r)).length+M.length=A.length+(B.length+1):=by
  have key:∀ (B A M:List Op) (fuel:Nat),M≠[]→(∀ o∈B,0≤o.coll∧o.coll≤2)→A.length+M.length+B.length≤100→B.length < fuel →
      ∃ M',iterO stp_L70_5 fuel ((A.length:Int),((A.length+M.length:Nat):Int),stS 0 n r 0 (A++M++B) c0 c0)=some (((A++B.filter (keepO r)).length:Int),stS 0 n r 0 ((A++B.filter (keepO r))++M') c0 c0)∧(A++B.filter (keepO r)).length+M'.length=A.length+M.length+B.length:=by
    intro B
    induction B with
    | nil =>
      intro A M fuel _ _ hs hf
      obtain ⟨fuel,rfl⟩:∃ k,fuel=k+1:=⟨fuel - 1,by omega⟩
      refine ⟨M,?_,by simp⟩
      refine iter_end ?_
      simp only [stp_L70_5,step_L70_5,show (stS 0 n r 0 (A++M++[]) c0 c0).pending=A++M++[] from rfl]
      rw [cdf (by simp)]
      simp
    | cons b B ih =>
      intro A M fuel hM hB hs hf
      obtain ⟨fuel,rfl⟩:∃ k,fuel=k+1:=⟨fuel - 1,by omega⟩
      obtain ⟨m,M,rfl⟩:∃ m M',M=m::M':=by
        match M,hM with
        | m::M,_=>exact ⟨m,M,rfl⟩
      simp only [List.length_cons] at hs hf
      have hb:(A++(m::M)++(b::B))[(((A.length+(m::M).length:Nat)):Int).toNat]?=some b:=get_mid A (m::M) b B
      have hy:∃ y,(A++(m::M)++(b::B))[((A.length:Nat):Int).toNat]?=some y:=⟨m,by simp⟩
      obtain ⟨y,hy⟩:=hy
      have hl:((A++(m::M)++(b::B)).length:Int)=(A.length+(M.length+1)+(B.length+1):Nat):=by simp;omega
      have hset:(A++(m::M)++(b::B)).set ((A.length:Nat):Int).toNat b=(A++[b])++(M++[b])++B:=set_mid A m M b B
      have hbc:=hB b (by simp)
      have hsub:=subs_get b.coll hbc
      have hml:(m::M).length=M.length+1:=rfl
      have hl1:(A++[b]).length=A.length+1:=by simp
      have hl2:(M++[b]).length=M.length+1:=by simp
      have hl3:((m::M)++[b]).length=M.length+2:=by simp
      have hsame:A++(m::M)++(b::B)=A++((m::M)++[b])++B:=by simp
      have hw1:w64 (((A.length:Nat):Int)+1)=((A++[b]).length:Int):=by rw [w64_ok (by omega)];omega
      have hw2:w64 (((A.length+(m::M).length:Nat):Int)+1)=(((A++[b]).length+(M++[b]).length:Nat):Int):=by rw [w64_ok (by omega)];omega
      have hw3:(((A++[b]).length+(M++[b]).length:Nat):Int)=((A.length+((m::M)++[b]).length:Nat):Int):=by omega
      have hst:stp_L70_5 ((A.length:Int),((A.length+(m::M).length:Nat):Int),stS 0 n r 0 (A++(m::M)++(b::B)) c0 c0)=cond (keepO r b) (some (.inl (((A++[b]).length:Int),(((A++[b]).length+(M++[b]).length:Nat):Int),stS 0 n r 0 ((A++[b])++(M++[b])++B) c0 c0))) (some (.inl ((A.length:Int),((A.length+((m::M)++[b]).length:Nat):Int),stS 0 n r 0 (A++((m::M)++[b])++B) c0 c0))):=by
        simp only [stp_L70_5,step_L70_5,show (stS 0 n r 0 (A++(m::M)++(b::B)) c0 c0).pending=A++(m::M)++(b::B) from rfl,show (stS 0 n r 0 (A++(m::M)++(b::B)) c0 c0).sent=r from rfl,show (stS 0 n r 0 (A++(m::M)++(b::B)) c0 c0).subs=[true,true,false] from rfl,hl,hb,hy,ob_some,hset,hw1,hw2]
        rw [cdt (by omega),cdt (by omega),cdt (by omega)]
        by_cases hs:b.dot.seq≤r
        · rw [cdt hs,keep_c hs,cdt (by omega),cdt (by simp;omega),cdt (by omega),cdt (by simp;omega),hsub,ob_some]
          cases (b.coll != 2) with
          | false=>rw [hw3,← hsame];rfl
          | true =>
            rw [Bool.not_true,Bool.not_false,cond_true,cond_true,cdt (by omega),cdt (by omega)]
            rfl
        · rw [cdf hs,keep_t hs,cdt (by omega),cdt (by omega),cond_true]
          rfl
      cases hk:keepO r b with
      | true =>
        rw [hk,cond_true] at hst
        have hfil:(b::B).filter (keepO r)=b::B.filter (keepO r):=by rw [List.filter_cons,hk];rfl
        have hap:A++b::B.filter (keepO r)=(A++[b])++B.filter (keepO r):=by simp
        obtain ⟨M',h1,h2⟩:=ih (A++[b]) (M++[b]) fuel (by simp) (fun o ho=>hB o (by simp [ho])) (by omega) (by omega)
        refine ⟨M',?_,?_⟩
        · rw [iter_go hst,h1,hfil,hap]
        · rw [hfil,hap,h2,hl1,hl2,hml];simp only [List.length_cons];omega
      | false =>
        rw [hk,cond_false] at hst
        have hfil:(b::B).filter (keepO r)=B.filter (keepO r):=by rw [List.filter_cons,hk];rfl
        obtain ⟨M',h1,h2⟩:=ih A ((m::M)++[b]) fuel (by simp) (fun o ho=>hB o (by simp [ho])) (by omega) (by omega)
        refine ⟨M',?_,?_⟩
        · rw [iter_go hst,h1,hfil]
        · rw [hfil,h2,hl3,hml];simp only [List.length_cons];omega
  obtain ⟨M,h1,h2⟩:=key B A [o] 1099511627776 (by simp) hc (by simp;omega) (by omega)
  refine ⟨M,?_,by simp at h2 ⊢;omega⟩
  unfold L70_5
  simpa using h1
end Go.Proofs.YthhfjodcgibhfaaGreat
