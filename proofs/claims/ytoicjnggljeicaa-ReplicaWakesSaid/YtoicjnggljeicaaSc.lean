/- Replicas as the document's: they are the same; what is the same. -/
import Derived.Test.YtoicjnggljeicaaSb
namespace Go.Proofs.Ytoicjnggljeicaa
open Go Go.Ev
set_option maxRecDepth 100000
theorem toRef_loop (n n2:Node)(hn:n.log.length≤1000000):∀ (j i:Nat) (n3:Node) (fuel:Nat),i+j=n.log.length→n3.log=n.log.take i→j < fuel →
    iterO stp_L36_3 fuel ((i:Int),n,n2,n3)=some (n,n2,{ n3 with log:=n.log }):=by
  intro j
  induction j with
  | zero =>
    intro i n3 fuel hj h3 hf
    obtain ⟨fuel,rfl⟩:∃ k,fuel=k+1:=⟨fuel - 1,by omega⟩
    refine iter_end ?_
    unfold stp_L36_3 step_L36_3
    dsimp only
    rw [cdf (by omega)]
    rw [List.take_of_length_le (by omega)] at h3
    rw [← h3]
  | succ j ih =>
    intro i n3 fuel hj h3 hf
    obtain ⟨fuel,rfl⟩:∃ k,fuel=k+1:=⟨fuel - 1,by omega⟩
    have hlt:i < n.log.length:=by omega
    have hw:w64 ((i:Int)+1)=((i+1:Nat):Int):=w64_ok (by omega)
    have hget:n.log[i]?=some n.log[i]:=List.getElem?_eq_getElem hlt
    have hl3:n3.log++[n.log[i]]=n.log.take (i+1):=by rw [h3,List.take_succ_eq_append_getElem hlt]
    refine (iter_go (x':=(((i+1:Nat):Int),n,n2,{ n3 with log:=n3.log++[n.log[i]] })) ?_).trans (ih (i+1) _ fuel (by omega) hl3 (by omega))
    unfold stp_L36_3 step_L36_3
    dsimp only
    rw [cdt (by omega),cdt (by omega),Int.toNat_natCast,hget,ob_some,cdt (by omega),ob_some,fits_ok (by have:=congrArg List.length hl3;rw [List.length_take] at this;show (n3.log++[n.log[i]]).length≤_;omega),cond_true,hw]
theorem toRef_eq (n:Node)(hn:n.log.length≤1000000):l15_toRef n=some n:=by
  have h:=toRef_loop n N0 hn n.log.length 0 { n with log:=[] } 1099511627776 (by omega) rfl (by omega)
  exact (congrArg (fun z=>ob z fun y=>some y.2.2) h).trans rfl
theorem toRefMsg_loop (n n2:Msg)(hn:n.entries.length≤1000000):∀ (j i:Nat) (n3:Msg) (fuel:Nat),i+j=n.entries.length→n3.entries=n.entries.take i→j < fuel →
    iterO stp_L40_3 fuel ((i:Int),n,n2,n3)=some (n,n2,{ n3 with entries:=n.entries }):=by
  intro j
  induction j with
  | zero =>
    intro i n3 fuel hj h3 hf
    obtain ⟨fuel,rfl⟩:∃ k,fuel=k+1:=⟨fuel - 1,by omega⟩
    refine iter_end ?_
    unfold stp_L40_3 step_L40_3
    dsimp only
    rw [cdf (by omega)]
    rw [List.take_of_length_le (by omega)] at h3
    rw [← h3]
  | succ j ih =>
    intro i n3 fuel hj h3 hf
    obtain ⟨fuel,rfl⟩:∃ k,fuel=k+1:=⟨fuel - 1,by omega⟩
    have hlt:i < n.entries.length:=by omega
    have hw:w64 ((i:Int)+1)=((i+1:Nat):Int):=w64_ok (by omega)
    have hget:n.entries[i]?=some n.entries[i]:=List.getElem?_eq_getElem hlt
    have hl3:n3.entries++[n.entries[i]]=n.entries.take (i+1):=by rw [h3,List.take_succ_eq_append_getElem hlt]
    refine (iter_go (x':=(((i+1:Nat):Int),n,n2,{ n3 with entries:=n3.entries++[n.entries[i]] })) ?_).trans (ih (i+1) _ fuel (by omega) hl3 (by omega))
    unfold stp_L40_3 step_L40_3
    dsimp only
    rw [cdt (by omega),cdt (by omega),Int.toNat_natCast,hget,ob_some,cdt (by omega),ob_some,fits_ok (by have:=congrArg List.length hl3;rw [List.length_take] at this;show (n3.entries++[n.entries[i]]).length≤_;omega),cond_true,hw]
theorem toRefMsg_eq (n:Msg)(hn:n.entries.length≤1000000):l15_toRefMsg n=some n:=by
  have h:=toRefMsg_loop n (Msg.mk 0 0 0 0 0 0 0 false [] s_empty) hn n.entries.length 0 { n with entries:=[] } 1099511627776 (by omega) rfl (by omega)
  exact (congrArg (fun z=>ob z fun y=>some y.2.2) h).trans rfl
/-- entries that are the same -/
def eqE (a b:Entry):Bool:=cond (a.term_ == b.term_) (cond (sEq a.cmd b.cmd) true false) false
def eqL:List Entry→List Entry→Bool
  | a::r,b::s=>cond (!eqE a b) false (eqL r s)
  | _,_=>true
theorem same_loop (l1 l2:List Entry)(hl:l1.length=l2.length)(hn:l1.length≤1000000):∀ (j i:Nat) (b:Bool) (fuel:Nat),i+j=l1.length→j < fuel →
    iterO stp_L59_4 fuel (l1,l2,b,(i:Int))=some (cond (eqL (l1.drop i) (l2.drop i)) (.inl b) (.inr false)):=by
  intro j
  induction j with
  | zero =>
    intro i b fuel hj hf
    obtain ⟨fuel,rfl⟩:∃ k,fuel=k+1:=⟨fuel - 1,by omega⟩
    refine iter_end ?_
    unfold stp_L59_4 step_L59_4
    dsimp only
    rw [cdf (by omega),List.drop_eq_nil_of_le (by omega)]
    rfl
  | succ j ih =>
    intro i b fuel hj hf
    obtain ⟨fuel,rfl⟩:∃ k,fuel=k+1:=⟨fuel - 1,by omega⟩
    have h1:i < l1.length:=by omega
    have h2:i < l2.length:=by omega
    have hw:w64 ((i:Int)+1)=((i+1:Nat):Int):=w64_ok (by omega)
    have hst:stp_L59_4 (l1,l2,b,(i:Int))=cond (!eqE l1[i] l2[i]) (some (.inr (.inr false))) (some (.inl (l1,l2,b,((i+1:Nat):Int)))):=by
      unfold stp_L59_4 step_L59_4
      dsimp only
      rw [cdt (by omega),cdt (by omega),Int.toNat_natCast,List.getElem?_eq_getElem h1,ob_some,cdt (by omega),List.getElem?_eq_getElem h2,ob_some,hw]
      rfl
    rw [List.drop_eq_getElem_cons h1,List.drop_eq_getElem_cons h2,eqL]
    cases he:eqE l1[i] l2[i] with
    | true =>
      rw [he,Bool.not_true,cond_false] at hst
      rw [iter_go hst,ih (i+1) b fuel (by omega) (by omega),Bool.not_true,cond_false]
    | false =>
      rw [he,Bool.not_false,cond_true] at hst
      rw [iter_end hst,Bool.not_false,cond_true,cond_false]
theorem psame_loop (l1 l2:List Entry)(hl:l1.length=l2.length)(hn:l1.length≤1000000):∀ (j i:Nat) (b:Bool) (fuel:Nat),i+j=l1.length→j < fuel →
    iterO stp_L34_4 fuel (l1,l2,b,(l1.length:Int),(i:Int))=some (cond (eqL (l1.drop i) (l2.drop i)) (.inl b) (.inr false)):=by
  intro j
  induction j with
  | zero =>
    intro i b fuel hj hf
    obtain ⟨fuel,rfl⟩:∃ k,fuel=k+1:=⟨fuel - 1,by omega⟩
    refine iter_end ?_
    unfold stp_L34_4 step_L34_4
    dsimp only
    rw [cdf (by omega),List.drop_eq_nil_of_le (by omega)]
    rfl
  | succ j ih =>
    intro i b fuel hj hf
    obtain ⟨fuel,rfl⟩:∃ k,fuel=k+1:=⟨fuel - 1,by omega⟩
    have h1:i < l1.length:=by omega
    have h2:i < l2.length:=by omega
    have hw:w64 ((i:Int)+1)=((i+1:Nat):Int):=w64_ok (by omega)
    have hst:stp_L34_4 (l1,l2,b,(l1.length:Int),(i:Int))=cond (!eqE l1[i] l2[i]) (some (.inr (.inr false))) (some (.inl (l1,l2,b,(l1.length:Int),((i+1:Nat):Int)))):=by
      unfold stp_L34_4 step_L34_4
      dsimp only
      rw [cdt (by omega),cdt (by omega),Int.toNat_natCast,List.getElem?_eq_getElem h1,ob_some,cdt (by omega),List.getElem?_eq_getElem h2,ob_some,hw]
      rfl
    rw [List.drop_eq_getElem_cons h1,List.drop_eq_getElem_cons h2,eqL]
    cases he:eqE l1[i] l2[i] with
    | true =>
      rw [he,Bool.not_true,cond_false] at hst
      rw [iter_go hst,ih (i+1) b fuel (by omega) (by omega),Bool.not_true,cond_false]
    | false =>
      rw [he,Bool.not_false,cond_true] at hst
      rw [iter_end hst,Bool.not_false,cond_true,cond_false]
theorem entries_eq (l1 l2:List Entry)(h1:l1.length≤1000000)(h2:l2.length≤1000000):ref15_entries l1 l2=equalEntries l1 l2:=by
  unfold ref15_entries equalEntries
  by_cases hl:l1.length=l2.length
  · rw [cnf (by omega),cnf (by omega)]
    have a:=same_loop l1 l2 hl h1 l1.length 0 false (((l1.length:Int) - 0).toNat+2) (by omega) (by omega)
    have b:=psame_loop l1 l2 hl h1 l1.length 0 false (((l1.length:Int) - 0).toNat+2) (by omega) (by omega)
    exact congrArg (fun z=>ob z fun y0=>two y0 (fun _=>some true) fun b2=>some b2) (a.trans b.symm)
  · rw [cnt_ (by omega),cnt_ (by omega)]
theorem eqE_refl (a:Entry):eqE a a=true:=by
  unfold eqE sEq
  simp
theorem eqL_refl:∀ l:List Entry,eqL l l=true
  | []=>rfl
  | a::r=>by rw [eqL,eqE_refl,Bool.not_true,cond_false,eqL_refl r]
theorem entries_refl (l:List Entry)(h:l.length≤1000000):ref15_entries l l=some true:=by
  unfold ref15_entries
  rw [cnf rfl]
  have a:=same_loop l l rfl h l.length 0 false (((l.length:Int) - 0).toNat+2) (by omega) (by omega)
  rw [eqL_refl,cond_true] at a
  exact (congrArg (fun z=>ob z fun y0=>two y0 (fun _=>some true) fun b2=>some b2) a).trans rfl
theorem rsame_eq (n m:Node)(h1:n.log.length≤1000000)(h2:m.log.length≤1000000):ref15Same n m=same n m:=by
  unfold ref15Same same
  rw [entries_eq _ _ h1 h2]
theorem sEq_refl (s:ByteArray):sEq s s=true:=by unfold sEq;simp
theorem rsame_refl (n:Node)(h:n.log.length≤1000000):ref15Same n n=some true:=by
  unfold ref15Same
  rw [entries_refl _ h,sEq_refl]
  simp
theorem rsameMsg_refl (m:Msg)(h:m.entries.length≤1000000):ref15SameMsg m m=some true:=by
  unfold ref15SameMsg
  rw [entries_refl _ h,sEq_refl]
  simp
end Go.Proofs.Ytoicjnggljeicaa
