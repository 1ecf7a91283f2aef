/- LocalOps on typed data: removing, views, what a device does. -/
import Derived.Test.YthhfjodcgibhfaaGreatLa
namespace Go.Proofs.YthhfjodcgibhfaaGreat
open Go Go.Ev
set_option maxRecDepth 100000
/-- a kept element is moved to the front of those that are dropped -/
theorem set_mid {α:Type}(A:List α)(m:α)(M:List α)(b:α)(B:List α):(A++(m::M)++(b::B)).set A.length b=(A++[b])++(M++[b])++B:=by
  rw [List.append_assoc,List.set_append_right _ _ (Nat.le_refl _),Nat.sub_self]
  simp
theorem get_mid {α:Type}(A M:List α)(b:α)(B:List α):(A++M++(b::B))[A.length+M.length]?=some b:=by
  rw [List.getElem?_append_right (by simp)]
  simp
/-- what is left of a list behind the front is cut -/
theorem cut_front {α:Type}(A M:List α)(z:α):(((((A++M).take A.length)++(List.replicate ((A++M).length - A.length) z))++(((A++M).take (A++M).length).drop (A.length+((A++M).length - A.length)))).take A.length)=A:=by
  simp
def dEq (a b:Dot):Bool:=cond (a.device == b.device) (cond (a.epoch == b.epoch) (cond (a.seq == b.seq) true false) false) false
theorem dEq_dt (a b:Nat):dEq (dt a) (dt b)=decide (a=b):=by
  unfold dEq
  simp only [beq_self_eq_true,cond_true]
  by_cases h:a=b
  · subst h;simp
  · rw [beq_eq_false_iff_ne.2 (show (a:Int)≠(b:Int) by omega),decide_eq_false h];rfl
/-- all behind the first are kept -/
theorem drop_el (d:Nat)(L:List Nat)(hd:∀ x∈L,d < x)(hn:L.length < 1000) :
    ∃ M,L97_5 ((d::L).map el) 0 1 (dt d)=some (L.map el++M,(L.length:Int),dt d)∧M.length=1:=by
  have key:∀ (B:List Nat) (A:List Nat) (M:List Elem) (fuel:Nat),M.length=1→(∀ x∈B,d < x)→A.length+B.length < 1000→B.length < fuel →
      ∃ M',iterO stp_L97_5 fuel (A.map el++M++B.map el,(A.length:Int),((A.length+1:Nat):Int),dt d)=some ((A++B).map el++M',((A++B).length:Int),dt d)∧M'.length=1:=by
    intro B
    induction B with
    | nil =>
      intro A M fuel hM _ hs hf
      obtain ⟨fuel,rfl⟩:∃ k,fuel=k+1:=⟨fuel - 1,by omega⟩
      refine ⟨M,?_,hM⟩
      refine iter_end ?_
      have hl:((A.map el++M++List.map el []).length:Int)=(A.length+1:Nat):=by simp [hM]
      simp only [stp_L97_5,step_L97_5,hl]
      rw [cdf (by omega)]
      simp
    | cons b B ih =>
      intro A M fuel hM hB hs hf
      obtain ⟨fuel,rfl⟩:∃ k,fuel=k+1:=⟨fuel - 1,by omega⟩
      obtain ⟨m,rfl⟩:∃ m,M=[m]:=by
        match M,hM with
        | [m],_=>exact ⟨m,rfl⟩
      have hl:((A.map el++[m]++List.map el (b::B)).length:Int)=(A.length+1+(B.length+1):Nat):=by simp;omega
      have he:(A.map el++[m]++List.map el (b::B))[((A.length+1:Nat):Int).toNat]?=some (el b):=by
        have:=get_mid (A.map el) [m] (el b) (B.map el)
        rw [List.length_map] at this
        exact this
      have he0:∃ y,(A.map el++[m]++List.map el (b::B))[(A.length:Int).toNat]?=some y:=⟨m,by simp⟩
      obtain ⟨y0,he0⟩:=he0
      have hset:(A.map el++[m]++List.map el (b::B)).set (A.length:Int).toNat (el b)=(A++[b]).map el++[el b]++B.map el:=by
        rw [Int.toNat_natCast]
        simp
      have hne:dEq (el b).dot (dt d)=false:=by
        have hb:=hB b (by simp)
        rw [show (el b).dot=dt b from rfl,dEq_dt]
        exact decide_eq_false (by omega)
      unfold dEq at hne
      simp only [List.length_cons] at hs hf
      obtain ⟨M',h1,h2⟩:=ih (A++[b]) [el b] fuel rfl (fun x hx=>hB x (by simp [hx])) (by simp;omega) (by omega)
      refine ⟨M',?_,h2⟩
      rw [iter_go (x':=((A++[b]).map el++[el b]++B.map el,((A++[b]).length:Int),(((A++[b]).length+1:Nat):Int),dt d))]
      · rw [h1,List.append_assoc];rfl
      · simp only [stp_L97_5,step_L97_5,hl]
        rw [cdt (by omega),cdt (by omega),cdt (by omega),he,ob_some,hne,Bool.not_false,cond_true,cdt (by omega),cdt (by omega),he0,ob_some,hset]
        rw [w64_ok (by omega),w64_ok (by omega)]
        simp only [List.length_append,List.length_singleton]
        rfl
  have:=key L [] [el d] (((((d::L).map el).length:Int) - 1).toNat+2) rfl hd (by simpa using hn) (by simp)
  simpa [L97_5] using this
theorem first_el (d:Nat)(L:List Nat):L126_2 ((d::L).map el) 0 (((d::L).map el).length:Int) 0 (dt d)=some (.inr (0,dt d,(d::L).map el)):=by
  unfold L126_2
  refine iter_end ?_
  have hne:dEq (el d).dot (dt d)=true:=by rw [show (el d).dot=dt d from rfl,dEq_dt];exact decide_eq_true rfl
  unfold dEq at hne
  have he:((d::L).map el)[((0:Int)).toNat]?=some (el d):=rfl
  simp only [stp_L126_2,step_L126_2]
  rw [cdt (by simp),cdt (by omega),cdt (by simp),he,ob_some,hne,cond_true]
/-- what a removal does with one dot, the first that is there -/
theorem rem_one (m d:Nat)(G L:List Nat)(ds:List Dot)(n i:Nat)(c2:Coll)(hi:i < n)(hn:n≤100)(hd:ds[i]?=some (dt d))(hG:∀ x∈G,x < d)(hL:∀ x∈L,d < x)(lG:G.length≤100)(lL:L.length≤100) :
    stp_L53_2 (ds,(n:Int),(i:Int),cl m G (d::L),c2)=some (.inl (ds,(n:Int),((i+1:Nat):Int),cl m (G++[d]) L,c2)):=by
  have e3:=find_dot G d hG (by omega)
  obtain ⟨M,e4,hM⟩:=drop_el d L hL (by omega)
  have e5:=first_el d L
  have e8:=end_dot G d
  rw [List.length_map] at e8
  have hl:(L.map el++M).length=L.length+1:=by simp [hM]
  have hcut:=cut_front (L.map el) M (Elem.mk s_empty s_empty 0 (Dot.mk 0 0 0))
  rw [List.length_map,hl] at hcut
  simp only [stp_L53_2,step_L53_2]
  rw [cdt (by omega),cdt (by omega),Int.toNat_natCast,hd,ob_some,show (cl m G (d::L)).gone=G.map dt from rfl,e3,ob_some]
  simp only [List.length_map]
  rw [cdf (by omega),cdt (by omega),cdt (by omega),e8,fits_ok (by simp;omega),cond_true]
  rw [show (cl m G (d::L)).elems=(d::L).map el from rfl,e5,ob_some,two_inr]
  simp only
  rw [show ((0:Int) == -1)=false from rfl,cond_false,show w64 (0+1)=1 from w64_ok (by omega),e4,ob_some]
  simp only [hl,Int.toNat_natCast]
  rw [cdt (by omega),cdt (by omega),cdt (by omega),cdt (by omega),cdt (by simp;omega),hcut,w64_ok (by omega)]
  rfl
/-- what a removal does: the first ones go -/
theorem rem_all (m:Nat)(D G L:List Nat)(c2:Coll)(h:(G++(D++L)).Pairwise (· < ·))(l1:G.length+D.length≤100)(l2:D.length+L.length≤100) :
    L53_2 (D.map dt) (D.length:Int) 0 (cl m G (D++L)) c2=some (cl m (G++D) L,c2):=by
  have key:∀ (B:List Nat) (A:List Nat) (G:List Nat) (fuel:Nat),A++B=D→(G++(B++L)).Pairwise (· < ·)→G.length+B.length≤100→B.length+L.length≤100→B.length < fuel →
      iterO stp_L53_2 fuel (D.map dt,(D.length:Int),(A.length:Int),cl m G (B++L),c2)=some (cl m (G++B) L,c2):=by
    intro B
    induction B with
    | nil =>
      intro A G fuel hA _ _ _ hf
      obtain ⟨fuel,rfl⟩:∃ k,fuel=k+1:=⟨fuel - 1,by omega⟩
      rw [List.append_nil] at hA
      subst hA
      refine iter_end ?_
      simp only [stp_L53_2,step_L53_2]
      rw [cdf (by omega),List.append_nil]
      rfl
    | cons b B ih =>
      intro A G fuel hA hp h1 h2 hf
      obtain ⟨fuel,rfl⟩:∃ k,fuel=k+1:=⟨fuel - 1,by omega⟩
      have hp':=List.pairwise_append.1 hp
      have hb:(D.map dt)[A.length]?=some (dt b):=by rw [← hA];simp
      simp only [List.length_cons] at h1 h2 hf
      have hDl:D.length=A.length+(B.length+1):=by rw [← hA];simp
      have hgo:=rem_one m b G (B++L) (D.map dt) D.length A.length c2 (by omega) (by omega) hb (fun x hx=>hp'.2.2 x hx b (by simp)) (fun x hx=>(List.pairwise_cons.1 hp'.2.1).1 x hx) (by omega) (by simp;omega)
      rw [List.cons_append,iter_go hgo]
      have:=ih (A++[b]) (G++[b]) fuel (by rw [← hA];simp) (by simpa using hp) (by simp;omega) (by omega) (by omega)
      simpa using this
  have:=key D [] G _ rfl h l1 l2 (by omega:D.length < ((D.length:Int) - 0).toNat+2)
  exact this
theorem dots_ok (D:List Nat)(h:D.Pairwise (· < ·))(hn:D.length≤8):opsDots (D.map dt)=some 0:=by
  have key:∀ (m i fuel:Nat),i+m=D.length→m < fuel→iterO stp_L104_4 fuel (D.map dt,0,(D.length:Int),(i:Int))=some (.inl 0):=by
    intro m
    induction m with
    | zero =>
      intro i fuel hm hf
      obtain ⟨fuel,rfl⟩:∃ k,fuel=k+1:=⟨fuel - 1,by omega⟩
      refine iter_end ?_
      simp only [stp_L104_4,step_L104_4]
      rw [cdf (by omega)]
    | succ m ih =>
      intro i fuel hm hf
      obtain ⟨fuel,rfl⟩:∃ k,fuel=k+1:=⟨fuel - 1,by omega⟩
      have hw:w64 ((i:Int)+1)=((i+1:Nat):Int):=w64_ok (by omega)
      refine (iter_go ?_).trans (ih (i+1) fuel (by omega) (by omega))
      simp only [stp_L104_4,step_L104_4]
      rw [cdt (by omega)]
      by_cases h0:i=0
      · subst h0
        rw [cdf (by omega),hw]
      · have hi:i < D.length:=by omega
        have hj:i - 1 < D.length:=by omega
        have hlt:D[i - 1] < D[i]:=List.pairwise_iff_getElem.1 h (i - 1) i hj hi (by omega)
        have e0:(D.map dt)[((i:Int) - 1).toNat]?=some (dt D[i - 1]):=by
          rw [show ((i:Int) - 1).toNat=i - 1 by omega,List.getElem?_map,List.getElem?_eq_getElem hj];rfl
        have e1:(D.map dt)[((i:Int)).toNat]?=some (dt D[i]):=by
          rw [Int.toNat_natCast,List.getElem?_map,List.getElem?_eq_getElem hi];rfl
        rw [cdt (by omega),w64_ok (by omega),cdt (by omega),e0,ob_some,cdt (by omega),e1,ob_some,before_lt hlt,ob_some,cdf (by omega),hw]
  unfold opsDots L104_4
  rw [List.length_map,cdf (by omega)]
  rw [show (((D.length:Int) - 0).toNat+2)=D.length+2 by omega]
  have:=key D.length 0 (D.length+2) (by omega) (by omega)
  rw [show ((0:Nat):Int)=0 from rfl] at this
  rw [this]
  rfl
theorem check_rem {s:Nat}{c now:Int}{D:List Nat}(hs:1≤s∧s≤1000)(hc:0≤c∧c≤2)(hn:0≤now∧now≤100000)(hD:D.Pairwise (· < ·))(hl:D.length≤8):opsCheck (remO s c now D)=some 0:=by
  rw [check_of (o:=remO s c now D) rfl rfl (by simp only [remO];omega) hc rfl hn (by simp only [remO];omega) rfl rfl]
  have e:sEq s_k s_empty=false:=by kernel_rfl
  have e2:=dots_ok D hD hl
  unfold opsKind remO
  simp only [e,e2,ob_some]
  rfl
theorem apply_rem {m s:Nat}{D G L:List Nat}{c now:Int}(hm:m < s)(hs:s≤1000)(h:(G++(D++L)).Pairwise (· < ·))(l1:G.length+D.length≤100)(l2:D.length+L.length≤100)(hD:D.length≤8)(hc:0≤c∧c≤2)(hn:0≤now∧now≤100000) :
    apply_ (cl m G (D++L)) (remO s c now D)=some (cl s (G++D) L,0):=by
  have v1:=vc_len m
  have v2:=vc_len s
  have e1:collOwn (cl m G (D++L))=some (cl m G (D++L)):=own_coll _ (by simp only [cl];omega) (by simp [cl]) (by simp only [cl,List.length_map,List.length_append];omega) (by simp only [cl,List.length_map];omega) (by simp [cl]) (by simp [cl])
  have e2:collOwn (cl s (G++D) L)=some (cl s (G++D) L):=own_coll _ (by simp only [cl];omega) (by simp [cl]) (by simp only [cl,List.length_map];omega) (by simp only [cl,List.length_map,List.length_append];omega) (by simp [cl]) (by simp [cl])
  have hDp:D.Pairwise (· < ·):=(List.pairwise_append.1 (List.pairwise_append.1 h).2.1).1
  have e5:=check_rem (s:=s) (by omega) hc hn hDp hD
  have e6:=step_vc m s hm
  have e7:=rem_all s D G L (Coll.mk [] [] [] [] [] []) h l1 l2
  unfold apply_
  rw [e1,ob_some,e5,ob_some]
  simp only [bne_self_eq_false,cond_false]
  rw [show (cl m G (D++L)).v=vc m from rfl,show (remO s c now D).dot=dt s from rfl,e6,ob_some]
  simp only [bne_self_eq_false,cond_false]
  rw [show ((remO s c now D).kind == 1)=false from rfl,show ((remO s c now D).kind == 2)=false from rfl,show ((remO s c now D).kind == 3)=true from rfl,cond_false,cond_false,cond_true]
  rw [show (remO s c now D).dots=D.map dt from rfl,List.length_map]
  rw [show Coll.mk (vc s) (cl m G (D++L)).regs (cl m G (D++L)).elems (cl m G (D++L)).gone (cl m G (D++L)).sums (cl m G (D++L)).binds=cl s G (D++L) from rfl,e7,ob_some]
  exact (congrArg (fun z=>ob z fun y=>some (y,0)) e2).trans rfl
/-- a collection with what is pending -/
def foldV (c:Int):List Op→Coll→Option Coll
  | [],x=>some x
  | o::r,x=>cond (o.coll != c) (foldV c r x) (ob (apply_ x o) fun y=>cond (y.2 == 0) (foldV c r y.1) (foldV c r x))
theorem foldV_snoc (c:Int)(o:Op):∀ (P:List Op) (x:Coll),foldV c (P++[o]) x=ob (foldV c P x) fun y=>foldV c [o] y
  | [],x=>rfl
  | p::P,x=>by
    simp only [List.cons_append,foldV]
    cases (p.coll != c) with
    | true=>simp only [cond_true];exact foldV_snoc c o P x
    | false =>
      simp only [cond_false]
      cases apply_ x p with
      | none=>rfl
      | some y =>
        simp only [ob_some]
        cases (y.2 == 0) with
        | true=>simp only [cond_true];exact foldV_snoc c o P y.1
        | false=>simp only [cond_false];exact foldV_snoc c o P x
theorem view_loop (c:Int)(P:List Op)(c1 x y:Coll)(h:foldV c P x=some y)(hn:P.length≤1000):L21_5 c P (P.length:Int) 0 c1 x=some (c1,y):=by
  have key:∀ (B A:List Op) (x:Coll) (fuel:Nat),A++B=P→foldV c B x=some y→B.length < fuel→iterO stp_L21_5 fuel (c,P,(P.length:Int),(A.length:Int),c1,x)=some (c1,y):=by
    intro B
    induction B with
    | nil =>
      intro A x fuel hA hx hf
      obtain ⟨fuel,rfl⟩:∃ k,fuel=k+1:=⟨fuel - 1,by omega⟩
      rw [List.append_nil] at hA
      subst hA
      cases hx
      refine iter_end ?_
      simp only [stp_L21_5,step_L21_5]
      rw [cdf (by omega)]
    | cons b B ih =>
      intro A x fuel hA hx hf
      obtain ⟨fuel,rfl⟩:∃ k,fuel=k+1:=⟨fuel - 1,by omega⟩
      have hb:P[(A.length:Int).toNat]?=some b:=by rw [← hA];simp
      have hl:P.length=A.length+(B.length+1):=by rw [← hA];simp
      have hw:w64 ((A.length:Int)+1)=((A.length+1:Nat):Int):=w64_ok (by omega)
      simp only [List.length_cons] at hf
      have hAb:(A++[b])++B=P:=by rw [← hA];simp
      have hgo:∀ x',foldV c B x'=some y→stp_L21_5 (c,P,(P.length:Int),(A.length:Int),c1,x)=some (.inl (c,P,(P.length:Int),((A.length+1:Nat):Int),c1,x'))→iterO stp_L21_5 (fuel+1) (c,P,(P.length:Int),(A.length:Int),c1,x)=some (c1,y):=by
        intro x' h1 h2
        have:=ih (A++[b]) x' fuel hAb h1 (by omega)
        rw [List.length_append,List.length_singleton] at this
        exact (iter_go h2).trans this
      unfold foldV at hx
      cases hc:(b.coll != c) with
      | true =>
        rw [hc,cond_true] at hx
        refine hgo x hx ?_
        simp only [stp_L21_5,step_L21_5]
        rw [cdt (by omega),cdt (by omega),hb,ob_some,hc,cond_true,hw]
      | false =>
        rw [hc,cond_false] at hx
        obtain ⟨z,hz,hx⟩:=ob_eq.1 hx
        cases hk:(z.2 == 0) with
        | true =>
          rw [hk,cond_true] at hx
          refine hgo z.1 hx ?_
          simp only [stp_L21_5,step_L21_5]
          rw [cdt (by omega),cdt (by omega),hb,ob_some,hc,cond_false,hz,ob_some,hk,cond_true,hw]
        | false =>
          rw [hk,cond_false] at hx
          refine hgo x hx ?_
          simp only [stp_L21_5,step_L21_5]
          rw [cdt (by omega),cdt (by omega),hb,ob_some,hc,cond_false,hz,ob_some,hk,cond_false,hw]
  exact key P [] x _ rfl h (by omega)
theorem key_eq:sEq s_k s_k=true∧sEq s_t s_t=true:=⟨by kernel_rfl,by kernel_rfl⟩
/-- the dots of a text that all elements bear -/
theorem dots_all (m:Nat)(G L:List Nat)(hn:L.length≤100):collDots (cl m G L) s_k s_t=some (L.map dt):=by
  have key:∀ (B A:List Nat) (fuel:Nat),A++B=L→B.length < fuel→iterO stp_L40_3 fuel (s_k,s_t,A.map dt,L.map el,(L.length:Int),(A.length:Int))=some (L.map dt):=by
    intro B
    induction B with
    | nil =>
      intro A fuel hA hf
      obtain ⟨fuel,rfl⟩:∃ k,fuel=k+1:=⟨fuel - 1,by omega⟩
      rw [List.append_nil] at hA
      subst hA
      refine iter_end ?_
      simp only [stp_L40_3,step_L40_3]
      rw [cdf (by omega)]
    | cons b B ih =>
      intro A fuel hA hf
      obtain ⟨fuel,rfl⟩:∃ k,fuel=k+1:=⟨fuel - 1,by omega⟩
      have hb:(L.map el)[(A.length:Int).toNat]?=some (el b):=by rw [← hA];simp
      have hl:L.length=A.length+(B.length+1):=by rw [← hA];simp
      have hw:w64 ((A.length:Int)+1)=((A.length+1:Nat):Int):=w64_ok (by omega)
      simp only [List.length_cons] at hf
      have:=ih (A++[b]) fuel (by rw [← hA];simp) (by omega)
      rw [List.length_append,List.length_singleton,List.map_append] at this
      refine (iter_go ?_).trans this
      simp only [stp_L40_3,step_L40_3]
      rw [cdt (by omega),cdt (by omega),hb,ob_some,show (el b).key=s_k from rfl,show (el b).text=s_t from rfl,key_eq.1,key_eq.2,cond_true,cond_true,fits_ok (by simp;omega),cond_true,hw]
      rfl
  unfold collDots L40_3
  rw [show (cl m G L).elems=L.map el from rfl,List.length_map]
  have:=key L [] (((L.length:Int) - 0).toNat+2) rfl (by omega)
  simp only [List.map_nil,List.length_nil] at this
  rw [show ((0:Nat):Int)=0 from rfl] at this
  rw [this]
  rfl
theorem refDots_all (m:Nat)(G L:List Nat)(hn:L.length≤100):refDots (cl m G L) s_k s_t=some (L.map dt):=by
  have key:∀ (B A:List Nat) (fuel:Nat),A++B=L→B.length < fuel→iterO stp_L20_3 fuel (s_k,s_t,A.map dt,(A.length:Int),cl m G L)=some (L.map dt,cl m G L):=by
    intro B
    induction B with
    | nil =>
      intro A fuel hA hf
      obtain ⟨fuel,rfl⟩:∃ k,fuel=k+1:=⟨fuel - 1,by omega⟩
      rw [List.append_nil] at hA
      subst hA
      refine iter_end ?_
      simp only [stp_L20_3,step_L20_3]
      rw [show (cl m G A).elems=A.map el from rfl,List.length_map,cdf (by omega)]
    | cons b B ih =>
      intro A fuel hA hf
      obtain ⟨fuel,rfl⟩:∃ k,fuel=k+1:=⟨fuel - 1,by omega⟩
      have hb:(L.map el)[(A.length:Int).toNat]?=some (el b):=by rw [← hA];simp
      have hl:L.length=A.length+(B.length+1):=by rw [← hA];simp
      have hw:w64 ((A.length:Int)+1)=((A.length+1:Nat):Int):=w64_ok (by omega)
      simp only [List.length_cons] at hf
      have:=ih (A++[b]) fuel (by rw [← hA];simp) (by omega)
      rw [List.length_append,List.length_singleton,List.map_append] at this
      refine (iter_go ?_).trans this
      simp only [stp_L20_3,step_L20_3]
      rw [show (cl m G L).elems=L.map el from rfl,List.length_map]
      simp only [hb,ob_some,key_eq.1,key_eq.2,cond_true,hw]
      rw [cdt (by omega),cdt (by omega)]
      simp (disch:=omega) only [cdt,fits_ok,List.length_append,List.length_map,List.length_singleton,cond_true]
      rfl
  unfold refDots L20_3
  have:=key L [] 1099511627776 rfl (by omega)
  simp only [List.map_nil,List.length_nil] at this
  rw [show ((0:Nat):Int)=0 from rfl] at this
  rw [this]
  rfl
end Go.Proofs.YthhfjodcgibhfaaGreat
