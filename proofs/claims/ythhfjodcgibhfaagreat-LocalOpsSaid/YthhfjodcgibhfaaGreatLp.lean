/- LocalOps on typed data: the law. -/
import Derived.Test.YthhfjodcgibhfaaGreatLo
namespace Go.Proofs.YthhfjodcgibhfaaGreat
open Go Go.Ev
set_option maxRecDepth 100000
theorem OpsInv.view {i:Nat}{now seen:Int}{P:List Op}{G L:List Nat}(h:OpsInv i now seen P G L)(seq:Int):view (stS now seq 0 0 P c0 c0) 0=some (cl i G L):=by
  have h1:=h.size
  have h2:=h.i20
  have h3:=h.len
  exact view_st now seq 0 0 P c0 c0 _ (by omega) h.fold (small_cl (by omega) (by omega))
theorem get_last (P:List Op)(o:Op){i:Nat}(h:P.length=i):(P++[o])[(i:Int).toNat]?=some o:=by subst h;simp
/-- a step at which an element is laid -/
theorem ops_add {l1:List Int}{l2:List Bool}{i:Nat}{now seen:Int}{P:List Op}{G L:List Nat}(b:Bool)(h:OpsInv i now seen P G L)(hi:i < 20)(h1:i < l1.length)(hr:∀ x,l2[i]?=some x→x=false) :
    stp_L6_7 (l1,l2,b,now,seen,(i:Int),stS now i 0 0 P c0 c0)=some (.inl (l1,l2,b,now+l1[i] % 9,seen+1,((i+1:Nat):Int),stS (now+l1[i] % 9) ((i+1:Nat):Int) 0 0 (P++[addO (i+1) 0 (now+l1[i] % 9)]) c0 c0)):=by
  have a1:=Int.emod_nonneg l1[i] (by omega:(9:Int)≠0)
  have a2:=Int.emod_lt_of_pos l1[i] (by omega:(0:Int) < 9)
  generalize hr0:l1[i] % 9=r at a1 a2
  have ht:=h.time
  have hsz:=h.size
  have hlen:=h.len
  have hsn:=h.seen_eq
  have hn:=h.add hi ⟨a1,a2⟩
  have hd:∀ o∈P,o.dots.length≤1000:=fun o ho=>by have:=h.dots o ho;omega
  have e1:time (stS now i 0 0 P c0 c0) r=some (stS (now+r) i 0 0 P c0 c0,0):=time_st _ _ _ _ _ _ _ _ (by omega) hd small_0 small_0 (by omega) (by omega)
  have e2:=fun d v t=>do_add (now+r) 0 0 0 t v d i P c0 c0 (by omega) (by omega) hd small_0 small_0 (by omega) (by omega)
  have e3:=hn.view ((i+1:Nat):Int)
  have e4:=refDots_all (i+1) G (L++[i+1]) (by simp;omega)
  have e5:=get_last P (addO (i+1) 0 (now+r)) hlen
  have hx:l1[(i:Int).toNat]?=some l1[i]:=by rw [Int.toNat_natCast];exact List.getElem?_eq_getElem h1
  have hw:w64 ((i:Int)+1)=((i+1:Nat):Int):=w64_ok (by omega)
  have hw2:w64 (now+r)=now+r:=w64_ok (by omega)
  have hw3:w64 (seen+1)=seen+1:=w64_ok (by omega)
  have hg:(cond (decide ((i:Int) < (l1.length:Int))) (decide ((i:Int) < 20)) false)=true:=by rw [cdt (by omega)];exact decide_eq_true (by omega)
  have hl4:(((L++[i+1]).map dt).length:Int)=seen+1:=by simp;omega
  have hl5:((P++[addO (i+1) 0 (now+r)]).length:Int)=((i+1:Nat):Int):=by simp;omega
  have q0:(0:Int)≤(i:Int):=by omega
  simp only [stp_L6_7,step_L6_7,hg,cond_true,cdt q0,hx,ob_some,within_eq (a:=l1[i]) (n:=9) (by omega) (by omega),hr0,e1]
  by_cases hb:i < l2.length
  · have hf:l2[(i:Int).toNat]?=some false:=by
      rw [Int.toNat_natCast,List.getElem?_eq_getElem hb]
      rw [hr l2[i] (List.getElem?_eq_getElem hb)]
    rw [cdt (by omega)]
    simp only [hf,ob_some,cond_false,e2,show (stS (now+r) ((i+1:Nat):Int) 0 0 (P++[addO (i+1) 0 (now+r)]) c0 c0).pending=P++[addO (i+1) 0 (now+r)] from rfl,hl5,hw,e5,e3,e4,hl4,hw2,hw3,bne_self_eq_false]
    simp only [addO,bne_self_eq_false,beq_self_eq_true,cond_true,cond_false,Bool.not_true,List.length_nil]
    rfl
  · rw [cdf (by omega)]
    simp only [cond_false,e2,ob_some,show (stS (now+r) ((i+1:Nat):Int) 0 0 (P++[addO (i+1) 0 (now+r)]) c0 c0).pending=P++[addO (i+1) 0 (now+r)] from rfl,hl5,hw,e5,e3,e4,hl4,hw2,hw3,bne_self_eq_false]
    simp only [addO,bne_self_eq_false,beq_self_eq_true,cond_true,cond_false,Bool.not_true,List.length_nil]
    rfl
/-- a step at which elements are removed -/
theorem ops_rem {l1:List Int}{l2:List Bool}{i:Nat}{now seen:Int}{P:List Op}{G L:List Nat}(b:Bool)(h:OpsInv i now seen P G L)(hi:i < 20)(h1:i < l1.length)(hr:l2[i]?=some true) :
    stp_L6_7 (l1,l2,b,now,seen,(i:Int),stS now i 0 0 P c0 c0)=some (.inl (l1,l2,b,now+l1[i] % 9,seen - ((L.take (min L.length 8)).length:Int),((i+1:Nat):Int),stS (now+l1[i] % 9) ((i+1:Nat):Int) 0 0 (P++[remO (i+1) 0 (now+l1[i] % 9) (L.take (min L.length 8))]) c0 c0)):=by
  have a1:=Int.emod_nonneg l1[i] (by omega:(9:Int)≠0)
  have a2:=Int.emod_lt_of_pos l1[i] (by omega:(0:Int) < 9)
  generalize hr0:l1[i] % 9=r at a1 a2
  have ht:=h.time
  have hsz:=h.size
  have hlen:=h.len
  have hsn:=h.seen_eq
  have hn:=h.rem hi ⟨a1,a2⟩
  have hd:∀ o∈P,o.dots.length≤1000:=fun o ho=>by have:=h.dots o ho;omega
  have e1:time (stS now i 0 0 P c0 c0) r=some (stS (now+r) i 0 0 P c0 c0,0):=time_st _ _ _ _ _ _ _ _ (by omega) hd small_0 small_0 (by omega) (by omega)
  have e2:=fun d v t=>do_rem (now+r) 0 0 t v d i i P c0 c0 G L (by omega) (by omega) hd small_0 small_0 (by omega) h.fold (by omega) (by omega) (List.pairwise_append.1 h.sort).2.1
  generalize hD:L.take (min L.length 8)=D at *
  have hDl:D.length=min L.length 8:=by rw [← hD];simp
  have e3:=hn.view ((i+1:Nat):Int)
  have e4:=refDots_all (i+1) (G++D) (L.drop (min L.length 8)) (by simp;omega)
  have e5:=get_last P (remO (i+1) 0 (now+r) D) hlen
  have hx:l1[(i:Int).toNat]?=some l1[i]:=by rw [Int.toNat_natCast];exact List.getElem?_eq_getElem h1
  have hw:w64 ((i:Int)+1)=((i+1:Nat):Int):=w64_ok (by omega)
  have hw2:w64 (now+r)=now+r:=w64_ok (by omega)
  have hg:(cond (decide ((i:Int) < (l1.length:Int))) (decide ((i:Int) < 20)) false)=true:=by rw [cdt (by omega)];exact decide_eq_true (by omega)
  have hdd:(remO (i+1) 0 (now+r) D).dots=D.map dt:=rfl
  have hw3:w64 (seen - (D.length:Int))=seen - (D.length:Int):=w64_ok (by omega)
  have hl4:((L.drop (min L.length 8)).length:Int)=seen - (D.length:Int):=by simp;omega
  have hl5:((P++[remO (i+1) 0 (now+r) D]).length:Int)=((i+1:Nat):Int):=by simp;omega
  have hmn:min2 seen 8=(D.length:Int):=by rw [hsn,min_8,hDl]
  have q0:(0:Int)≤(i:Int):=by omega
  have hb:i < l2.length:=by
    rcases Nat.lt_or_ge i l2.length with hb | hb
    · exact hb
    · rw [List.getElem?_eq_none hb] at hr;cases hr
  have hf:l2[(i:Int).toNat]?=some true:=by rw [Int.toNat_natCast];exact hr
  simp only [stp_L6_7,step_L6_7,hg,cond_true,cdt q0,hx,ob_some,within_eq (a:=l1[i]) (n:=9) (by omega) (by omega),hr0,e1]
  rw [cdt (by omega)]
  simp only [hf,ob_some,cond_true,e2,show (stS (now+r) ((i+1:Nat):Int) 0 0 (P++[remO (i+1) 0 (now+r) D]) c0 c0).pending=P++[remO (i+1) 0 (now+r) D] from rfl,hl5,hw,e5,e3,e4,hl4,hw2,hw3,bne_self_eq_false,hdd,hmn,List.length_map]
  simp only [remO,bne_self_eq_false,beq_self_eq_true,cond_true,cond_false,Bool.not_true]
theorem ops_0:OpsInv 0 0 0 [] [] []:=⟨rfl,by omega,by simp,by omega,rfl,by simp,by simp,by simp,rfl⟩
theorem ops_loop (l1:List Int)(l2:List Bool):∃ y,L6_7 l1 l2 false 0 0 0 (stS 0 0 0 0 [] c0 c0)=some y∧∃ b s,y=.inl (b,s):=by
  refine iter_inv (stp:=stp_L6_7) (Inv:=fun m x=>∃ (i:Nat) (b:Bool) (now seen:Int) (P:List Op) (G L:List Nat),min l1.length 20=i+m∧OpsInv i now seen P G L∧x=(l1,l2,b,now,seen,(i:Int),stS now i 0 0 P c0 c0)) (Post:=fun y=>∃ b s,y=.inl (b,s)) ?_ ?_ (min l1.length 20) (((l1.length:Int) - 0).toNat+2) _ ⟨0,false,0,0,[],[],[],by omega,ops_0,rfl⟩ (by omega)
  · rintro x ⟨i,b,now,seen,P,G,L,hm,h,rfl⟩
    have hx:(cond (decide ((i:Int) < (l1.length:Int))) (decide ((i:Int) < 20)) false)=false:=by
      cases h:decide ((i:Int) < (l1.length:Int)) with
      | false=>rfl
      | true=>simp at h ⊢;omega
    exact ⟨.inl (b,stS now i 0 0 P c0 c0),by simp only [stp_L6_7,step_L6_7,hx,cond_false],b,_,rfl⟩
  · rintro m x ⟨i,b,now,seen,P,G,L,hm,h,rfl⟩
    have hi:i < l1.length:=by omega
    have a1:=Int.emod_nonneg l1[i] (by omega:(9:Int)≠0)
    have a2:=Int.emod_lt_of_pos l1[i] (by omega:(0:Int) < 9)
    by_cases hr:l2[i]?=some true
    · exact ⟨_,ops_rem b h (by omega) hi hr,i+1,b,_,_,_,_,_,by omega,h.rem (by omega) ⟨a1,a2⟩,rfl⟩
    · refine ⟨_,ops_add b h (by omega) hi (fun x hx=>?_),i+1,b,_,_,_,_,_,by omega,h.add (by omega) ⟨a1,a2⟩,rfl⟩
      cases x with
      | false=>rfl
      | true=>exact absurd hx hr
theorem localOps_true (l1:List Int)(l2:List Bool):localOps l1 l2=some true:=by
  obtain ⟨y,hy,b,s,rfl⟩:=ops_loop l1 l2
  rw [localOps,known_true,ob_some,Bool.not_true,cond_false,ready_eq,ob_some,hy,ob_some,two_inl]
end Go.Proofs.YthhfjodcgibhfaaGreat
