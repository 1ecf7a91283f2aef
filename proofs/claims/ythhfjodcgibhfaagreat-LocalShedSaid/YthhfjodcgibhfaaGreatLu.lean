/- LocalShed on typed data: what comes back, the law. -/
import Derived.Test.YthhfjodcgibhfaaGreatLs
namespace Go.Proofs.YthhfjodcgibhfaaGreat
open Go Go.Ev
set_option maxRecDepth 100000
/-- the search for an operation by its dot -/
theorem find_op (A:List Op)(o:Op)(B:List Op)(hn:A.length+B.length≤90)(hA:∀ x∈A,dEq x.dot o.dot=false)(ho:dEq o.dot o.dot=true) :
    L27b_2 (A++o::B) 0 ((A++o::B).length:Int) 0 o=some (.inr ((A.length:Int),o,A++o::B)):=by
  have key:∀ (C D:List Op) (fuel:Nat),D++C=A→C.length < fuel→iterO stp_L27b_2 fuel (A++o::B,0,((A++o::B).length:Int),(D.length:Int),o)=some (.inr ((A.length:Int),o,A++o::B)):=by
    intro C
    induction C with
    | nil =>
      intro D fuel hD hf
      obtain ⟨fuel,rfl⟩:∃ k,fuel=k+1:=⟨fuel - 1,by omega⟩
      rw [List.append_nil] at hD
      subst hD
      have hx:(D++o::B)[(D.length:Int).toNat]?=some o:=by simp
      have hl:(D++o::B).length=D.length+(B.length+1):=by simp
      unfold dEq at ho
      refine iter_end ?_
      simp only [stp_L27b_2,step_L27b_2]
      rw [cdt (by omega),cdt (by omega),cdt (by omega),hx,ob_some,ho,cond_true]
    | cons c C ih =>
      intro D fuel hD hf
      obtain ⟨fuel,rfl⟩:∃ k,fuel=k+1:=⟨fuel - 1,by omega⟩
      have hx:(A++o::B)[(D.length:Int).toNat]?=some c:=by rw [← hD];simp
      have hl:(A++o::B).length=A.length+(B.length+1):=by simp
      have hl2:A.length=D.length+(C.length+1):=by rw [← hD];simp
      have hw:w64 ((D.length:Int)+1)=((D.length+1:Nat):Int):=w64_ok (by omega)
      have hc:=hA c (by rw [← hD];simp)
      unfold dEq at hc
      simp only [List.length_cons] at hf
      have:=ih (D++[c]) fuel (by rw [← hD];simp) (by omega)
      rw [show ((D++[c]).length:Int)=((D.length+1:Nat):Int) by simp] at this
      refine (iter_go ?_).trans this
      simp only [stp_L27b_2,step_L27b_2]
      rw [cdt (by omega),cdt (by omega),cdt (by omega),hx,ob_some,hc,cond_false,hw]
  exact key A [] _ rfl (by simp;omega)
def ss0:State:=State.mk 0 0 (Lease.mk 0 0 0 0 [] [] []) 0 0 0 [] (A3Coll.mk (Coll.mk [] [] [] [] [] []) (Coll.mk [] [] [] [] [] []) (Coll.mk [] [] [] [] [] [])) 0 0 [] 0 0 (Cmd.mk 0 0 0 0 0 [] []) false 0
theorem max_r (x y:Int):max2 x y=if y > x then y else x:=rfl
/-- an operation of its own comes back: of collection 0 -/
theorem shed_red0 (n sent at_ i1:Int)(s:Nat)(P:List Op)(a b:Coll) :
    stp_L12_7 (i1,0,[addO s 0 0],1,0,stS 0 n sent at_ P a b,ss0,stS 0 n sent at_ P a b) =
      ob (apply_ a (addO s 0 0)) fun r7=>cond (r7.2 != 0) (ob (localOwn (stS 0 n sent at_ P a b)) fun y10=>some (.inr (.inr (i1,r7.2,stS 0 n sent at_ P a b,y10,stS 0 n sent at_ P a b,[],[],[],[],[],[],[]))))
        (ob (L27b_2 P 0 (P.length:Int) 0 (addO s 0 0)) fun y11=>two y11 (fun a12=>some (.inl (i1,0,[addO s 0 0],1,1,stS 0 n sent at_ P a b,ss0,stS 0 n sent at_ a12.2.2 r7.1 b)))
          (fun b13=>cond (decide (b13.1≥0)) (cond (decide (0≤b13.1)) (cond (decide (b13.1≤w64 (b13.1+1))) (cond (decide (w64 (b13.1+1)≤(b13.2.2.length:Int))) (cond (fits b13.2.2.length)
            (some (.inl (i1,0,[addO s 0 0],1,1,stS 0 n sent at_ P a b,ss0,stS 0 n (max2 sent b13.2.1.dot.seq) at_ ((b13.2.2.take b13.1.toNat)++((b13.2.2.take b13.2.2.length).drop (w64 (b13.1+1)).toNat)) r7.1 b))) none) none) none) none)
            (some (.inl (i1,0,[addO s 0 0],1,1,stS 0 n sent at_ P a b,ss0,stS 0 n sent at_ b13.2.2 r7.1 b))))):=by kernel_rfl
theorem shed_step0 (n sent at_ i1:Int)(s:Nat)(A B:List Op)(a b a':Coll)(hl:A.length+B.length≤80)(hA:∀ x∈A,dEq x.dot (dt s)=false)
    (ha:apply_ a (addO s 0 0)=some (a',0)) :
    stp_L12_7 (i1,0,[addO s 0 0],1,0,stS 0 n sent at_ (A++addO s 0 0::B) a b,ss0,stS 0 n sent at_ (A++addO s 0 0::B) a b)=some (.inl (i1,0,[addO s 0 0],1,1,stS 0 n sent at_ (A++addO s 0 0::B) a b,ss0,stS 0 n (max2 sent s) at_ (A++B) a' b)):=by
  have ho:dEq (addO s 0 0).dot (addO s 0 0).dot=true:=by rw [show (addO s 0 0).dot=dt s from rfl,dEq_dt];exact decide_eq_true rfl
  have e:=find_op A (addO s 0 0) B (by omega) (fun x hx=>hA x hx) ho
  have hl2:(A++addO s 0 0::B).length=A.length+(B.length+1):=by simp
  have hw:w64 ((A.length:Int)+1)=((A.length+1:Nat):Int):=w64_ok (by omega)
  have hcut:(A++addO s 0 0::B).take (A.length:Int).toNat++((A++addO s 0 0::B).take (A++addO s 0 0::B).length).drop (((A.length+1:Nat):Int)).toNat=A++B:=by rw [List.take_length];simp
  rw [shed_red0,ha,ob_some]
  simp only [bne_self_eq_false,cond_false]
  rw [e,ob_some,two_inr]
  simp only [hw]
  rw [cdt (by omega),cdt (by omega),cdt (by omega),cdt (by omega),fits_ok (by omega),cond_true,hcut]
  rfl
/-- Delta of one operation of its own, of collection 0 -/
theorem shed_delta0 (n sent at_:Int)(s:Nat)(A B:List Op)(a b a':Coll)(hl:A.length+B.length≤80)(hA:∀ x∈A,dEq x.dot (dt s)=false)(hd:∀ o∈A++B,o.dots.length≤1000)
    (ha:apply_ a (addO s 0 0)=some (a',0)) (h1:smallC a) (h2:smallC b) (h3:smallC a') :
    delta (stS 0 n sent at_ (A++addO s 0 0::B) a b) at_ (at_+1) [addO s 0 0]=some (stS 0 n (max2 sent s) (at_+1) (A++B) a' b,0):=by
  have e1:=own_st 0 n sent at_ (A++addO s 0 0::B) a b (by simp;omega) (fun o ho=>by
    rcases List.mem_append.1 ho with h | h
    · exact hd o (by simp [h])
    · rcases List.mem_cons.1 h with rfl | h
      · simp [addO]
      · exact hd o (by simp [h])) h1 h2
  have e2:=own_st 0 n (max2 sent s) (at_+1) (A++B) a' b (by simp;omega) hd h3 h2
  have e3:=shed_step0 n sent at_ (at_+1) s A B a b a' hl hA ha
  have e4:stp_L12_7 (at_+1,0,[addO s 0 0],1,1,stS 0 n sent at_ (A++addO s 0 0::B) a b,ss0,stS 0 n (max2 sent s) at_ (A++B) a' b)=some (.inr (.inl (at_+1,0,stS 0 n sent at_ (A++addO s 0 0::B) a b,ss0,stS 0 n (max2 sent s) at_ (A++B) a' b))):=rfl
  have e5:L12_7 (at_+1) 0 [addO s 0 0] 1 0 (stS 0 n sent at_ (A++addO s 0 0::B) a b) ss0 (stS 0 n sent at_ (A++addO s 0 0::B) a b)=some (.inl (at_+1,0,stS 0 n sent at_ (A++addO s 0 0::B) a b,ss0,stS 0 n (max2 sent s) at_ (A++B) a' b)):=by
    unfold L12_7
    exact (iter_go e3).trans (iter_end e4)
  unfold delta
  rw [show (stS 0 n sent at_ (A++addO s 0 0::B) a b).at_=at_ from rfl,cnf rfl,cdf (by omega),e1,ob_some]
  refine (congrArg (fun z=>ob z _) e5).trans ?_
  rw [ob_some,two_inl]
  exact (congrArg (fun z=>ob z fun y=>some (y,(0:Int))) e2).trans rfl
/-- an operation of its own comes back: of collection 1 -/
theorem shed_red1 (n sent at_ i1:Int)(s:Nat)(P:List Op)(a b:Coll) :
    stp_L12_7 (i1,0,[addO s 1 0],1,0,stS 0 n sent at_ P a b,ss0,stS 0 n sent at_ P a b) =
      ob (apply_ b (addO s 1 0)) fun r7=>cond (r7.2 != 0) (ob (localOwn (stS 0 n sent at_ P a b)) fun y10=>some (.inr (.inr (i1,r7.2,stS 0 n sent at_ P a b,y10,stS 0 n sent at_ P a b,[],[],[],[],[],[],[]))))
        (ob (L27b_2 P 0 (P.length:Int) 0 (addO s 1 0)) fun y11=>two y11 (fun a12=>some (.inl (i1,0,[addO s 1 0],1,1,stS 0 n sent at_ P a b,ss0,stS 0 n sent at_ a12.2.2 a r7.1)))
          (fun b13=>cond (decide (b13.1≥0)) (cond (decide (0≤b13.1)) (cond (decide (b13.1≤w64 (b13.1+1))) (cond (decide (w64 (b13.1+1)≤(b13.2.2.length:Int))) (cond (fits b13.2.2.length)
            (some (.inl (i1,0,[addO s 1 0],1,1,stS 0 n sent at_ P a b,ss0,stS 0 n (max2 sent b13.2.1.dot.seq) at_ ((b13.2.2.take b13.1.toNat)++((b13.2.2.take b13.2.2.length).drop (w64 (b13.1+1)).toNat)) a r7.1))) none) none) none) none)
            (some (.inl (i1,0,[addO s 1 0],1,1,stS 0 n sent at_ P a b,ss0,stS 0 n sent at_ b13.2.2 a r7.1))))):=by kernel_rfl
theorem shed_step1 (n sent at_ i1:Int)(s:Nat)(A B:List Op)(a b a':Coll)(hl:A.length+B.length≤80)(hA:∀ x∈A,dEq x.dot (dt s)=false)
    (ha:apply_ b (addO s 1 0)=some (a',0)) :
    stp_L12_7 (i1,0,[addO s 1 0],1,0,stS 0 n sent at_ (A++addO s 1 0::B) a b,ss0,stS 0 n sent at_ (A++addO s 1 0::B) a b)=some (.inl (i1,0,[addO s 1 0],1,1,stS 0 n sent at_ (A++addO s 1 0::B) a b,ss0,stS 0 n (max2 sent s) at_ (A++B) a a')):=by
  have ho:dEq (addO s 1 0).dot (addO s 1 0).dot=true:=by rw [show (addO s 1 0).dot=dt s from rfl,dEq_dt];exact decide_eq_true rfl
  have e:=find_op A (addO s 1 0) B (by omega) (fun x hx=>hA x hx) ho
  have hl2:(A++addO s 1 0::B).length=A.length+(B.length+1):=by simp
  have hw:w64 ((A.length:Int)+1)=((A.length+1:Nat):Int):=w64_ok (by omega)
  have hcut:(A++addO s 1 0::B).take (A.length:Int).toNat++((A++addO s 1 0::B).take (A++addO s 1 0::B).length).drop (((A.length+1:Nat):Int)).toNat=A++B:=by rw [List.take_length];simp
  rw [shed_red1,ha,ob_some]
  simp only [bne_self_eq_false,cond_false]
  rw [e,ob_some,two_inr]
  simp only [hw]
  rw [cdt (by omega),cdt (by omega),cdt (by omega),cdt (by omega),fits_ok (by omega),cond_true,hcut]
  rfl
/-- Delta of one operation of its own, of collection 1 -/
theorem shed_delta1 (n sent at_:Int)(s:Nat)(A B:List Op)(a b a':Coll)(hl:A.length+B.length≤80)(hA:∀ x∈A,dEq x.dot (dt s)=false)(hd:∀ o∈A++B,o.dots.length≤1000)
    (ha:apply_ b (addO s 1 0)=some (a',0)) (h1:smallC a) (h2:smallC b) (h3:smallC a') :
    delta (stS 0 n sent at_ (A++addO s 1 0::B) a b) at_ (at_+1) [addO s 1 0]=some (stS 0 n (max2 sent s) (at_+1) (A++B) a a',0):=by
  have e1:=own_st 0 n sent at_ (A++addO s 1 0::B) a b (by simp;omega) (fun o ho=>by
    rcases List.mem_append.1 ho with h | h
    · exact hd o (by simp [h])
    · rcases List.mem_cons.1 h with rfl | h
      · simp [addO]
      · exact hd o (by simp [h])) h1 h2
  have e2:=own_st 0 n (max2 sent s) (at_+1) (A++B) a a' (by simp;omega) hd h1 h3
  have e3:=shed_step1 n sent at_ (at_+1) s A B a b a' hl hA ha
  have e4:stp_L12_7 (at_+1,0,[addO s 1 0],1,1,stS 0 n sent at_ (A++addO s 1 0::B) a b,ss0,stS 0 n (max2 sent s) at_ (A++B) a a')=some (.inr (.inl (at_+1,0,stS 0 n sent at_ (A++addO s 1 0::B) a b,ss0,stS 0 n (max2 sent s) at_ (A++B) a a'))):=rfl
  have e5:L12_7 (at_+1) 0 [addO s 1 0] 1 0 (stS 0 n sent at_ (A++addO s 1 0::B) a b) ss0 (stS 0 n sent at_ (A++addO s 1 0::B) a b)=some (.inl (at_+1,0,stS 0 n sent at_ (A++addO s 1 0::B) a b,ss0,stS 0 n (max2 sent s) at_ (A++B) a a')):=by
    unfold L12_7
    exact (iter_go e3).trans (iter_end e4)
  unfold delta
  rw [show (stS 0 n sent at_ (A++addO s 1 0::B) a b).at_=at_ from rfl,cnf rfl,cdf (by omega),e1,ob_some]
  refine (congrArg (fun z=>ob z _) e5).trans ?_
  rw [ob_some,two_inl]
  exact (congrArg (fun z=>ob z fun y=>some (y,(0:Int))) e2).trans rfl
/-- what is pending behind i of the operations that came back -/
def shQ (l:List Int)(n r i:Nat):List Op:=((shA l n).take i).filter (fun o=>keepO r o && (o.coll == 2))++((shA l n).drop i).filter (keepO r)
theorem shQ_0 (l:List Int)(n r:Nat):shQ l n r 0=(shA l n).filter (keepO r):=by simp [shQ]
theorem shQ_2 (l:List Int)(n r i:Nat)(hi:i < n)(h:(shO l i).coll=2):shQ l n r (i+1)=shQ l n r i:=by
  unfold shQ
  rw [shA_take l hi,shA_drop l hi,List.filter_append,List.filter_cons,List.filter_cons]
  have:((shO l i).coll == 2)=true:=by rw [h];rfl
  rw [this,Bool.and_true]
  cases keepO r (shO l i)<;>simp
theorem shQ_n (l:List Int)(n r i:Nat)(hi:i < n)(h:(shO l i).coll≠2) :
    shQ l n r i=((shA l n).take i).filter (fun o=>keepO r o && (o.coll == 2))++shO l i::((shA l n).drop (i+1)).filter (keepO r) ∧
    shQ l n r (i+1)=((shA l n).take i).filter (fun o=>keepO r o && (o.coll == 2))++((shA l n).drop (i+1)).filter (keepO r):=by
  have h2:((shO l i).coll == 2)=false:=beq_eq_false_iff_ne.2 h
  have hk:keepO r (shO l i)=true:=by unfold keepO;rw [h2,Bool.and_false];rfl
  unfold shQ
  constructor
  · rw [shA_drop l hi,List.filter_cons,hk];rfl
  · rw [shA_take l hi,List.filter_append,List.filter_cons,h2,Bool.and_false];simp
theorem shQ_mem {l:List Int}{n r i:Nat}{o:Op}(h:o∈shQ l n r i):o∈shA l n:=by
  rcases List.mem_append.1 h with h | h
  · exact List.mem_of_mem_take (List.mem_filter.1 h).1
  · exact List.mem_of_mem_drop (List.mem_filter.1 h).1
theorem shQ_len (l:List Int)(n r i:Nat):(shQ l n r i).length≤n:=by
  unfold shQ
  rw [List.length_append]
  have h1:=List.length_filter_le (fun o=>keepO r o && (o.coll == 2)) ((shA l n).take i)
  have h2:=List.length_filter_le (keepO r) ((shA l n).drop i)
  rw [List.length_take,shA_len] at h1
  rw [List.length_drop,shA_len] at h2
  omega
theorem take_dots (l:List Int)(n i:Nat)(p:Op→Bool):∀ x∈((shA l n).take i).filter p,dEq x.dot (dt (i+1))=false:=by
  intro x hx
  have hx:=(List.mem_filter.1 hx).1
  unfold shA at hx
  rw [← List.map_take,List.take_range,List.mem_map] at hx
  obtain ⟨k,hk,rfl⟩:=hx
  have:=List.mem_range.1 hk
  rw [shO_dot,dEq_dt]
  exact decide_eq_false (by omega)
/-- what the loop over what comes back keeps -/
structure ShInv (i:Nat) (at_:Int) (m:Nat) (L:List Nat) (m':Nat) (L':List Nat):Prop where
  at_:0≤at_∧at_≤(i:Int)
  m:m≤i
  most:∀ x∈L,x≤i
  size:L.length≤i
  m':m'≤i
  most':∀ x∈L',x≤i
  size':L'.length≤i
theorem shed_back (l:List Int)(b:Bool)(n r i:Nat)(hn:n≤12)(hi:i < n)(at_ sent:Int)(m:Nat)(L:List Nat)(m':Nat)(L':List Nat)(h:ShInv i at_ m L m' L') :
    ∃ at2 sent2 m2 L2 m2' L2',ShInv (i+1) at2 m2 L2 m2' L2' ∧
      stp_L8_26 ((r:Int),b,(n:Int),shA l n,at_,(i:Int),stS 0 n sent at_ (shQ l n r i) (cl m [] L) (cl m' [] L'))=some (.inl ((r:Int),b,(n:Int),shA l n,at2,((i+1:Nat):Int),stS 0 n sent2 at2 (shQ l n r (i+1)) (cl m2 [] L2) (cl m2' [] L2'))):=by
  have hx:(shA l n)[(i:Int).toNat]?=some (shO l i):=by rw [Int.toNat_natCast];exact shA_get l hi
  have hw:w64 ((i:Int)+1)=((i+1:Nat):Int):=w64_ok (by omega)
  have ha:=h.at_
  have hwa:w64 (at_+1)=at_+1:=w64_ok (by omega)
  have hc:=shO_coll l i
  have q0:(0:Int)≤(i:Int):=by omega
  have q1:(i:Int) < (n:Int):=by omega
  by_cases h2:(shO l i).coll=2
  · refine ⟨at_,sent,m,L,m',L',⟨by omega,by have:=h.m;omega,fun x hx=>by have:=h.most x hx;omega,by have:=h.size;omega,by have:=h.m';omega,fun x hx=>by have:=h.most' x hx;omega,by have:=h.size';omega⟩,?_⟩
    simp only [stp_L8_26,step_L8_26,cdt q0,cdt q1,hx,ob_some,hw]
    rw [cbt h2,shQ_2 l n r i hi h2]
  · obtain ⟨e1,e2⟩:=shQ_n l n r i hi h2
    generalize hA:((shA l n).take i).filter (fun o=>keepO r o && (o.coll == 2))=A at e1 e2
    generalize hB:((shA l n).drop (i+1)).filter (keepO r)=B at e1 e2
    have hd:∀ x∈A,dEq x.dot (dt (i+1))=false:=by rw [← hA];exact take_dots l n i _
    have hlen:=shQ_len l n r i
    rw [e1] at hlen
    simp only [List.length_append,List.length_cons] at hlen
    have hdd:∀ o∈A++B,o.dots.length≤1000:=by
      intro o ho
      rw [← e2] at ho
      exact shA_dots l n o (shQ_mem ho)
    have hsl:((shA l n).take (((i+1:Nat):Int)).toNat).drop (i:Int).toNat=[shO l i]:=by
      rw [Int.toNat_natCast,Int.toNat_natCast,shA_take l hi,List.drop_append]
      have:((shA l n).take i).length=i:=by rw [List.length_take,shA_len];omega
      rw [this,Nat.sub_self,List.drop_of_length_le (by omega)]
      rfl
    have hml:=h.m
    have hms:=h.size
    have hml':=h.m'
    have hms':=h.size'
    have hln:((shA l n).length:Int)=n:=by rw [shA_len]
    have hmx:max2 sent ((i+1:Nat):Int)≥sent:=by unfold max2;split<;>omega
    have hpl:∀ (z:List Op) (y a c d:_),(stS 0 (n:Int) y a z c d).pending=z:=fun _ _ _ _ _=>rfl
    have hst:∀ (z:List Op) (y a c d:_),(stS 0 (n:Int) y a z c d).sent=y:=fun _ _ _ _ _=>rfl
    have hll:((A++B).length:Int)=w64 (((A++shO l i::B).length:Int) - 1):=by
      rw [w64_ok (by simp;omega)]
      simp
      omega
    have hcc:(shO l i).coll=0∨(shO l i).coll=1:=by omega
    rcases hcc with h0 | h1
    · have ho:shO l i=addO (i+1) 0 0:=by
        have:(l[i]?.getD 0) % 3=0:=h0
        unfold shO
        rw [this]
      have eap:=apply_add (m:=m) (s:=i+1) (G:=[]) (L:=L) (c:=0) (now:=0) (by omega) (by omega) (by simp) (fun x hx=>by have:=h.most x hx;omega) (by simp) (by omega) (by omega) (by omega)
      have ed:=shed_delta0 n sent at_ (i+1) A B (cl m [] L) (cl m' [] L') (cl (i+1) [] (L++[i+1])) (by omega) hd hdd eap (small_cl (by simp) (by omega)) (small_cl (by simp) (by omega)) (small_cl (by simp) (by simp;omega))
      rw [← ho,← e1,← e2] at ed
      refine ⟨at_+1,max2 sent ((i+1:Nat):Int),i+1,L++[i+1],m',L',⟨by omega,by omega,fun x hx=>?_,by simp;omega,by omega,fun x hx=>by have:=h.most' x hx;omega,by omega⟩,?_⟩
      · rcases List.mem_append.1 hx with hx | hx
        · have:=h.most x hx;omega
        · rw [List.mem_singleton.1 hx];omega
      · simp only [stp_L8_26,step_L8_26,cdt q0,cdt q1,hx,ob_some,hw,hwa]
        rw [cbf h2,cdt (by omega),cdt (by omega),hsl,ed,ob_some]
        simp only [bne_self_eq_false,cond_false,hpl,hst]
        rw [e1,e2,cnf hll,cdf (by omega)]
    · have ho:shO l i=addO (i+1) 1 0:=by
        have:(l[i]?.getD 0) % 3=1:=h1
        unfold shO
        rw [this]
      have eap:=apply_add (m:=m') (s:=i+1) (G:=[]) (L:=L') (c:=1) (now:=0) (by omega) (by omega) (by simp) (fun x hx=>by have:=h.most' x hx;omega) (by simp) (by omega) (by omega) (by omega)
      have ed:=shed_delta1 n sent at_ (i+1) A B (cl m [] L) (cl m' [] L') (cl (i+1) [] (L'++[i+1])) (by omega) hd hdd eap (small_cl (by simp) (by omega)) (small_cl (by simp) (by omega)) (small_cl (by simp) (by simp;omega))
      rw [← ho,← e1,← e2] at ed
      refine ⟨at_+1,max2 sent ((i+1:Nat):Int),m,L,i+1,L'++[i+1],⟨by omega,by omega,fun x hx=>by have:=h.most x hx;omega,by omega,by omega,fun x hx=>?_,by simp;omega⟩,?_⟩
      · rcases List.mem_append.1 hx with hx | hx
        · have:=h.most' x hx;omega
        · rw [List.mem_singleton.1 hx];omega
      · simp only [stp_L8_26,step_L8_26,cdt q0,cdt q1,hx,ob_some,hw,hwa]
        rw [cbf h2,cdt (by omega),cdt (by omega),hsl,ed,ob_some]
        simp only [bne_self_eq_false,cond_false,hpl,hst]
        rw [e1,e2,cnf hll,cdf (by omega)]
theorem shed_backs (l:List Int)(n r:Nat)(hn:n≤12)(b:Bool) :
    ∃ y,L8_26 (r:Int) b (n:Int) (shA l n) 0 0 (stS 0 n r 0 ((shA l n).filter (keepO r)) c0 c0)=some y∧∃ s,y=.inl ((r:Int),b,s)∧s.pending=shQ l n r n:=by
  refine iter_inv (stp:=stp_L8_26) (Inv:=fun k x=>∃ (i:Nat) (at_ sent:Int) (m:Nat) (L:List Nat) (m':Nat) (L':List Nat),n=i+k∧ShInv i at_ m L m' L'∧x=((r:Int),b,(n:Int),shA l n,at_,(i:Int),stS 0 n sent at_ (shQ l n r i) (cl m [] L) (cl m' [] L'))) (Post:=fun y=>∃ s,y=.inl ((r:Int),b,s)∧s.pending=shQ l n r n) ?_ ?_ n (((n:Int) - 0).toNat+2) _ ⟨0,0,r,0,[],0,[],by omega,⟨by omega,by omega,by simp,by simp,by omega,by simp,by simp⟩,by rw [shQ_0];rfl⟩ (by omega)
  · rintro x ⟨i,at_,sent,m,L,m',L',hi,h,rfl⟩
    refine ⟨.inl ((r:Int),b,stS 0 n sent at_ (shQ l n r i) (cl m [] L) (cl m' [] L')),?_,_,rfl,by rw [show i=n by omega];rfl⟩
    simp only [stp_L8_26,step_L8_26]
    rw [cdf (by omega)]
  · rintro k x ⟨i,at_,sent,m,L,m',L',hi,h,rfl⟩
    obtain ⟨at2,sent2,m2,L2,m2',L2',h1,h2⟩:=shed_back l b n r i hn (by omega) at_ sent m L m' L' h
    exact ⟨_,h2,i+1,at2,sent2,m2,L2,m2',L2',by omega,h1,rfl⟩
theorem shed_end (r:Nat)(b:Bool)(s:State)(hl:s.pending.length≤100)(h:∀ o∈s.pending,o.coll=2∧¬ o.dot.seq≤(r:Int)):L8_34 (r:Int) b 0 s=some (.inl (b,s)):=by
  have key:∀ (m i fuel:Nat),i+m=s.pending.length→m < fuel→iterO stp_L8_34 fuel ((r:Int),b,(i:Int),s)=some (.inl (b,s)):=by
    intro m
    induction m with
    | zero =>
      intro i fuel hm hf
      obtain ⟨fuel,rfl⟩:∃ k,fuel=k+1:=⟨fuel - 1,by omega⟩
      refine iter_end ?_
      simp only [stp_L8_34,step_L8_34]
      rw [cdf (by omega)]
    | succ m ih =>
      intro i fuel hm hf
      obtain ⟨fuel,rfl⟩:∃ k,fuel=k+1:=⟨fuel - 1,by omega⟩
      have hi:i < s.pending.length:=by omega
      have he:s.pending[(i:Int).toNat]?=some s.pending[i]:=by rw [Int.toNat_natCast];exact List.getElem?_eq_getElem hi
      have hw:w64 ((i:Int)+1)=((i+1:Nat):Int):=w64_ok (by omega)
      have hh:=h s.pending[i] (List.getElem_mem hi)
      have q0:(0:Int)≤(i:Int):=by omega
      refine (iter_go ?_).trans (ih (i+1) fuel (by omega) (by omega))
      simp only [stp_L8_34,step_L8_34,cdt q0,he,ob_some,hw]
      rw [cdt (by omega),cnf hh.1,cdf hh.2]
  exact key s.pending.length 0 1099511627776 (by omega) (by omega)
theorem localShed_true (l:List Int)(i1:Int):localShed l i1=some true:=by
  generalize hn:min l.length 12=n
  have hn12:n≤12:=by omega
  have a1:=Int.emod_nonneg i1 (by omega:((n+1:Nat):Int)≠0)
  have a2:=Int.emod_lt_of_pos i1 (by omega:(0:Int) < ((n+1:Nat):Int))
  obtain ⟨r,hr⟩:∃ r:Nat,i1 % ((n+1:Nat):Int)=(r:Int):=⟨(i1 % ((n+1:Nat):Int)).toNat,by omega⟩
  have e1:=shed_do l i1
  rw [hn] at e1
  have e2:=shed_reply n r (shA l n) (by omega) (by rw [shA_len];omega) (fun o ho=>by
    simp only [shA,List.mem_map] at ho
    obtain ⟨k,_,rfl⟩:=ho
    exact shO_coll l k) (shA_dots l n)
  have e3:=fun b i3=>shed_left l n r hn12 (stS 0 n r 0 ((shA l n).filter (keepO r)) c0 c0) b i3
  obtain ⟨y,e4,s,rfl,hs⟩:=shed_backs l n r hn12 false
  have hw:w64 ((n:Int)+1)=((n+1:Nat):Int):=w64_ok (by omega)
  have e5:=shed_end r false s (by rw [hs];have:=shQ_len l n r n;omega) (fun o ho=>by
    rw [hs] at ho
    unfold shQ at ho
    rw [List.drop_of_length_le (by rw [shA_len];omega),List.filter_nil,List.append_nil] at ho
    have:=(List.mem_filter.1 ho).2
    unfold keepO at this
    simp only [Bool.and_eq_true,Bool.not_eq_true',beq_iff_eq] at this
    refine ⟨this.2,fun hle=>?_⟩
    have h1:=this.1
    rw [decide_eq_true hle,this.2] at h1
    cases h1)
  rw [localShed,known_true,ob_some,Bool.not_true,cond_false,ready_eq,ob_some,e1,ob_some,two_inl]
  simp only [hw,within_eq (a:=i1) (n:=((n+1:Nat):Int)) (by omega) (by omega),ob_some,hr,e2]
  rw [show (stS 0 (n:Int) 0 0 (shA l n) c0 c0).pending=shA l n from rfl,e3,ob_some]
  simp only [show (stS 0 (n:Int) r 0 ((shA l n).filter (keepO r)) c0 c0).sent=r from rfl,show (stS 0 (n:Int) r 0 ((shA l n).filter (keepO r)) c0 c0).pending=(shA l n).filter (keepO r) from rfl,bne_self_eq_false,cond_false]
  rw [e4,ob_some,two_inl]
  simp only
  rw [e5,ob_some,two_inl]
end Go.Proofs.YthhfjodcgibhfaaGreat
