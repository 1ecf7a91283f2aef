/- LocalOps on typed data. -/
import Derived.Test.YthhfjodcgibhfaaGreatLe
namespace Go.Proofs.YthhfjodcgibhfaaGreat
open Go Go.Ev
set_option maxRecDepth 100000
def c0:Coll:=Coll.mk [] [] [] [] [] []
/-- the device of these laws -/
def stS (now seq sent at_:Int)(P:List Op)(a b:Coll):State :=
  State.mk 1 1 (Lease.mk 1 1 99 (-1) [Slice.mk s_a 4 3 0 0] [Range.mk 0 5] []) 30 seq sent P (A3Coll.mk a b c0) at_ 3 [true,true,false] 2 0 (Cmd.mk 0 0 0 0 0 [] []) false now
theorem ready_eq:ready=some (stS 0 0 0 0 [] c0 c0):=by kernel_rfl
/-- a small collection -/
def smallC (c:Coll):Prop:=c.v.length≤1000∧c.regs.length≤1000∧c.elems.length≤1000∧c.gone.length≤1000∧c.sums.length≤1000∧c.binds.length≤1000
theorem small_collection {c:Coll}(h:smallC c):collection c=some c:=own_collection c h.1 h.2.1 h.2.2.1 h.2.2.2.1 h.2.2.2.2.1 h.2.2.2.2.2
theorem small_0:smallC c0:=by simp [smallC,c0]
theorem own_pending (s s2:State)(hp:s.pending.length≤1000)(hd:∀ o∈s.pending,o.dots.length≤1000):L24_4 (s.pending.length:Int) 0 s s2=some (s,s2):=by
  have key:∀ (m i fuel:Nat),i+m=s.pending.length→m < fuel→iterO stp_L24_4 fuel ((s.pending.length:Int),(i:Int),s,s2)=some (s,s2):=by
    intro m
    induction m with
    | zero =>
      intro i fuel hm hf
      obtain ⟨fuel,rfl⟩:∃ k,fuel=k+1:=⟨fuel - 1,by omega⟩
      refine iter_end ?_
      simp only [stp_L24_4,step_L24_4]
      rw [cdf (by omega)]
    | succ m ih =>
      intro i fuel hm hf
      obtain ⟨fuel,rfl⟩:∃ k,fuel=k+1:=⟨fuel - 1,by omega⟩
      have hi:i < s.pending.length:=by omega
      have he:s.pending[(i:Int).toNat]?=some s.pending[i]:=by rw [Int.toNat_natCast];exact List.getElem?_eq_getElem hi
      have hw:w64 ((i:Int)+1)=((i+1:Nat):Int):=w64_ok (by omega)
      have hdi:=hd s.pending[i] (List.getElem_mem hi)
      refine (iter_go ?_).trans (ih (i+1) fuel (by omega) (by omega))
      simp only [stp_L24_4,step_L24_4]
      rw [cdt (by omega),cdt (by omega),cdt (by omega),he,ob_some,fits_ok (by omega),cond_true,cdt (by omega),cdt (by omega),ob_some,Int.toNat_natCast,List.set_getElem_self,hw]
  exact key s.pending.length 0 _ (by omega) (by omega)
theorem own_st (now seq sent at_:Int)(P:List Op)(a b:Coll)(hp:P.length≤1000)(hd:∀ o∈P,o.dots.length≤1000)(ha:smallC a)(hb:smallC b):localOwn (stS now seq sent at_ P a b)=some (stS now seq sent at_ P a b):=by
  have e1:=own_pending (stS now seq sent at_ P a b) (State.mk 0 0 (Lease.mk 0 0 0 0 [] [] []) 0 0 0 [] (A3Coll.mk (Coll.mk [] [] [] [] [] []) (Coll.mk [] [] [] [] [] []) (Coll.mk [] [] [] [] [] [])) 0 0 [] 0 0 (Cmd.mk 0 0 0 0 0 [] []) false 0) hp hd
  have e2:leaseOwn (stS now seq sent at_ P a b).lease=some (stS now seq sent at_ P a b).lease:=by kernel_rfl
  have e3:fits (stS now seq sent at_ P a b).pending.length=true:=fits_ok (show P.length≤_ by omega)
  have e4:fits (stS now seq sent at_ P a b).subs.length=true:=by kernel_rfl
  unfold localOwn
  rw [e2,ob_some,e3,e4,cond_true,cond_true]
  refine (congrArg (fun z=>ob z _) e1).trans ?_
  rw [ob_some]
  simp only
  rw [show (stS now seq sent at_ P a b).colls=A3Coll.mk a b c0 from rfl]
  simp only [small_collection ha,small_collection hb,small_collection small_0,ob_some]
  rfl
theorem time_st (now seq sent at_ r:Int)(P:List Op)(a b:Coll)(hp:P.length≤1000)(hd:∀ o∈P,o.dots.length≤1000)(ha:smallC a)(hb:smallC b)(hr:0≤r∧r≤100)(hn:0≤now∧now≤10000) :
    time (stS now seq sent at_ P a b) r=some (stS (now+r) seq sent at_ P a b,0):=by
  have e:=own_st now seq sent at_ P a b hp hd ha hb
  unfold time
  rw [e,cdf (by omega),cdf (by omega),show (stS now seq sent at_ P a b).now=now from rfl,w64_ok (by omega),cdf (by omega),ob_some]
  rw [show (stS now seq sent at_ P a b).now=now from rfl,w64_ok (by omega)]
  rfl
/-- what Do does with an operation whose dots are known -/
theorem do_end (now sent at_:Int)(q:Nat)(P:List Op)(a b:Coll)(o:Op)(hp:P.length≤100)(hq:q≤900)(hd:∀ o∈P,o.dots.length≤1000)(hod:o.dots.length≤1000)(ha:smallC a)(hb:smallC b) :
    (ob (localOwn (stS now q sent at_ P a b)) fun y9 =>
      cond (fits ((y9.pending++[o]).length))
        (ob (localOwn (State.mk y9.device y9.epoch (stS now q sent at_ P a b).lease y9.ends (w64 (y9.seq+1)) y9.sent (y9.pending++[o]) y9.colls y9.at_ y9.ver y9.subs y9.req y9.asked y9.cmd y9.fenced y9.now)) fun y10=>some (y10,(0:Int))) none)=some (stS now ((q+1:Nat):Int) sent at_ (P++[o]) a b,0):=by
  have e1:=own_st now q sent at_ P a b (by omega) hd ha hb
  have e2:=own_st now ((q+1:Nat):Int) sent at_ (P++[o]) a b (by simp;omega) (fun x hx=>by
    rcases List.mem_append.1 hx with h | h
    · exact hd x h
    · rw [List.mem_singleton.1 h];exact hod) ha hb
  rw [e1,ob_some]
  rw [show (stS now (q:Int) sent at_ P a b).pending=P from rfl,fits_ok (by simp;omega),cond_true,show (stS now (q:Int) sent at_ P a b).seq=q from rfl,show w64 ((q:Int)+1)=((q+1:Nat):Int) from w64_ok (by omega)]
  exact (congrArg (fun z=>ob z fun y10=>some (y10,(0:Int))) e2).trans rfl
theorem do_add (now sent at_ c t:Int)(v:Int)(d:Dot)(q:Nat)(P:List Op)(a b:Coll)(hp:P.length≤100)(hq:q≤900)(hd:∀ o∈P,o.dots.length≤1000)(ha:smallC a)(hb:smallC b)(hc:0≤c∧c≤2)(hn:0≤now∧now≤10000) :
    do_ (stS now q sent at_ P a b) (Op.mk d c v 2 s_k s_t 0 t [])=some (stS now ((q+1:Nat):Int) sent at_ (P++[addO (q+1) c now]) a b,0):=by
  have e5:=check_add (s:=q+1) (c:=c) (now:=now) (by omega) hc (by omega)
  have e:=do_end now sent at_ q P a b (addO (q+1) c now) hp hq hd (by simp [addO]) ha hb
  have hw:w64 ((q:Int)+1)=((q+1:Nat):Int):=w64_ok (by omega)
  unfold do_
  rw [show (stS now (q:Int) sent at_ P a b).epoch=1 from rfl,show (stS now (q:Int) sent at_ P a b).fenced=false from rfl,show (stS now (q:Int) sent at_ P a b).pending=P from rfl,show (stS now (q:Int) sent at_ P a b).seq=q from rfl]
  rw [show ((1:Int) == 0)=false from rfl,cond_false,cond_false,cdf (by omega),cdf (by omega)]
  simp only [hw,show ((2:Int) == 3)=false from rfl,cond_false]
  rw [show Op.mk (Dot.mk (stS now (q:Int) sent at_ P a b).device 1 ((q+1:Nat):Int)) c (stS now (q:Int) sent at_ P a b).ver 2 s_k s_t 0 (stS now (q:Int) sent at_ P a b).now []=addO (q+1) c now from rfl,e5,ob_some]
  simp only [bne_self_eq_false,cond_false,show ((2:Int) != 4)=true from rfl,show ((2:Int) != 5)=true from rfl,cond_true]
  exact e
theorem min_8 (n:Nat):min2 (n:Int) 8=((min n 8:Nat):Int):=by
  unfold min2
  split<;>omega
theorem small_cl {m:Nat}{G L:List Nat}(hG:G.length≤100)(hL:L.length≤100):smallC (cl m G L):=by
  have:=vc_len m
  unfold smallC cl
  simp only [List.length_map,List.length_nil]
  omega
theorem view_st (now seq sent at_:Int)(P:List Op)(a b y:Coll)(hp:P.length≤1000)(h:foldV 0 P a=some y)(hy:smallC y):view (stS now seq sent at_ P a b) 0=some y:=by
  have e:=view_loop 0 P (Coll.mk [] [] [] [] [] []) a y h hp
  unfold view
  rw [show (cond (decide ((0:Int) < 0)) true (decide ((0:Int)≥3)))=false from rfl,cond_false,cdt (by omega)]
  rw [show (stS now seq sent at_ P a b).pending=P from rfl,show (stS now seq sent at_ P a b).colls.a0=a from rfl,e,ob_some]
  simp only [small_collection hy,ob_some]
theorem do_rem (now sent at_ t:Int)(v:Int)(d:Dot)(q m:Nat)(P:List Op)(a b:Coll)(G L:List Nat)(hp:P.length≤100)(hq:q≤900)(hd:∀ o∈P,o.dots.length≤1000)(ha:smallC a)(hb:smallC b)(hn:0≤now∧now≤10000)
    (hv:foldV 0 P a=some (cl m G L)) (hG:G.length≤100) (hL:L.length≤100) (hs:L.Pairwise (· < ·)) :
    do_ (stS now q sent at_ P a b) (Op.mk d 0 v 3 s_k s_t 0 t [])=some (stS now ((q+1:Nat):Int) sent at_ (P++[remO (q+1) 0 now (L.take (min L.length 8))]) a b,0):=by
  have e5:=check_rem (s:=q+1) (c:=0) (now:=now) (D:=L.take (min L.length 8)) (by omega) (by omega) (by omega) (hs.sublist (List.take_sublist _ _)) (by simp;omega)
  have e:=do_end now sent at_ q P a b (remO (q+1) 0 now (L.take (min L.length 8))) hp hq hd (by simp [remO];omega) ha hb
  have ev:=view_st now q sent at_ P a b (cl m G L) (by omega) hv (small_cl hG hL)
  have hw:w64 ((q:Int)+1)=((q+1:Nat):Int):=w64_ok (by omega)
  unfold do_
  rw [show (stS now (q:Int) sent at_ P a b).epoch=1 from rfl,show (stS now (q:Int) sent at_ P a b).fenced=false from rfl,show (stS now (q:Int) sent at_ P a b).pending=P from rfl,show (stS now (q:Int) sent at_ P a b).seq=q from rfl]
  rw [show ((1:Int) == 0)=false from rfl,cond_false,cond_false,cdf (by omega),cdf (by omega)]
  rw [show (cond ((3:Int) == 3) (cond (decide ((0:Int)≥0)) (decide ((0:Int) < 3)) false) false)=true from rfl,cond_true]
  simp only [hw,ev,ob_some,dots_all m G L hL]
  rw [List.length_map,min_8]
  rw [cdt (by omega),cdt trivial,cdt (by omega),Int.toNat_natCast,← List.map_take,fits_ok (by simp;omega),cond_true]
  rw [show Op.mk (Dot.mk (stS now (q:Int) sent at_ P a b).device 1 ((q+1:Nat):Int)) 0 (stS now (q:Int) sent at_ P a b).ver 3 s_k s_t 0 (stS now (q:Int) sent at_ P a b).now ((L.take (min L.length 8)).map dt)=remO (q+1) 0 now (L.take (min L.length 8)) from rfl,e5,ob_some]
  simp only [bne_self_eq_false,cond_false,show ((3:Int) != 4)=true from rfl,show ((3:Int) != 5)=true from rfl,cond_true]
  exact e
/-- what the law keeps: behind i operations -/
structure OpsInv (i:Nat) (now:Int) (seen:Int) (P:List Op) (G L:List Nat):Prop where
  len:P.length=i
  i20:i≤20
  dots:∀ o∈P,o.dots.length≤8
  time:0≤now∧now≤9 * (i:Int)
  fold:foldV 0 P c0=some (cl i G L)
  sort:(G++L).Pairwise (· < ·)
  most:∀ x∈G++L,x≤i
  size:G.length+L.length≤i
  seen_eq:seen=(L.length:Int)
theorem fold_one {c:Int}{o:Op}{x y:Coll}(ho:o.coll=c)(h:apply_ x o=some (y,0)):foldV c [o] x=some y:=by
  simp only [foldV,ho,bne_self_eq_false,cond_false,h,ob_some,beq_self_eq_true,cond_true]
theorem OpsInv.add {i:Nat}{now seen r:Int}{P:List Op}{G L:List Nat}(h:OpsInv i now seen P G L)(hi:i < 20)(hr:0≤r∧r < 9) :
    OpsInv (i+1) (now+r) (seen+1) (P++[addO (i+1) 0 (now+r)]) G (L++[i+1]):=by
  have ht:=h.time
  have hsz:=h.size
  have hm:=h.most
  refine ⟨by simp [h.len],by omega,?_,by omega,?_,?_,?_,by simp;omega,by simp [h.seen_eq]⟩
  · intro o ho
    rcases List.mem_append.1 ho with h' | h'
    · exact h.dots o h'
    · rw [List.mem_singleton.1 h'];simp [addO]
  · rw [foldV_snoc,h.fold,ob_some]
    exact fold_one rfl (apply_add (by omega) (by omega) (fun x hx=>by have:=hm x (by simp [hx]);omega) (fun x hx=>by have:=hm x (by simp [hx]);omega) (by omega) (by omega) (by omega) (by omega))
  · rw [← List.append_assoc]
    refine List.pairwise_append.2 ⟨h.sort,by simp,fun x hx y hy=>?_⟩
    have:=hm x hx
    rw [List.mem_singleton.1 hy]
    omega
  · intro x hx
    rw [← List.append_assoc] at hx
    rcases List.mem_append.1 hx with h' | h'
    · have:=hm x h';omega
    · rw [List.mem_singleton.1 h'];omega
theorem OpsInv.rem {i:Nat}{now seen r:Int}{P:List Op}{G L:List Nat}(h:OpsInv i now seen P G L)(hi:i < 20)(hr:0≤r∧r < 9) :
    OpsInv (i+1) (now+r) (seen - ((L.take (min L.length 8)).length:Int)) (P++[remO (i+1) 0 (now+r) (L.take (min L.length 8))]) (G++L.take (min L.length 8)) (L.drop (min L.length 8)):=by
  have ht:=h.time
  have hsz:=h.size
  have hm:=h.most
  have hl:(L.take (min L.length 8)).length=min L.length 8:=by simp
  have hl2:(L.drop (min L.length 8)).length=L.length - min L.length 8:=by simp
  have hL:L.take (min L.length 8)++L.drop (min L.length 8)=L:=List.take_append_drop _ _
  refine ⟨by simp [h.len],by omega,?_,by omega,?_,?_,?_,by rw [List.length_append,hl,hl2];omega,by rw [h.seen_eq,hl,hl2];omega⟩
  · intro o ho
    rcases List.mem_append.1 ho with h' | h'
    · exact h.dots o h'
    · rw [List.mem_singleton.1 h'];simp [remO];omega
  · rw [foldV_snoc,h.fold,ob_some]
    refine fold_one rfl ?_
    have:=apply_rem (m:=i) (s:=i+1) (D:=L.take (min L.length 8)) (G:=G) (L:=L.drop (min L.length 8)) (c:=0) (now:=now+r) (by omega) (by omega) (by rw [hL];exact h.sort) (by rw [hl];omega) (by rw [hl,hl2];omega) (by rw [hl];omega) (by omega) (by omega)
    rw [hL] at this
    exact this
  · rw [List.append_assoc,hL];exact h.sort
  · intro x hx
    rw [List.append_assoc,hL] at hx
    have:=hm x hx
    omega
end Go.Proofs.YthhfjodcgibhfaaGreat
