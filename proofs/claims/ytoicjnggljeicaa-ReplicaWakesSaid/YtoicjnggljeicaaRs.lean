/- The program's replicas are Raft's nodes: what is added, what is heard. -/
import Derived.Test.YtoicjnggljeicaaRr
namespace Go.Proofs.Ytoicjnggljeicaa
open Go Go.Ev
set_option maxRecDepth 100000
theorem added_eq (a:Raft.AN)(s k:Nat)(b:Bool)(i:Int)(hi:i=(k:Int)):added (s:Int) b i (Worker.mk (toN a) [])=some (Worker.mk (toN a) [toM (.added a.id s a.term b k)]):=by
  unfold added
  rw [send_eq _ _ _ _ (by simp),ob_some,hi]
  rfl
/-- entries that are laid -/
theorem merge_loop (m:Msg)(idx:Nat)(hm:m.index=(idx:Int))(es:Raft.Lg)(hes:es.length≤100000) :
    ∀ (r done:Raft.Lg) (b:Raft.AN) (fuel:Nat),done++r=es→b.base≤idx→idx+done.length≤b.log.length→b.log.length≤200000→idx≤100000→r.length < fuel →
      iterO stp_L28_10 fuel (toL es,(es.length:Int),(done.length:Int),Worker.mk (toN b) [],m)=some (Worker.mk (toN { b with log:=Raft.merge b.log (idx+done.length) r }) [],m):=by
  intro r
  induction r with
  | nil =>
    intro done b fuel hd _ _ _ _ hf
    obtain ⟨fuel,rfl⟩:∃ k,fuel=k+1:=⟨fuel - 1,by omega⟩
    rw [List.append_nil] at hd
    subst hd
    refine iter_end ?_
    simp only [stp_L28_10,step_L28_10]
    rw [cdf (by omega)]
    rfl
  | cons e r ih =>
    intro done b fuel hd hb hk hl hi hf
    obtain ⟨fuel,rfl⟩:∃ k,fuel=k+1:=⟨fuel - 1,by omega⟩
    simp only [List.length_cons] at hf
    have hel:es.length=done.length+(r.length+1):=by rw [← hd];simp
    have he:(toL es)[(done.length:Int).toNat]?=some (toE e):=by rw [Int.toNat_natCast,toL_get,← hd];simp
    have hd2:(done++[e])++r=es:=by rw [← hd];simp
    obtain ⟨j,hj⟩:∃ j,idx=b.base+j:=⟨idx - b.base,by omega⟩
    have hw1:w64 (m.index - (b.base:Int))=(j:Int):=by rw [hm,w64_ok (by omega)];omega
    have hw2:w64 ((j:Int)+(done.length:Int))=((j+done.length:Nat):Int):=by rw [w64_ok (by omega)];omega
    have hw3:w64 ((done.length:Int)+1)=((done.length+1:Nat):Int):=w64_ok (by omega)
    have hll:((toL (b.log.drop b.base)).length:Int)=((b.log.length - b.base:Nat):Int):=by rw [toL_len,List.length_drop]
    have hmn:min2 ((j+done.length:Nat):Int) ((b.log.length - b.base:Nat):Int)=((j+done.length:Nat):Int):=min2_eq (by omega)
    have hcut:(toL (b.log.drop b.base)).take (j+done.length)++[toE e]=toL ((b.log.take (idx+done.length)++[e]).drop b.base):=by
      rw [List.drop_append_of_le_length (by rw [List.length_take];omega),List.drop_take,toL_take,show idx+done.length - b.base=j+done.length by omega]
      simp [toL]
    have hbt:Raft.tAt (b.log.take (idx+done.length)++[e]) b.base=Raft.tAt b.log b.base:=by
      rw [Raft.tAt_append (by rw [List.length_take];omega),Raft.tAt_take (by omega)]
    have hlay:Node.mk (toN b).id_ (toN b).term_ (toN b).vote (toN b).base (toN b).baseTerm (toN b).snap ((toL (b.log.drop b.base)).take (j+done.length)++[toE e]) (toN b).role (toN b).commit (toN b).wait (toN b).votes (toN b).next (toN b).match_=toN { b with log:=b.log.take (idx+done.length)++[e] }:=by
      rw [hcut,n_bt,← hbt];rfl
    have hlen2:(b.log.take (idx+done.length)++[e]).length=idx+done.length+1:=by simp;omega
    have hrec:=ih (done++[e]) { b with log:=b.log.take (idx+done.length)++[e] } fuel hd2 hb (by simp only [hlen2,List.length_append,List.length_singleton];omega) (by simp only [hlen2];omega) hi (by omega)
    simp only [List.length_append,List.length_singleton] at hrec
    have hfit:fits ((toL (b.log.drop b.base)).take (j+done.length)++[toE e]).length=true:=fits_ok (by rw [hcut,toL_len,List.length_drop,hlen2];omega)
    have hlaid:stp_L28_10 (toL es,(es.length:Int),(done.length:Int),Worker.mk (toN b) [],m)=some (.inl (toL es,(es.length:Int),((done.length+1:Nat):Int),Worker.mk (toN { b with log:=b.log.take (idx+done.length)++[e] }) [],m))→Raft.merge b.log (idx+done.length) (e::r)=Raft.merge (b.log.take (idx+done.length)++[e]) (idx+done.length+1) r→iterO stp_L28_10 (fuel+1) (toL es,(es.length:Int),(done.length:Int),Worker.mk (toN b) [],m)=some (Worker.mk (toN { b with log:=Raft.merge b.log (idx+done.length) (e::r) }) [],m):=by
      intro h1 h2
      rw [iter_go h1,hrec,h2]
      rfl
    by_cases hin:idx+done.length < b.log.length
    · obtain ⟨x,hx,hx2,_⟩:=log_get b.log b.base (j+done.length) (by omega)
      rw [show b.base+(j+done.length)=idx+done.length by omega] at hx2
      by_cases hte:x.1=e.1
      · have hkeep:Raft.merge b.log (idx+done.length) (e::r)=Raft.merge b.log (idx+(done.length+1)) r:=by
          rw [Raft.merge,hx2];simp only [hte,if_true];rfl
        have hrec2:=ih (done++[e]) b fuel hd2 hb (by simp;omega) hl hi (by omega)
        simp only [List.length_append,List.length_singleton] at hrec2
        rw [hkeep]
        refine (iter_go ?_).trans hrec2
        simp only [stp_L28_10,step_L28_10,n_base,n_log,hw1,hw2,hw3,hll]
        rw [cdt (by omega),cdt (by omega),he,ob_some,cdt (by omega),cdt (by omega),cdt (by omega),Int.toNat_natCast,hx,ob_some,cbt (by simp only [toE];omega)]
      · refine hlaid ?_ (by rw [Raft.merge,hx2];simp only [hte,if_false])
        simp only [stp_L28_10,step_L28_10,n_base,n_log,hw1,hw2,hw3,hll,hmn]
        rw [cdt (by omega),cdt (by omega),he,ob_some,cdt (by omega),cdt (by omega),cdt (by omega),Int.toNat_natCast,hx,ob_some,cbf (by simp only [toE];omega),cdt (by omega),cdt (by omega),hfit,cond_true]
        rw [← hlay]
        rfl
    · refine hlaid ?_ (by rw [Raft.merge,List.getElem?_eq_none (by omega)])
      simp only [stp_L28_10,step_L28_10,n_base,n_log,hw1,hw2,hw3,hll,hmn]
      rw [cdt (by omega),cdt (by omega),he,ob_some,cdf (by omega),cdt (by omega),cdt (by omega),Int.toNat_natCast,hfit,cond_true]
      rw [← hlay]
      rfl
theorem max2_nat (x y:Nat):max2 (x:Int) (y:Int)=((max x y:Nat):Int):=by unfold max2;split<;>omega
theorem min2_nat (x y:Nat):min2 (x:Int) (y:Int)=((min x y:Nat):Int):=by unfold min2;split<;>omega
theorem merge_len:∀ (es L:Raft.Lg) (k:Nat),k≤L.length→k+es.length≤(Raft.merge L k es).length
  | [],L,k,h=>by simpa [Raft.merge] using h
  | e::r,L,k,h=>by
    have h1:k+1≤(L.take k++[e]).length:=by simp;omega
    have h2:=merge_len r (L.take k++[e]) (k+1) h1
    unfold Raft.merge
    simp only [List.length_cons]
    cases hx:L[k]? with
    | none=>simp only;omega
    | some x =>
      simp only
      split
      · have:k < L.length:=by
          rcases Nat.lt_or_ge k L.length with h | h
          · exact h
          · rw [List.getElem?_eq_none h] at hx;cases hx
        have:=merge_len r L (k+1) (by omega)
        omega
      · omega
theorem merge_tAt:∀ (es L:Raft.Lg) (k b:Nat),b≤k→k≤L.length→Raft.tAt (Raft.merge L k es) b=Raft.tAt L b
  | [],_,_,_,_,_=>rfl
  | e::r,L,k,b,hb,hk=>by
    have h1:k+1≤(L.take k++[e]).length:=by simp;omega
    have h2:=merge_tAt r (L.take k++[e]) (k+1) b (by omega) h1
    have h3:Raft.tAt (L.take k++[e]) b=Raft.tAt L b:=by rw [Raft.tAt_append (by rw [List.length_take];omega),Raft.tAt_take hb]
    unfold Raft.merge
    cases hx:L[k]? with
    | none=>exact h2.trans h3
    | some x =>
      simp only
      split
      · have:k < L.length:=by
          rcases Nat.lt_or_ge k L.length with h | h
          · exact h
          · rw [List.getElem?_eq_none h] at hx;cases hx
        exact merge_tAt r L (k+1) b (by omega) (by omega)
      · exact h2.trans h3
/-- what is laid on the log, and the answer -/
def accK (m:Msg)(w:Worker):Option Worker :=
  ob (L28_10 m.entries (m.entries.length:Int) 0 w m) fun y7 =>
    cond ((decide (y7.2.commit > y7.1.node.commit)))
      (ob (added y7.2.from_ true (w64 (y7.2.index+(y7.2.entries.length:Int))) (Worker.mk (Node.mk y7.1.node.id_ y7.1.node.term_ y7.1.node.vote y7.1.node.base y7.1.node.baseTerm y7.1.node.snap y7.1.node.log y7.1.node.role (max2 (min2 y7.2.commit (w64 (y7.2.index+(y7.2.entries.length:Int)))) y7.1.node.commit) y7.1.node.wait y7.1.node.votes y7.1.node.next y7.1.node.match_) y7.1.out)) fun y8=>some y8)
      (ob (added y7.2.from_ true (w64 (y7.2.index+(y7.2.entries.length:Int))) y7.1) fun y9=>some y9)
def rejK (s i l:Int)(w:Worker):Option Worker:=ob (added s false (min2 l (w64 (i - 1))) w) fun y=>some y
/-- the entry before those that come -/
def befK (s d t idx lt c l k:Int)(es lg:List Entry)(bt:Int)(w:Worker):Option Worker :=
  cond (cond (decide (k≥0)) (decide (k < (lg.length:Int))) false)
    (cond (decide (0≤k)) (cond (decide (k < (lg.length:Int))) (ob (lg[k.toNat]?) fun e=>cond (e.term_ != lt) (rejK s idx l w) (accK (Msg.mk 3 s d t idx lt c false es s_empty) w)) none) none)
    (cond (bt != lt) (rejK s idx l w) (accK (Msg.mk 3 s d t idx lt c false es s_empty) w))
abbrev foll (a:Raft.AN):Raft.AN:={ a with role:=0,wait:=0 }
theorem add_red (a:Raft.AN)(s d t idx lt:Nat)(es:Raft.Lg)(c:Nat):add (toM (.add s d t idx lt es c)) (Worker.mk (toN a) []) =
    cond (decide ((t:Int) < (a.term:Int))) (ob (added (s:Int) false 0 (Worker.mk (toN a) [])) fun y=>some y)
      (ob (last_ (toN (foll a))) fun r =>
        cond (decide ((idx:Int) < (a.base:Int))) (ob (added (s:Int) true (a.base:Int) (Worker.mk (toN (foll a)) [])) fun y=>some y)
          (cond (decide ((idx:Int) > r.1)) (rejK (s:Int) (idx:Int) r.1 (Worker.mk (toN (foll a)) []))
            (befK (s:Int) (d:Int) (t:Int) (idx:Int) (lt:Int) (c:Int) r.1 (w64 (w64 ((idx:Int) - (a.base:Int)) - 1)) (toL es) (toL (a.log.drop a.base)) (Raft.tAt a.log a.base:Int) (Worker.mk (toN (foll a)) [])))):=by kernel_rfl
theorem rej_eq (a:Raft.AN)(s idx:Nat)(hlen:a.log.length≤100000)(h0:1≤idx)(hidx:idx≤200000):rejK (s:Int) (idx:Int) (a.log.length:Int) (Worker.mk (toN (foll a)) [])=some (Worker.mk (toN (foll a)) [toM (.added a.id s a.term false (min a.log.length (idx - 1)))]):=by
  unfold rejK
  rw [added_eq (foll a) s (min a.log.length (idx - 1)) false _ (by
    rw [w64_ok (by omega),show (idx:Int) - 1=((idx - 1:Nat):Int) by omega,min2_nat]),ob_some]
theorem acc_red (a:Raft.AN)(s d t idx lt c:Nat)(es:Raft.Lg)(b:Raft.AN)
    (hm:L28_10 (toL es) ((toL es).length:Int) 0 (Worker.mk (toN a) []) (Msg.mk 3 (s:Int) (d:Int) (t:Int) (idx:Int) (lt:Int) (c:Int) false (toL es) s_empty)=some (Worker.mk (toN b) [],Msg.mk 3 (s:Int) (d:Int) (t:Int) (idx:Int) (lt:Int) (c:Int) false (toL es) s_empty)) :
    accK (Msg.mk 3 (s:Int) (d:Int) (t:Int) (idx:Int) (lt:Int) (c:Int) false (toL es) s_empty) (Worker.mk (toN a) []) =
      cond (decide ((c:Int) > (b.commit:Int)))
        (ob (added (s:Int) true (w64 ((idx:Int)+((toL es).length:Int))) (Worker.mk { toN b with commit:=max2 (min2 (c:Int) (w64 ((idx:Int)+((toL es).length:Int)))) (b.commit:Int) } [])) fun y=>some y)
        (ob (added (s:Int) true (w64 ((idx:Int)+((toL es).length:Int))) (Worker.mk (toN b) [])) fun y=>some y):=by
  unfold accK
  dsimp only
  rw [hm]
  kernel_rfl
theorem acc_eq (a:Raft.AN)(s d t idx lt c:Nat)(es:Raft.Lg)(hes:es.length≤100000)(hidx:idx≤100000)(hb:a.base≤idx)(hi:idx≤a.log.length)(hlen:a.log.length≤100000) :
    accK (Msg.mk 3 (s:Int) (d:Int) (t:Int) (idx:Int) (lt:Int) (c:Int) false (toL es) s_empty) (Worker.mk (toN (foll a)) []) =
      some (Worker.mk (toN { foll a with log:=Raft.merge a.log idx es,commit:=max a.commit (min c (idx+es.length)) }) [toM (.added a.id s a.term true (idx+es.length))]):=by
  have hmg:=merge_loop (Msg.mk 3 (s:Int) (d:Int) (t:Int) (idx:Int) (lt:Int) (c:Int) false (toL es) s_empty) idx rfl es hes es [] (foll a) (((es.length:Int) - 0).toNat+2) rfl hb (by simpa using hi) (by simp only;omega) hidx (by omega)
  simp only [List.length_nil,Nat.add_zero] at hmg
  have hm:L28_10 (toL es) ((toL es).length:Int) 0 (Worker.mk (toN (foll a)) []) (Msg.mk 3 (s:Int) (d:Int) (t:Int) (idx:Int) (lt:Int) (c:Int) false (toL es) s_empty)=some (Worker.mk (toN { foll a with log:=Raft.merge a.log idx es }) [],Msg.mk 3 (s:Int) (d:Int) (t:Int) (idx:Int) (lt:Int) (c:Int) false (toL es) s_empty):=by
    unfold L28_10
    rw [toL_len]
    exact hmg
  rw [acc_red (foll a) s d t idx lt c es _ hm]
  have hsum:w64 ((idx:Int)+((toL es).length:Int))=((idx+es.length:Nat):Int):=by rw [toL_len,w64_ok (by omega)];omega
  rw [hsum]
  by_cases hc:c > a.commit
  · rw [cdt (by simp only;omega)]
    have hcm:max2 (min2 (c:Int) ((idx+es.length:Nat):Int)) (a.commit:Int)=((max a.commit (min c (idx+es.length)):Nat):Int):=by
      rw [min2_nat,max2_nat,Nat.max_comm]
    have e:({ toN { foll a with log:=Raft.merge a.log idx es } with commit:=max2 (min2 (c:Int) ((idx+es.length:Nat):Int)) (a.commit:Int) }:Node)=toN { foll a with log:=Raft.merge a.log idx es,commit:=max a.commit (min c (idx+es.length)) }:=by
      rw [hcm];rfl
    have:=added_eq { foll a with log:=Raft.merge a.log idx es,commit:=max a.commit (min c (idx+es.length)) } s (idx+es.length) true _ rfl
    rw [← e] at this
    refine (congrArg (fun z=>ob z fun y=>some y) this).trans ?_
    rw [e];rfl
  · rw [cdf (by simp only;omega)]
    have hcm:max a.commit (min c (idx+es.length))=a.commit:=by omega
    rw [hcm]
    have:=added_eq { foll a with log:=Raft.merge a.log idx es } s (idx+es.length) true _ rfl
    exact (congrArg (fun z=>ob z fun y=>some y) this).trans rfl
theorem add_eq (a:Raft.AN)(h:Wf a)(s d t idx lt:Nat)(es:Raft.Lg)(c:Nat)(hes:es.length≤100000)(hidx:idx≤100000)(hlt0:idx=0→lt=0) :
    add (toM (.add s d t idx lt es c)) (Worker.mk (toN a) [])=some (Worker.mk (toN (Raft.takeAdd a s t idx lt es c).1) ((Raft.takeAdd a s t idx lt es c).2.map toM)):=by
  have hb:=base_le h
  have hlen:=h.len
  have hwr:Wf (foll a):=⟨h.id,h.bc,h.cl,h.len,h.term,by simp,by simp⟩
  have hlast:=last_eq hwr
  rw [add_red]
  unfold Raft.takeAdd
  by_cases h1:t < a.term
  · rw [cdt (by omega),if_pos h1,added_eq a s 0 false 0 rfl,ob_some]
    rfl
  · rw [cdf (by omega),if_neg h1,hlast,ob_some]
    dsimp only
    by_cases h2:idx < a.base
    · rw [cdt (by omega),if_pos h2,added_eq (foll a) s a.base true _ rfl,ob_some]
      rfl
    · rw [cdf (by omega),if_neg h2]
      by_cases h3:idx > a.log.length
      · rw [cdt (by omega),if_pos (.inl h3),rej_eq a s idx h.len (by omega) (by omega)]
        rfl
      · rw [cdf (by omega)]
        obtain ⟨j,hj⟩:∃ j,idx=a.base+j:=⟨idx - a.base,by omega⟩
        have hw1:w64 (w64 ((idx:Int) - (a.base:Int)) - 1)=(j:Int) - 1:=by rw [w64_ok (n:=(idx:Int) - (a.base:Int)) (by omega),w64_ok (by omega)];omega
        have hll:((toL (a.log.drop a.base)).length:Int)=((a.log.length - a.base:Nat):Int):=by rw [toL_len,List.length_drop]
        rw [hw1]
        unfold befK
        rw [hll]
        by_cases hj0:j=0
        · subst hj0
          rw [cdf (by omega),cond_false]
          have hbi:idx=a.base:=by omega
          by_cases he:Raft.tAt a.log idx=lt
          · rw [cnf (by rw [← hbi];omega),if_neg (by rintro (e | e);exact h3 e;exact e he),acc_eq a s d t idx lt c es hes hidx (by omega) (by omega) h.len]
            rfl
          · have h0:1≤idx:=by
              rcases Nat.eq_zero_or_pos idx with h0 | h0
              · exfalso;apply he;rw [hlt0 h0,h0];rfl
              · exact h0
            rw [cnt_ (by rw [← hbi];omega),if_pos (.inr he),rej_eq a s idx h.len h0 (by omega)]
            rfl
        · rw [cdt (by omega),decide_eq_true (by omega),cond_true,cdt (by omega),cond_true]
          obtain ⟨x,hx,_,hxt⟩:=log_get a.log a.base (j - 1) (by omega)
          rw [show a.base+(j - 1)+1=idx by omega] at hxt
          rw [show ((j:Int) - 1).toNat=j - 1 by omega,hx,ob_some]
          by_cases he:Raft.tAt a.log idx=lt
          · rw [cnf (by simp only [toE];omega),if_neg (by rintro (e | e);exact h3 e;exact e he),acc_eq a s d t idx lt c es hes hidx (by omega) (by omega) h.len]
            rfl
          · rw [cnt_ (by simp only [toE];omega),if_pos (.inr he),rej_eq a s idx h.len (by omega) (by omega)]
            rfl
end Go.Proofs.Ytoicjnggljeicaa
