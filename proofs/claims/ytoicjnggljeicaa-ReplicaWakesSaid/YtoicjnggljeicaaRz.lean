/- The document's replicas are Raft's nodes: what is added, heard; snapshots. -/
import Derived.Test.YtoicjnggljeicaaRy
namespace Go.Proofs.Ytoicjnggljeicaa
open Go Go.Ev
set_option maxRecDepth 100000
/-- entries that are laid -/
theorem rmerge_loop (n n2:Node)(m m2:Msg)(base idx:Nat)(hnb:n.base=(base:Int))(hm:m.index=(idx:Int))(es:Raft.Lg)(hme:m.entries=toL es)(hes:es.length≤100000) :
    ∀ (r done:Raft.Lg) (L:Raft.Lg) (fuel:Nat),done++r=es→base≤idx→idx+done.length≤L.length→L.length≤200000→idx≤100000→r.length < fuel →
      iterO stp_L55_14 fuel (toL (L.drop base),(done.length:Int),n,m,n2,m2)=some (toL ((Raft.merge L (idx+done.length) r).drop base),n,m,n2,m2):=by
  intro r
  induction r with
  | nil =>
    intro done L fuel hd _ _ _ _ hf
    obtain ⟨fuel,rfl⟩:∃ k,fuel=k+1:=⟨fuel - 1,by omega⟩
    rw [List.append_nil] at hd
    subst hd
    refine iter_end ?_
    simp only [stp_L55_14,step_L55_14,hme,toL_len]
    rw [cdf (by omega)]
    rfl
  | cons e r ih =>
    intro done L fuel hd hb hk hl hi hf
    obtain ⟨fuel,rfl⟩:∃ k,fuel=k+1:=⟨fuel - 1,by omega⟩
    simp only [List.length_cons] at hf
    have hel:es.length=done.length+(r.length+1):=by rw [← hd];simp
    have he:(toL es)[(done.length:Int).toNat]?=some (toE e):=by rw [Int.toNat_natCast,toL_get,← hd];simp
    have hd2:(done++[e])++r=es:=by rw [← hd];simp
    obtain ⟨j,hj⟩:∃ j,idx=base+j:=⟨idx - base,by omega⟩
    have hw2:w64 (w64 (m.index - n.base)+(done.length:Int))=((j+done.length:Nat):Int):=by rw [hm,hnb,w64_ok (n:=(idx:Int) - (base:Int)) (by omega),w64_ok (by omega)];omega
    have hw3:w64 ((done.length:Int)+1)=((done.length+1:Nat):Int):=w64_ok (by omega)
    have hll:((toL (L.drop base)).length:Int)=((L.length - base:Nat):Int):=by rw [toL_len,List.length_drop]
    have hcut:(toL (L.drop base)).take (j+done.length)++[toE e]=toL ((L.take (idx+done.length)++[e]).drop base):=by
      rw [List.drop_append_of_le_length (by rw [List.length_take];omega),List.drop_take,toL_take,show idx+done.length - base=j+done.length by omega]
      simp [toL]
    have hlen2:(L.take (idx+done.length)++[e]).length=idx+done.length+1:=by simp;omega
    have hrec:=ih (done++[e]) (L.take (idx+done.length)++[e]) fuel hd2 hb (by rw [hlen2,List.length_append,List.length_singleton];omega) (by rw [hlen2];omega) hi (by omega)
    simp only [List.length_append,List.length_singleton] at hrec
    have hfit:fits ((toL (L.drop base)).take (j+done.length)++[toE e]).length=true:=fits_ok (by rw [hcut,toL_len,List.length_drop,hlen2];omega)
    have htl:((toL (L.drop base)).take (j+done.length)).length=j+done.length:=by rw [List.length_take,toL_len,List.length_drop];omega
    by_cases hin:idx+done.length < L.length
    · obtain ⟨x,hx,hx2,_⟩:=log_get L base (j+done.length) (by omega)
      rw [show base+(j+done.length)=idx+done.length by omega] at hx2
      by_cases hte:x.1=e.1
      · have hrec2:=ih (done++[e]) L fuel hd2 hb (by simp;omega) hl hi (by omega)
        simp only [List.length_append,List.length_singleton] at hrec2
        have hkeep:Raft.merge L (idx+done.length) (e::r)=Raft.merge L (idx+(done.length+1)) r:=by
          rw [Raft.merge,hx2];simp only [hte,if_true];rfl
        rw [hkeep]
        refine (iter_go ?_).trans hrec2
        simp only [stp_L55_14,step_L55_14,hme,hw2,hw3,hll,toL_len es]
        rw [cdt (by omega),cdt (by omega),cdt (by omega),cdt (by omega),Int.toNat_natCast,hx,ob_some,cdt (by omega),he,ob_some,cnf (by simp only [toE];omega),cdf (by omega)]
      · have hmg:Raft.merge L (idx+done.length) (e::r)=Raft.merge (L.take (idx+done.length)++[e]) (idx+(done.length+1)) r:=by
          rw [Raft.merge,hx2];simp only [hte,if_false];rfl
        rw [hmg]
        refine (iter_go ?_).trans hrec
        simp only [stp_L55_14,step_L55_14,hme,hw2,hw3,hll,toL_len es]
        rw [cdt (by omega),cdt (by omega),cdt (by omega),cdt (by omega),Int.toNat_natCast,hx,ob_some,cdt (by omega),he,ob_some,cnt_ (by simp only [toE];omega),cdt (by omega),cdt (by omega),cdt (by rw [htl];omega),cdt (by omega),ob_some,hfit,cond_true,hcut]
    · have hmg:Raft.merge L (idx+done.length) (e::r)=Raft.merge (L.take (idx+done.length)++[e]) (idx+(done.length+1)) r:=by
        rw [Raft.merge,List.getElem?_eq_none (by omega)];rfl
      have hall:(toL (L.drop base)).take (j+done.length)=toL (L.drop base):=List.take_of_length_le (by rw [toL_len,List.length_drop];omega)
      rw [hall] at hfit hcut
      rw [hmg]
      refine (iter_go ?_).trans hrec
      simp only [stp_L55_14,step_L55_14,hme,hw2,hw3,hll,toL_len es]
      rw [cdt (by omega),cdf (by omega),cdt (by omega),cdt (by omega),he,ob_some,hfit,cond_true,hcut]
/-- what is laid on the log, and the answer -/
def raccK (n:Node)(s:Int)(m:Msg):Option (Node×List Msg) :=
  cond (fits n.log.length) (ob (L55_14 n.log 0 n m N0 (Msg.mk 4 n.id_ s n.term_ 0 0 0 false [] s_empty)) fun y =>
    some ({ y.2.1 with log:=y.1,commit:=max2 y.2.1.commit (min2 y.2.2.1.commit (w64 (y.2.2.1.index+(y.2.2.1.entries.length:Int)))) },
      [Msg.mk y.2.2.2.2.kind y.2.2.2.2.from_ y.2.2.2.2.to_ y.2.2.2.2.term_ (w64 (y.2.2.1.index+(y.2.2.1.entries.length:Int))) y.2.2.2.2.logTerm y.2.2.2.2.commit true y.2.2.2.2.entries y.2.2.2.2.snap])) none
def radd (n:Node)(s:Int)(yes:Bool)(i:Int):Option (Node×List Msg):=some (n,[Msg.mk 4 n.id_ s n.term_ i 0 0 yes [] s_empty])
theorem radd_red (a:Raft.AN)(s d t idx lt:Nat)(es:Raft.Lg)(c:Nat):ref15_add (toN a) (toM (.add s d t idx lt es c)) =
    cond (decide ((t:Int) < (a.term:Int))) (radd (toN a) (s:Int) false 0)
      (cond (decide ((idx:Int) < (a.base:Int))) (radd (toN (foll a)) (s:Int) true (a.base:Int))
        (ob (ref15Last (toN (foll a))) fun r =>
          cond (decide ((idx:Int) > r.1)) (radd (toN (foll a)) (s:Int) false (min2 r.1 (w64 ((idx:Int) - 1))))
            (ob (ref15TermAt (toN (foll a)) (idx:Int)) fun q =>
              cond (q != (lt:Int)) (radd (toN (foll a)) (s:Int) false (min2 r.1 (w64 ((idx:Int) - 1))))
                (raccK (toN (foll a)) (s:Int) (toM (.add s d t idx lt es c)))))):=by kernel_rfl
theorem racc_eq (a:Raft.AN)(h:Wf a)(s d t idx lt c:Nat)(es:Raft.Lg)(hes:es.length≤100000)(hidx:idx≤100000)(hb:a.base≤idx)(hi:idx≤a.log.length) :
    raccK (toN (foll a)) (s:Int) (toM (.add s d t idx lt es c))=some (toN { foll a with log:=Raft.merge a.log idx es,commit:=max a.commit (min c (idx+es.length)) },[toM (.added a.id s a.term true (idx+es.length))]):=by
  have hlen:=h.len
  have hlog:=h.log
  have hmg:=rmerge_loop (toN (foll a)) N0 (toM (.add s d t idx lt es c)) (Msg.mk 4 (a.id:Int) (s:Int) (a.term:Int) 0 0 0 false [] s_empty) a.base idx rfl rfl es rfl hes es [] a.log 1099511627776 rfl hb (by simpa using hi) (by omega) hidx (by omega)
  simp only [List.length_nil,Nat.add_zero] at hmg
  have hm:L55_14 (toN (foll a)).log 0 (toN (foll a)) (toM (.add s d t idx lt es c)) N0 (Msg.mk 4 (a.id:Int) (s:Int) (a.term:Int) 0 0 0 false [] s_empty)=some (toL ((Raft.merge a.log idx es).drop a.base),toN (foll a),toM (.add s d t idx lt es c),N0,Msg.mk 4 (a.id:Int) (s:Int) (a.term:Int) 0 0 0 false [] s_empty):=hmg
  have hsum:w64 ((idx:Int)+((toL es).length:Int))=((idx+es.length:Nat):Int):=by rw [toL_len,w64_ok (by omega)];omega
  have hcm:max2 (a.commit:Int) (min2 (c:Int) ((idx+es.length:Nat):Int))=((max a.commit (min c (idx+es.length)):Nat):Int):=by rw [min2_nat,max2_nat]
  have hbt:(Raft.tAt (Raft.merge a.log idx es) a.base:Int)=(Raft.tAt a.log a.base:Int):=by rw [merge_tAt es a.log idx a.base hb hi]
  unfold raccK
  rw [fits_ok (by show (toN a).log.length≤_;omega),cond_true,show (toN (foll a)).id_=(a.id:Int) from rfl,show (toN (foll a)).term_=(a.term:Int) from rfl,hm,ob_some]
  have e:toN { foll a with log:=Raft.merge a.log idx es,commit:=max a.commit (min c (idx+es.length)) }={ toN (foll a) with log:=toL ((Raft.merge a.log idx es).drop a.base),commit:=max2 (a.commit:Int) (min2 (c:Int) (w64 ((idx:Int)+((toL es).length:Int)))) }:=by
    rw [hsum,hcm]
    rw [show toN { foll a with log:=Raft.merge a.log idx es,commit:=max a.commit (min c (idx+es.length)) }={ toN (foll a) with log:=toL ((Raft.merge a.log idx es).drop a.base),commit:=((max a.commit (min c (idx+es.length)):Nat):Int),baseTerm:=(Raft.tAt (Raft.merge a.log idx es) a.base:Int) } from rfl,hbt]
    rfl
  have e2:toM (.added a.id s a.term true (idx+es.length))=Msg.mk 4 (a.id:Int) (s:Int) (a.term:Int) (w64 ((idx:Int)+((toL es).length:Int))) 0 0 true [] s_empty:=by rw [hsum];rfl
  rw [e,e2]
  rfl
theorem ref_add_eq (a:Raft.AN)(h:Wf a)(s d t idx lt:Nat)(es:Raft.Lg)(c:Nat)(hes:es.length≤100000)(hidx:idx≤100000)(hlt0:idx=0→lt=0) :
    ref15_add (toN a) (toM (.add s d t idx lt es c))=some (toN (Raft.takeAdd a s t idx lt es c).1,(Raft.takeAdd a s t idx lt es c).2.map toM):=by
  have hb:=base_le h
  have hlen:=h.len
  have hwr:Wf (foll a):=⟨h.id,h.bc,h.cl,h.len,h.term,by simp,by simp⟩
  have hlast:=rLast_eq hwr
  have hrej:1≤idx→radd (toN (foll a)) (s:Int) false (min2 (a.log.length:Int) (w64 ((idx:Int) - 1)))=some (toN (foll a),[toM (.added a.id s a.term false (min a.log.length (idx - 1)))]):=by
    intro h0
    unfold radd
    rw [w64_ok (by omega),show (idx:Int) - 1=((idx - 1:Nat):Int) by omega,min2_nat]
    rfl
  rw [radd_red]
  unfold Raft.takeAdd
  by_cases h1:t < a.term
  · rw [cdt (by omega),if_pos h1]
    rfl
  · rw [cdf (by omega),if_neg h1]
    by_cases h2:idx < a.base
    · rw [cdt (by omega),if_pos h2]
      rfl
    · rw [cdf (by omega),if_neg h2,hlast,ob_some]
      dsimp only
      by_cases h3:idx > a.log.length
      · rw [cdt (by omega),if_pos (.inl h3),hrej (by omega)]
        rfl
      · rw [cdf (by omega),rTermAt_eq hwr idx (by simp only;omega) (by simp only;omega),ob_some]
        by_cases he:Raft.tAt a.log idx=lt
        · rw [cnf (by simp only;omega),if_neg (by rintro (e | e);exact h3 e;exact e he),racc_eq a h s d t idx lt c es hes hidx (by omega) (by omega)]
          rfl
        · have h0:1≤idx:=by
            rcases Nat.eq_zero_or_pos idx with h0 | h0
            · exfalso;apply he;rw [hlt0 h0,h0];rfl
            · exact h0
          rw [cnt_ (by simp only;omega),if_pos (.inr he),hrej h0]
          rfl
end Go.Proofs.Ytoicjnggljeicaa
