/- Raft by itself: messages are taken, and what always holds is kept. -/
import Derived.Test.YtoicjnggljeicaaRn
namespace Go.Raft
theorem cnt_two {f:Nat→Bool}(h:¬ cnt f < 2):∃ i j,i < 3∧j < 3∧i≠j∧f i=true∧f j=true:=by
  unfold cnt at h
  cases h0:f 0<;>cases h1:f 1<;>cases h2:f 2<;>simp [h0,h1,h2] at h
  · exact ⟨1,2,by omega,by omega,by omega,h1,h2⟩
  · exact ⟨0,2,by omega,by omega,by omega,h0,h2⟩
  · exact ⟨0,1,by omega,by omega,by omega,h0,h1⟩
  · exact ⟨0,1,by omega,by omega,by omega,h0,h1⟩
theorem takeVoted_ok {g:Gh}{B i s t:Nat}{y:Bool}{a:AN}(h:GI g B)(hn:NI g i a)(hm:MI g B (.voted s i t y)):Good g B i (takeVoted a s t y):=by
  have hsv:=hm.says
  have hs3:s < 3:=hm.src
  unfold takeVoted
  split
  · rename_i hy
    obtain ⟨ht,hr,hy⟩:=hy
    subst ht
    obtain ⟨x1,x2,x3,x4,x5⟩:=hn.cand hr
    have hsv:g.voted s a.term=some i:=hsv hy
    have hvotes:∀ j,j < 3→up a.votes s true j=true→g.voted j a.term=some i:=by
      intro j hj hv
      by_cases he:j=s
      · subst he;exact hsv
      · rw [up_ne _ _ he] at hv;exact x5 j hj hv
    split
    · refine .same h ?_ (by simp)
      exact { hn with ldr:=hn.ldr,cand:=fun _=>⟨x1,x2,x3,x4,hvotes⟩ }
    · rename_i hc
      obtain ⟨p,q,hp,hq,hpq,hp1,hq1⟩:=cnt_two hc
      have htm:=hn.tm
      have hvp:=hvotes p hp hp1
      have hvq:=hvotes q hq hq1
      have hnl:g.leader (g.tm i)=none:=by
        cases hl:g.leader (g.tm i) with
        | none=>rfl
        | some c =>
          obtain ⟨u,v,hu,hv,huv,h1,_,h2,_⟩:=h.quor _ c hl
          rw [← htm] at h1 h2 hl
          have:c=i:=by
            rcases pigeon hp hq hpq hu hv huv with e | e | e | e
            · subst e;rw [h1] at hvp;exact Option.some.inj hvp
            · subst e;rw [h1] at hvq;exact Option.some.inj hvq
            · subst e;rw [h2] at hvp;exact Option.some.inj hvp
            · subst e;rw [h2] at hvq;exact Option.some.inj hvq
          subst this
          exact absurd hl x3
      have hlen:=lg_len (j:=i) h
      have hst:=elect_step (i:=i) (e:=(a.term,ByteArray.empty)) h hnl
      have hg:=elect_ok (e:=(a.term,ByteArray.empty)) (h.more (Nat.le_succ B)) hn.i3 hnl htm (by rw [← htm];exact x4) hp hq hpq (by rw [← htm];exact hvp) (by rw [← htm];exact hvq) (by rw [← htm,x1,hn.lg]) (by omega)
      have hll:(elect g i (a.term,ByteArray.empty)).leader a.term=some i:=by simp [elect,htm]
      have hlg:(elect g i (a.term,ByteArray.empty)).lg i=a.log++[(a.term,ByteArray.empty)]:=by simp [elect,hn.lg]
      have hak:(elect g i (a.term,ByteArray.empty)).ack i a.term=a.log.length+1:=by simp [elect,htm,hn.lg]
      have hcom:COK (elect g i (a.term,ByteArray.empty)) (a.log++[(a.term,ByteArray.empty)]) a.commit a.term:=(hn.com.mono hst.le (Nat.le_refl _)).of_take (List.take_append_of_le_length hn.cl)
      have hni:NI (elect g i (a.term,ByteArray.empty)) i { a with votes:=up a.votes s true,role:=2,log:=a.log++[(a.term,ByteArray.empty)],next:=fun _=>a.log.length+1,mat:=up (fun _=>0) a.id (a.log.length+1) }:=by
        refine ⟨hn.id,hn.i3,htm,hlg.symm,hn.t30,hn.vote,hn.bc,?_,hcom,Nat.le_refl _,by simp,?_⟩
        · have:=hn.cl;simp;omega
        · intro _
          refine ⟨hll,fun j hj=>⟨?_,by simp,by simp⟩⟩
          by_cases he:j=i
          · subst he;simp only [hn.id,up_same];rw [hak];exact Nat.le_refl _
          · simp only [hn.id,up_ne _ _ he];exact Nat.zero_le _
      refine ⟨_,hg,hst,hni,?_⟩
      intro m hm'
      obtain ⟨to,hto,rfl⟩:=List.mem_map.1 hm'
      rw [hn.id] at hto
      have:=others_mem hn.i3 hto
      exact owe_ok hg hni rfl this.1 this.2
  · exact .same h hn (by simp)
/-- what is laid is as the leader has it; what agreed with it before, agrees still -/
theorem merge_ok {M:Lg}:∀ (es:Lg) (L:Lg) (k:Nat),k+es.length≤M.length→L.take k=M.take k→k≤L.length→es=(M.drop k).take es.length →
    (∀ q,q < L.length→q < M.length→tAt L (q+1)=tAt M (q+1)→L.take (q+1)=M.take (q+1)) →
    (merge L k es=L∧L.take (k+es.length)=M.take (k+es.length)∧k+es.length≤L.length) ∨
    (merge L k es=M.take (k+es.length)∧∃ q,k≤q∧q < k+es.length∧(L.length≤q∨tAt L (q+1)≠tAt M (q+1)))
  | [],L,k,_,h2,h3,_,_=>.inl ⟨rfl,h2,h3⟩
  | e::r,L,k,h1,h2,h3,h4,h5=>by
    simp only [List.length_cons] at h1 h4 ⊢
    have hkM:k < M.length:=by omega
    rw [List.drop_eq_getElem_cons hkM,List.take_succ_cons] at h4
    have he:M[k]=e:=(List.cons.inj h4).1.symm
    have hr:r=(M.drop (k+1)).take r.length:=(List.cons.inj h4).2
    have htM:tAt M (k+1)=e.1:=by simp only [tAt];rw [List.getElem?_eq_getElem hkM,he]
    have hL1:L.take k++[e]=M.take (k+1):=by rw [h2,List.take_succ_eq_append_getElem hkM,he]
    have hlen1:(M.take (k+1)).length=k+1:=by rw [List.length_take];omega
    have hcut:merge (L.take k++[e]) (k+1) r=M.take (k+(r.length+1)):=by
      rw [hL1]
      have:=merge_ok r (M.take (k+1)) (k+1) (by omega) (by rw [List.take_take];simp) (by omega) hr (fun q hq _ _=>by rw [List.take_take,Nat.min_eq_left (by omega)])
      rcases this with ⟨h6,_,h7⟩ | ⟨h6,_⟩
      · rw [h6,show k+(r.length+1)=k+1 by omega]
      · rw [h6,show k+1+r.length=k+(r.length+1) by omega]
    unfold merge
    cases hx:L[k]? with
    | none =>
      have:L.length≤k:=by rw [List.getElem?_eq_none_iff] at hx;exact hx
      exact .inr ⟨hcut,k,Nat.le_refl _,by omega,.inl this⟩
    | some x =>
      have hkL:k < L.length:=by
        rcases Nat.lt_or_ge k L.length with h | h
        · exact h
        · rw [List.getElem?_eq_none h] at hx;cases hx
      have htL:tAt L (k+1)=x.1:=by simp only [tAt];rw [hx]
      simp only
      split
      · rename_i hxe
        have h6:=h5 k hkL hkM (by rw [htL,htM,hxe])
        have:=merge_ok r L (k+1) (by omega) h6 (by omega) hr h5
        rw [show k+1+r.length=k+(r.length+1) by omega] at this
        rcases this with h7 | ⟨h7,q,h8,h9,h10⟩
        · exact .inl h7
        · exact .inr ⟨h7,q,by omega,h9,h10⟩
      · rename_i hxe
        exact .inr ⟨hcut,k,Nat.le_refl _,by omega,.inr (by rw [htL,htM];exact hxe)⟩
/-- logs that agree in a term, agree up to there -/
theorem match_logs {g:Gh}{L M:Lg}(hL:Canon g L)(hM:Canon g M):∀ q,q < L.length→q < M.length→tAt L (q+1)=tAt M (q+1)→L.take (q+1)=M.take (q+1):=by
  intro q h1 h2 h3
  have a:=(hL (q+1) (by omega) (by omega)).2.2.1
  have b:=(hM (q+1) (by omega) (by omega)).2.2.1
  rw [a,b,h3]
theorem Canon.take {g:Gh}{L:Lg}(h:Canon g L)(n:Nat):Canon g (L.take n):=by
  intro k h1 h2
  rw [List.length_take] at h2
  rw [tAt_take (by omega),List.take_take,Nat.min_eq_left (by omega)]
  exact h k h1 (by omega)
/-- a log that agrees with the leader's at an index, agrees up to it -/
theorem agree {g:Gh}{L M:Lg}(hL:Canon g L)(hM:Canon g M){k:Nat}(h1:k≤L.length)(h2:k≤M.length)(h3:tAt L k=tAt M k):L.take k=M.take k:=by
  cases k with
  | zero=>simp
  | succ k=>exact match_logs hL hM k (by omega) (by omega) h3
theorem leader_ne {g:Gh}{B i s t idx lt c:Nat}{es:Lg}(hm:MI g B (.add s i t idx lt es c)):g.leader t=some s∧s≠i:=⟨hm.says.1,hm.ne⟩
theorem added_ok {g:Gh}{B i s k:Nat}{a:AN}(hn:NI g i a)(hs:s < 3)(hne:s≠i)(y:Bool)(h:y=true→k≤g.ack i a.term)(hB:k≤B):MI g B (.added a.id s a.term y k) :=
  ⟨by rw [AM.src,hn.id];exact hn.i3,hs,by rw [AM.src,AM.dst,hn.id];exact fun e=>hne e.symm,hn.t30,fun e=>by rw [hn.id];exact h e,hB⟩
theorem rest_ok {g:Gh}{i:Nat}{a:AN}(hn:NI g i a):NI g i { a with role:=0,wait:=0 } :=
  { hn with r2:=Nat.zero_le _,cand:=fun h=>(by cases h),ldr:=fun h=>(by cases h) }
theorem takeAdd_ok {g:Gh}{B i s t idx lt c:Nat}{es:Lg}{a:AN}(h:GI g B)(hn:NI g i a)(ht:t≤a.term)(hm:MI g B (.add s i t idx lt es c)):Good g B i (takeAdd a s t idx lt es c):=by
  obtain ⟨hl,hle,hlt,hes,hcl,hcok⟩:=hm.says
  have hs3:s < 3:=hm.src
  have hne:s≠i:=hm.ne
  unfold takeAdd
  split
  · refine .same h hn fun m hm'=>?_
    rw [List.mem_singleton.1 hm']
    exact added_ok hn hs3 hne false (fun e=>by cases e) (Nat.zero_le _)
  · rename_i htt
    have htt:t=a.term:=by omega
    subst htt
    have hl':g.leader (g.tm i)=some s:=by rw [← hn.tm];exact hl
    have hls:(g.leader a.term).isSome:=by rw [hl];rfl
    have htm:=hn.tm
    have hcanM:=h.canonT _ s hl
    have hcanL:Canon g a.log:=by rw [hn.lg];exact h.canonL i
    have htL:∀ k,k≤a.log.length→tAt a.log k≤g.tm i:=by rw [hn.lg];exact h.termL i
    have hcom:=cok_tl h hn.com hls
    split
    · -- it has a snapshot beyond
      rename_i hb
      have hbl:a.base≤(g.tl a.term).length:=Nat.le_trans hn.bc hcom.2
      have hst:=accept_step g i a.log a.base
      have hg:=accept_ok (i:=i) (L:=a.log) (n:=a.base) h hl' hne (by rw [← htm];exact hbl) (by rw [← htm];exact take_le hcom.1 hn.bc) hcanL htL (fun k hk he=>by rw [hn.lg];exact he)
      have hni:NI (accept g i a.log a.base) i a:=by
        refine ⟨hn.id,hn.i3,htm,by simp [accept],hn.t30,hn.vote,hn.bc,hn.cl,hn.com.mono hst.le (Nat.le_refl _),hn.r2,hn.cand,fun hr=>?_⟩
        have:=(hn.ldr hr).1
        rw [this] at hl;exact absurd (Option.some.inj hl).symm hne
      have hak:a.base≤(accept g i a.log a.base).ack i a.term:=by simp only [accept,htm,up2_same];omega
      refine ⟨_,hg.more (Nat.le_succ B),hst,rest_ok hni,fun m hm'=>?_⟩
      rw [List.mem_singleton.1 hm']
      have hB:=h.size _ s hl
      exact added_ok hni hs3 hne true (fun _=>hak) (by omega)
    · split
      · refine .same h (rest_ok hn) fun m hm'=>?_
        rw [List.mem_singleton.1 hm']
        have:=lg_len (j:=i) h
        rw [← hn.lg] at this
        exact added_ok hn hs3 hne false (fun e=>by cases e) (by omega)
      · rename_i hb hc
        have hil:idx≤a.log.length:=by omega
        have hit:tAt a.log idx=tAt (g.tl a.term) idx:=by
          rw [← hlt]
          exact Classical.byContradiction fun e=>hc (.inr e)
        have hpre:=agree hcanL hcanM hil (by omega) hit
        have hmg:=merge_ok es a.log idx hle hpre hil hes (match_logs hcanL hcanM)
        generalize hn':idx+es.length=n at hmg hle ⊢
        generalize hR:merge a.log idx es=R at hmg ⊢
        have hRn:R.take n=(g.tl a.term).take n:=by
          rcases hmg with ⟨h1,h2,_⟩ | ⟨h1,_⟩
          · rw [h1];exact h2
          · rw [h1,List.take_take,Nat.min_self]
        have hRl:n≤R.length:=len_of_take hRn hle
        have hRc:Canon g R:=by
          rcases hmg with ⟨h1,_,_⟩ | ⟨h1,_⟩
          · rw [h1];exact hcanL
          · rw [h1];exact hcanM.take n
        have hRt:∀ k,k≤R.length→tAt R k≤g.tm i:=by
          rcases hmg with ⟨h1,_,_⟩ | ⟨h1,_⟩
          · rw [h1];exact htL
          · rw [h1];intro k hk
            rw [List.length_take] at hk
            rw [tAt_take (by omega),← htm]
            exact h.termT _ s hl k (by omega)
        have hRk:∀ k,k≤a.log.length→a.log.take k=(g.tl a.term).take k→R.take k=(g.tl a.term).take k:=by
          intro k hk he
          rcases hmg with ⟨h1,_,_⟩ | ⟨h1,q,h2,h3,h4⟩
          · rw [h1];exact he
          · have hkq:k≤q:=by
              rcases Nat.lt_or_ge q k with hq | hq
              · exfalso
                rcases h4 with h4 | h4
                · omega
                · exact h4 (tAt_eq he (by omega))
              · exact hq
            rw [h1,List.take_take,Nat.min_eq_left (by omega)]
        have hst:=accept_step g i R n
        have hg:=accept_ok (i:=i) (L:=R) (n:=n) h hl' hne (by rw [← htm];exact hle) (by rw [← htm];exact hRn) hRc hRt (fun k hk he=>by rw [← htm] at he ⊢;rw [← hn.lg] at hk he;exact hRk k hk he)
        have hak:n≤(accept g i R n).ack i a.term:=by simp only [accept,htm,up2_same];omega
        have hRcom:R.take a.commit=(g.tl a.term).take a.commit:=hRk _ hn.cl hcom.1
        have hRcl:a.commit≤R.length:=len_of_take hRcom hcom.2
        have hcokR:COK g R (max a.commit (min c n)) a.term:=by
          rcases Nat.le_total a.commit (min c n) with hh | hh
          · rw [Nat.max_eq_right hh]
            exact (hcok.less (Nat.min_le_left c n)).of_take (take_le hRn (Nat.min_le_right c n))
          · rw [Nat.max_eq_left hh]
            exact hn.com.of_take (hRcom.trans hcom.1.symm)
        have hni:NI (accept g i R n) i { a with role:=0,wait:=0,log:=R,commit:=max a.commit (min c n) }:=by
          refine ⟨hn.id,hn.i3,htm,by simp [accept],hn.t30,hn.vote,?_,?_,hcokR.mono hst.le (Nat.le_refl _),Nat.zero_le _,by simp,by simp⟩
          · have:=hn.bc;simp only;omega
          · simp only;omega
        refine ⟨_,hg.more (Nat.le_succ B),hst,hni,fun m hm'=>?_⟩
        rw [List.mem_singleton.1 hm']
        have hB:=h.size _ s hl
        exact added_ok hni hs3 hne true (fun _=>hak) (by omega)
theorem two_ack {m:Nat→Nat}{k:Nat}(h:two m k=true):∃ i j,i < 3∧j < 3∧i≠j∧k≤m i∧k≤m j:=by
  simp only [two,Bool.or_eq_true,Bool.and_eq_true,decide_eq_true_eq] at h
  rcases h with (h | h) | h
  · exact ⟨0,1,by omega,by omega,by omega,h.1,h.2⟩
  · exact ⟨0,2,by omega,by omega,by omega,h.1,h.2⟩
  · exact ⟨1,2,by omega,by omega,by omega,h.1,h.2⟩
theorem reach_ok {g:Gh}{T b c:Nat}{L:Lg}{m:Nat→Nat}(hl:(g.leader T).isSome)(hL:L=g.tl T)(hm:∀ j,j < 3→m j≤g.ack j T)(hc:COK g L c T)(hcl:c≤L.length) :
    ∀ n,b+n≤L.length→COK g L (reach m T L b n c) T∧c≤reach m T L b n c∧reach m T L b n c≤L.length
  | 0,_=>⟨hc,Nat.le_refl _,hcl⟩
  | n+1,hn=>by
    obtain ⟨h1,h2,h3⟩:=reach_ok (b:=b) hl hL hm hc hcl n (by omega)
    unfold reach
    simp only
    split
    · rename_i h4
      obtain ⟨i,j,hi,hj,hij,hki,hkj⟩:=two_ack h4.1
      rcases Nat.le_total (reach m T L b n c) (b+n+1) with hh | hh
      · rw [Nat.max_eq_right hh]
        refine ⟨.inr ⟨T,b+n+1,Nat.le_refl _,Nat.le_refl _,⟨hl,by omega,by rw [← hL];omega,by rw [← hL];exact h4.2,i,j,hi,hj,hij,Nat.le_trans hki (hm i hi),Nat.le_trans hkj (hm j hj)⟩,by rw [hL]⟩,by omega,by omega⟩
      · rw [Nat.max_eq_left hh]
        exact ⟨h1,h2,h3⟩
    · exact ⟨h1,h2,h3⟩
theorem takeHeard_ok {g:Gh}{B i s t idx:Nat}{y:Bool}{a:AN}(h:GI g B)(hn:NI g i a)(hm:MI g B (.added s i t y idx)):Good g B i (takeHeard a s t y idx):=by
  have hsay:=hm.says.1
  have hs3:s < 3:=hm.src
  have hne:s≠i:=hm.ne
  unfold takeHeard
  split
  · rename_i hr
    obtain ⟨ht,hr⟩:=hr
    subst ht
    obtain ⟨hl,hj⟩:=hn.ldr hr
    have hlg:a.log=g.tl a.term:=by rw [hn.lg,hn.tm];exact h.ownL _ i (by rw [← hn.tm];exact hl) rfl
    have hls:(g.leader a.term).isSome:=by rw [hl];rfl
    have hackl:∀ j,g.ack j a.term≤a.log.length:=fun j=>by
      rcases Nat.eq_zero_or_pos (g.ack j a.term) with h0 | h0
      · omega
      · rw [hlg];exact (h.ak j _ h0).2.1
    split
    · rename_i hy
      have hi:idx≤g.ack s a.term:=hsay hy
      have hmat:∀ j,j < 3→up a.mat s (max (a.mat s) idx) j≤g.ack j a.term:=by
        intro j hj3
        by_cases he:j=s
        · subst he;rw [up_same];have:=(hj j hj3).1;omega
        · rw [up_ne _ _ he];exact (hj j hj3).1
      have hcl:=hn.cl
      have hbc:=hn.bc
      obtain ⟨r1,r2,r3⟩:=reach_ok (b:=a.base) hls hlg hmat hn.com hcl (a.log.length - a.base) (by omega)
      refine .same h ?_ (by simp)
      refine ⟨hn.id,hn.i3,hn.tm,hn.lg,hn.t30,hn.vote,by simp only;omega,r3,r1,hn.r2,fun e=>by simp only at e;omega,fun _=>⟨hl,fun j hj3=>⟨hmat j hj3,?_⟩⟩⟩
      by_cases he:j=s
      · subst he;simp only [up_same];have h1:=(hj j hj3).1;have h2:=hackl j;omega
      · simp only [up_ne _ _ he];exact (hj j hj3).2
    · have hni:NI g i { a with next:=up a.next s (max (max (min (a.next s - 1) (idx+1)) 1) (a.mat s+1)) }:=by
        refine { hn with cand:=fun e=>by simp only at e;omega,ldr:=fun _=>⟨hl,fun j hj3=>⟨(hj j hj3).1,?_⟩⟩ }
        by_cases he:j=s
        · subst he
          simp only [up_same]
          have h1:=hj j hj3
          have h2:=hackl j
          omega
        · simp only [up_ne _ _ he];exact (hj j hj3).2
      simp only
      split
      · refine .same h hni fun m hm'=>?_
        rw [List.mem_singleton.1 hm']
        exact (owe_ok h hni hr hs3 (fun e=>hne e.symm)).mono (.refl g) (Nat.le_succ B)
      · exact .same h hni (by simp)
  · exact .same h hn (by simp)
theorem takeSnap_ok {g:Gh}{B i s t idx lt:Nat}{pre:Lg}{b:ByteArray}{a:AN}(h:GI g B)(hn:NI g i a)(ht:t≤a.term)(hm:MI g B (.snap s i t idx lt pre b)):Good g B i (takeSnap a s t idx lt pre b):=by
  obtain ⟨hl,hil,hlt,hpre,hcok⟩:=hm.says
  have hs3:s < 3:=hm.src
  have hne:s≠i:=hm.ne
  unfold takeSnap
  split
  · refine .same h hn fun m hm'=>?_
    rw [List.mem_singleton.1 hm']
    exact added_ok hn hs3 hne false (fun e=>by cases e) (Nat.zero_le _)
  · rename_i htt
    have htt:t=a.term:=by omega
    subst htt
    have hl':g.leader (g.tm i)=some s:=by rw [← hn.tm];exact hl
    have hls:(g.leader a.term).isSome:=by rw [hl];rfl
    have htm:=hn.tm
    have hcanM:=h.canonT _ s hl
    have hcanL:Canon g a.log:=by rw [hn.lg];exact h.canonL i
    have htL:∀ k,k≤a.log.length→tAt a.log k≤g.tm i:=by rw [hn.lg];exact h.termL i
    have hcom:=cok_tl h hn.com hls
    have hB:=h.size _ s hl
    split
    · rename_i hic
      generalize hR:(if idx≤a.log.length∧idx > a.base∧tAt a.log idx=lt then a.log else pre)=R
      have hR2:(R=a.log∧a.log.take idx=(g.tl a.term).take idx∧idx≤a.log.length)∨(R=(g.tl a.term).take idx∧¬ (idx≤a.log.length∧tAt a.log idx=tAt (g.tl a.term) idx)):=by
        rw [← hR]
        split
        · rename_i hh
          exact .inl ⟨rfl,agree hcanL hcanM hh.1 hil (by rw [← hlt];exact hh.2.2),hh.1⟩
        · rename_i hh
          refine .inr ⟨hpre,fun e=>hh ⟨e.1,?_,by rw [hlt];exact e.2⟩⟩
          have:=hn.bc;omega
      have hRn:R.take idx=(g.tl a.term).take idx:=by
        rcases hR2 with ⟨h1,h2,_⟩ | ⟨h1,_⟩
        · rw [h1];exact h2
        · rw [h1,List.take_take,Nat.min_self]
      have hRl:idx≤R.length:=len_of_take hRn hil
      have hRc:Canon g R:=by
        rcases hR2 with ⟨h1,_⟩ | ⟨h1,_⟩
        · rw [h1];exact hcanL
        · rw [h1];exact hcanM.take idx
      have hRt:∀ k,k≤R.length→tAt R k≤g.tm i:=by
        rcases hR2 with ⟨h1,_⟩ | ⟨h1,_⟩
        · rw [h1];exact htL
        · rw [h1];intro k hk
          rw [List.length_take] at hk
          rw [tAt_take (by omega),← htm]
          exact h.termT _ s hl k (by omega)
      have hRk:∀ k,k≤a.log.length→a.log.take k=(g.tl a.term).take k→R.take k=(g.tl a.term).take k:=by
        intro k hk he
        rcases hR2 with ⟨h1,_⟩ | ⟨h1,h2⟩
        · rw [h1];exact he
        · have:k≤idx:=by
            rcases Nat.lt_or_ge idx k with hq | hq
            · exact absurd ⟨by omega,tAt_eq he (by omega)⟩ h2
            · exact hq
          rw [h1,List.take_take,Nat.min_eq_left this]
      have hst:=accept_step g i R idx
      have hg:=accept_ok (i:=i) (L:=R) (n:=idx) h hl' hne (by rw [← htm];exact hil) (by rw [← htm];exact hRn) hRc hRt (fun k hk he=>by rw [← htm] at he ⊢;rw [← hn.lg] at hk he;exact hRk k hk he)
      have hak:idx≤(accept g i R idx).ack i a.term:=by simp only [accept,htm,up2_same];omega
      have hni:NI (accept g i R idx) i { a with role:=0,wait:=0,log:=R,base:=idx,snap:=b,commit:=idx } :=
        ⟨hn.id,hn.i3,htm,by simp [accept],hn.t30,hn.vote,Nat.le_refl _,hRl,(hcok.of_take hRn).mono hst.le (Nat.le_refl _),Nat.zero_le _,by simp,by simp⟩
      refine ⟨_,hg.more (Nat.le_succ B),hst,hni,fun m hm'=>?_⟩
      rw [List.mem_singleton.1 hm']
      rw [Nat.max_eq_left (by omega)]
      exact added_ok hni hs3 hne true (fun _=>hak) (by omega)
    · rename_i hic
      have hst:=accept_step g i a.log a.commit
      have hg:=accept_ok (i:=i) (L:=a.log) (n:=a.commit) h hl' hne (by rw [← htm];exact hcom.2) (by rw [← htm];exact hcom.1) hcanL htL (fun k hk he=>by rw [hn.lg];exact he)
      have hni:NI (accept g i a.log a.commit) i a:=by
        refine ⟨hn.id,hn.i3,htm,by simp [accept],hn.t30,hn.vote,hn.bc,hn.cl,hn.com.mono hst.le (Nat.le_refl _),hn.r2,hn.cand,fun hr=>?_⟩
        have:=(hn.ldr hr).1
        rw [this] at hl;exact absurd (Option.some.inj hl).symm hne
      have hak:a.commit≤(accept g i a.log a.commit).ack i a.term:=by simp only [accept,htm,up2_same];omega
      refine ⟨_,hg.more (Nat.le_succ B),hst,rest_ok hni,fun m hm'=>?_⟩
      rw [List.mem_singleton.1 hm']
      rw [Nat.max_eq_right (by omega)]
      have:=hcom.2
      exact added_ok hni hs3 hne true (fun _=>hak) (by omega)
/-- whatever message comes to a node, all is kept -/
theorem take_ok {g:Gh}{B i:Nat}{a:AN}{m:AM}(h:GI g B)(hn:NI g i a)(hm:MI g B m)(hd:m.dst=i):Good g B i (take a m):=by
  subst hd
  obtain ⟨g',h1,h2,h3,h4⟩:=bumpA_ok h hn hm.t30
  have hm':=hm.mono h2.le (Nat.le_refl B)
  refine Good.after h2 ?_
  cases m with
  | vote s d t idx lt=>exact takeVote_ok h1 h3 hm'
  | voted s d t y=>exact takeVoted_ok h1 h3 hm'
  | add s d t idx lt es c=>exact takeAdd_ok h1 h3 h4 hm'
  | added s d t y idx=>exact takeHeard_ok h1 h3 hm'
  | snap s d t idx lt pre b=>exact takeSnap_ok h1 h3 h4 hm'
theorem propose_ok {g:Gh}{B i:Nat}{a:AN}(h:GI g B)(hn:NI g i a)(hr:a.role=2)(cmd:ByteArray):Good g B i (propose a cmd,[]):=by
  obtain ⟨hl,hj⟩:=hn.ldr hr
  have htm:=hn.tm
  have hl':g.leader (g.tm i)=some i:=by rw [← htm];exact hl
  have hlen:=lg_len (j:=i) h
  have hst:=append_step (e:=(a.term,cmd)) h hl'
  have hg:=append_ok (e:=(a.term,cmd)) (h.more (Nat.le_succ B)) hl' htm (by omega)
  refine ⟨_,hg,hst,?_,by simp⟩
  refine ⟨hn.id,hn.i3,htm,by simp [append,propose,hn.lg],hn.t30,hn.vote,hn.bc,?_,?_,hn.r2,fun e=>by simp only [propose] at e;omega,fun _=>⟨hl,fun j hj3=>?_⟩⟩
  · have:=hn.cl;simp [propose];omega
  · exact (hn.com.mono hst.le (Nat.le_refl _)).of_take (List.take_append_of_le_length hn.cl)
  · have h1:=hj j hj3
    refine ⟨?_,h1.2.1,by simp [propose];omega⟩
    by_cases he:j=i
    · subst he;simp [propose,hn.id,append,htm,hn.lg]
    · simp only [propose,hn.id,up_ne _ _ he];exact Nat.le_trans h1.1 (hst.le.ack j _)
theorem compact_ok {g:Gh}{B i idx:Nat}{a:AN}(h:GI g B)(hn:NI g i a)(hi:idx≤a.commit)(s:ByteArray):Good g B i (compact a idx s,[]) :=
  .same h { hn with bc:=hi,cand:=hn.cand,ldr:=hn.ldr } (by simp)
theorem wake_ok {g:Gh}{B i:Nat}{a:AN}(h:GI g B)(hn:NI g i a):Good g B i (wake a,[]) :=
  .same h { hn with r2:=Nat.zero_le _,cand:=fun e=>(by cases e),ldr:=fun e=>(by cases e) } (by simp)
/-- three nodes, messages under way -/
structure Sys (N:Nat→AN) (M:List AM) (B:Nat):Prop where
  ok:∃ g,GI g B∧(∀ i,i < 3→NI g i (N i))∧∀ m∈M,MI g B m
theorem Sys.step {N:Nat→AN}{M M':List AM}{B i:Nat}{r:AN×List AM}(h:Sys N M B)(hi:i < 3)(hr:∀ g,GI g B→NI g i (N i)→(∀ m∈M,MI g B m)→Good g B i r)(hM:∀ m∈M',m∈M∨m∈r.2):Sys (up N i r.1) M' (B+1):=by
  obtain ⟨g,h1,h2,h3⟩:=h.ok
  obtain ⟨g',k1,k2,k3,k4⟩:=hr g h1 (h2 i hi) h3
  refine ⟨g',k1,fun j hj=>?_,fun m hm=>?_⟩
  · by_cases he:j=i
    · subst he;rw [up_same];exact k3
    · rw [up_ne _ _ he];exact (h2 j hj).mono k2 he
  · rcases hM m hm with hm | hm
    · exact (h3 m hm).mono k2.le (Nat.le_succ B)
    · exact k4 m hm
def an0 (i:Nat):AN:=⟨i,0,none,0,ByteArray.empty,[],0,0,0,fun _=>false,fun _=>0,fun _=>0⟩
theorem sys0 (B:Nat):Sys an0 [] B :=
  ⟨gh0,gh0_ok B,fun i hi=>⟨rfl,hi,rfl,rfl,by simp [an0],rfl,Nat.le_refl _,Nat.le_refl _,.inl rfl,by simp [an0],by simp [an0],by simp [an0]⟩,by simp⟩
end Go.Raft
