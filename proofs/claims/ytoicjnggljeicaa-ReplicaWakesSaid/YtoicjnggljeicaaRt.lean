/- Raft by itself: what happens keeps what always holds. -/
import Derived.Test.YtoicjnggljeicaaRg
namespace Go.Raft
theorem safe_less {g:Gh}{t k T U:Nat}(h:Safe g t k U)(hT:T≤U):Safe g t k T:=fun u h1 h2 h3=>h u h1 (by omega) h3
/-- a term goes on -/
def bump (g:Gh)(i T:Nat):Gh:={ g with tm:=up g.tm i T }
theorem bump_le (g:Gh)(i T:Nat)(h:g.tm i≤T):Le g (bump g i T):=by
  refine { Le.refl g with tm:=?_ }
  intro j
  by_cases hj:j=i
  · subst hj;simpa [bump] using h
  · simp only [bump,up_ne _ _ hj];exact Nat.le_refl _
theorem bump_ok {g:Gh}{B i T:Nat}(h:GI g B)(hT:g.tm i < T):GI (bump g i T) B:=by
  have hle:∀ j,g.tm j≤(bump g i T).tm j:=(bump_le g i T (by omega)).tm
  refine { h with termL:=?_,lead:=?_,vt:=?_,ak:=?_,k2:=?_,ownL:=?_ }
  · intro j k hk;exact Nat.le_trans (h.termL j k hk) (hle j)
  · intro U c hc;have:=h.lead U c hc;exact ⟨this.1,Nat.le_trans this.2.1 (hle c),this.2.2⟩
  · intro j U c hc;have:=h.vt j U c hc;exact ⟨this.1,Nat.le_trans this.2.1 (hle j),this.2.2⟩
  · intro j U hU;have:=h.ak j U hU;exact ⟨this.1,this.2.1,Nat.le_trans this.2.2 (hle j)⟩
  · intro j t k hk hs;exact h.k2 j t k hk (safe_less hs (by have:=hle j;omega))
  · intro U c hc he
    have h1:=h.lead U c hc
    by_cases hci:c=i
    · subst hci;simp only [bump,up_same] at he;omega
    · simp only [bump,up_ne _ _ hci] at he;exact h.ownL U c hc he
/-- a vote -/
def vote (g:Gh)(i c:Nat):Gh:={ g with voted:=up2 g.voted i (g.tm i) (some c),vl:=up2 g.vl i (g.tm i) (g.lg i) }
theorem vote_le {g:Gh}{i c:Nat}(hn:g.voted i (g.tm i)=none):Le g (vote g i c):=by
  refine { Le.refl g with voted:=?_ }
  intro j T d h
  simp only [vote,up2]
  split
  · rename_i he;obtain ⟨rfl,rfl⟩:=he;rw [hn] at h;cases h
  · exact h
theorem vote_ok {g:Gh}{B i c:Nat}(h:GI g B)(hi:i < 3)(hn:g.voted i (g.tm i)=none)(hc:c < 3)(h1:1≤g.tm i)(hs:c=i∨g.voted c (g.tm i)=some c)
    (hu:upTo (g.cl c (g.tm i)) (g.lg i)) (hcan:Canon g (g.cl c (g.tm i))) (hcl:∀ k,k≤(g.cl c (g.tm i)).length→tAt (g.cl c (g.tm i)) k < g.tm i):GI (vote g i c) B:=by
  have hle:=vote_le (c:=c) hn
  have hvot:∀ {j T d},(vote g i c).voted j T=some d→(j=i∧T=g.tm i∧d=c∧(vote g i c).vl j T=g.lg i)∨(¬ (j=i∧T=g.tm i)∧g.voted j T=some d∧(vote g i c).vl j T=g.vl j T):=by
    intro j T d hd
    simp only [vote,up2] at hd ⊢
    split at hd
    · rename_i he;obtain ⟨rfl,rfl⟩:=he;cases hd;exact .inl ⟨rfl,rfl,rfl,by simp⟩
    · rename_i he;exact .inr ⟨he,hd,by simp [he]⟩
  have hpi:g.pre i (g.tm i)=false:=by
    cases hp:g.pre i (g.tm i) with
    | false=>rfl
    | true=>exact absurd hn (h.preV i _ hp)
  refine { h with canonL:=fun j=>(h.canonL j).mono hle,canonT:=fun T d hd=>(h.canonT T d hd).mono hle,quor:=?_,vt:=?_,stood:=?_,preV:=?_,k3:=?_ }
  · intro T d hd
    obtain ⟨a,b,ha,hb,hab,h2,h3,h4,h5⟩:=h.quor T d hd
    exact ⟨a,b,ha,hb,hab,hle.voted _ _ _ h2,h3,hle.voted _ _ _ h4,h5⟩
  · intro j T d hd
    rcases hvot hd with ⟨rfl,rfl,rfl,hvl⟩ | ⟨_,hd,hvl⟩
    · rw [hvl]
      exact ⟨hi,Nat.le_refl _,hc,h1,hu,(h.canonL _).mono hle,hcan.mono hle,hcl⟩
    · rw [hvl]
      obtain ⟨x1,x2,x3,x4,x5,x6,x7,x8⟩:=h.vt j T d hd
      exact ⟨x1,x2,x3,x4,x5,x6.mono hle,x7.mono hle,x8⟩
  · intro j T d hd
    rcases hvot hd with ⟨rfl,rfl,rfl,_⟩ | ⟨_,hd,_⟩
    · rcases hs with rfl | hs
      · exact hd
      · exact hle.voted _ _ _ hs
    · exact hle.voted _ _ _ (h.stood j T d hd)
  · intro j T hp
    have:=h.preV j T hp
    cases hv:g.voted j T with
    | none=>exact absurd hv this
    | some d=>rw [hle.voted _ _ _ hv];simp
  · intro j T d t k hd hl htT hk hsf
    rcases hvot hd with ⟨rfl,rfl,rfl,hvl⟩ | ⟨_,hd,hvl⟩
    · rw [hvl]
      rcases hl with hl | hl
      · refine h.k2 j t k hk (fun u h1 h2 h3=>hsf u h1 ?_ h3)
        rcases Nat.lt_or_eq_of_le (Nat.lt_succ_iff.1 h2) with h4 | h4
        · exact h4
        · subst h4;rw [show g.leader (g.tm j)=none from hl] at h3;cases h3
      · rw [show (vote g j d).pre j (g.tm j)=g.pre j (g.tm j) from rfl,hpi] at hl;cases hl
    · rw [hvl]
      exact h.k3 j T d t k hd hl htT hk hsf
/-- who stands for a term that is new to it -/
def cand (g:Gh)(i T:Nat):Gh:={ g with cl:=up2 g.cl i T (g.lg i) }
theorem cand_le {g:Gh}{B i T:Nat}(h:GI g B)(hT:g.tm i < T):Le g (cand g i T):=by
  refine { Le.refl g with cl:=?_ }
  intro j U c hc
  simp only [cand,up2]
  split
  · rename_i he;obtain ⟨rfl,rfl⟩:=he
    have:=(h.vt c U c (h.stood j U c hc)).2.1
    omega
  · rfl
theorem cand_ok {g:Gh}{B i T:Nat}(h:GI g B)(hT:g.tm i < T):GI (cand g i T) B:=by
  have hle:=cand_le h hT
  refine { h with canonL:=fun j=>(h.canonL j).mono hle,canonT:=fun U d hd=>(h.canonT U d hd).mono hle,elT:=?_,vt:=?_ }
  · intro U c hc
    obtain ⟨a,b,d⟩:=h.elT U c hc
    refine ⟨?_,b,d⟩
    rw [show (cand g i T).el U=g.el U from rfl,a]
    simp only [cand,up2]
    split
    · rename_i he;obtain ⟨rfl,rfl⟩:=he
      have:=(h.lead U c hc).2.1
      omega
    · rfl
  · intro j U c hc
    obtain ⟨x1,x2,x3,x4,x5,x6,x7,x8⟩:=h.vt j U c hc
    have e:=hle.cl j U c hc
    rw [e]
    exact ⟨x1,x2,x3,x4,x5,x6.mono hle,x7.mono hle,x8⟩
/-- who stands: it votes for itself -/
def stand (g:Gh)(i:Nat):Gh:=vote (bump (cand g i (g.tm i+1)) i (g.tm i+1)) i i
theorem stand_novote {g:Gh}{B i:Nat}(h:GI g B):(bump (cand g i (g.tm i+1)) i (g.tm i+1)).voted i ((bump (cand g i (g.tm i+1)) i (g.tm i+1)).tm i)=none:=by
  simp only [bump,cand,up_same]
  cases hv:g.voted i (g.tm i+1) with
  | none=>rfl
  | some c=>have:=(h.vt i _ c hv).2.1;omega
theorem stand_le {g:Gh}{B i:Nat}(h:GI g B):Le g (stand g i) :=
  ((cand_le h (Nat.lt_succ_self _)).trans (bump_le _ i _ (by simp [cand]))).trans (vote_le (stand_novote h))
theorem stand_ok {g:Gh}{B i:Nat}(h:GI g B)(hi:i < 3):GI (stand g i) B:=by
  have h1:=cand_ok h (Nat.lt_succ_self (g.tm i))
  have h2:=bump_ok (i:=i) (T:=g.tm i+1) h1 (by simp [cand])
  have e:(bump (cand g i (g.tm i+1)) i (g.tm i+1)).cl i ((bump (cand g i (g.tm i+1)) i (g.tm i+1)).tm i)=g.lg i:=by simp [bump,cand]
  refine vote_ok h2 hi (stand_novote h) hi (by simp [bump]) (.inl rfl) ?_ ?_ ?_
  · rw [e];exact .inr ⟨rfl,Nat.le_refl _⟩
  · rw [e];exact h2.canonL i
  · rw [e]
    intro k hk
    have:=h.termL i k hk
    simp only [bump,up_same]
    omega
theorem Canon.append {g g':Gh}{L:Lg}{e:E}(h:Canon g L)(hg:Le g g')(hl:(g'.leader e.1).isSome)(ht:g'.tl e.1=L++[e])(he:(g'.el e.1).length≤L.length):Canon g' (L++[e]):=by
  intro k h1 h2
  rcases Nat.lt_or_ge L.length k with hk | hk
  · have:k=L.length+1:=by simp at h2;omega
    subst this
    rw [tAt_last]
    exact ⟨hl,by rw [ht];simp,by rw [ht],by omega⟩
  · rw [tAt_append hk,List.take_append_of_le_length hk]
    exact h.mono hg k h1 hk
/-- who has two votes leads -/
def elect (g:Gh)(i:Nat)(e:E):Gh :=
  { g with leader:=up g.leader (g.tm i) (some i),el:=up g.el (g.tm i) (g.lg i),tl:=up g.tl (g.tm i) (g.lg i++[e]),lg:=up g.lg i (g.lg i++[e]),ack:=up2 g.ack i (g.tm i) ((g.lg i).length+1),pre:=fun j T=>if T=g.tm i then (g.voted j T).isSome else g.pre j T }
theorem elect_le {g:Gh}{B i:Nat}{e:E}(h:GI g B)(hn:g.leader (g.tm i)=none):Le g (elect g i e):=by
  have hne:∀ {T c},g.leader T=some c→T≠g.tm i:=fun hc he=>by subst he;rw [hn] at hc;cases hc
  refine { Le.refl g with leader:=?_,tl:=?_,el:=?_,ack:=?_ }
  · intro T c hc;simp only [elect,up_ne _ _ (hne hc)];exact hc
  · intro T c hc;simp only [elect,up_ne _ _ (hne hc)];exact List.prefix_refl _
  · intro T c hc;simp only [elect,up_ne _ _ (hne hc)]
  · intro j T
    simp only [elect,up2]
    split
    · rename_i he;obtain ⟨rfl,rfl⟩:=he
      rcases Nat.eq_zero_or_pos (g.ack j (g.tm j)) with h0 | h0
      · omega
      · have:=(h.ak j _ h0).1;rw [hn] at this;cases this
    · exact Nat.le_refl _
theorem elect_ok {g:Gh}{B i a b:Nat}{e:E}(h:GI g B)(hi:i < 3)(hn:g.leader (g.tm i)=none)(he:e.1=g.tm i)(h1:1≤g.tm i)(ha:a < 3)(hb:b < 3)(hab:a≠b)
    (hva:g.voted a (g.tm i)=some i) (hvb:g.voted b (g.tm i)=some i) (hcl:g.cl i (g.tm i)=g.lg i) (hB:(g.lg i).length < B):GI (elect g i e) B:=by
  have hle:=elect_le (e:=e) h hn
  have hne:∀ {T c},g.leader T=some c→T≠g.tm i:=fun hc he=>by subst he;rw [hn] at hc;cases hc
  have hack0:∀ j,g.ack j (g.tm i)=0:=fun j=>by
    rcases Nat.eq_zero_or_pos (g.ack j (g.tm i)) with h0 | h0
    · exact h0
    · have:=(h.ak j _ h0).1;rw [hn] at this;cases this
  have hlead:∀ {T c},(elect g i e).leader T=some c→(T=g.tm i∧c=i)∨(T≠g.tm i∧g.leader T=some c):=by
    intro T c hc
    simp only [elect,up] at hc
    split at hc
    · rename_i hT;cases hc;exact .inl ⟨hT,rfl⟩
    · rename_i hT;exact .inr ⟨hT,hc⟩
  have htl:∀ {T},T≠g.tm i→(elect g i e).tl T=g.tl T:=fun hT=>by simp only [elect,up_ne _ _ hT]
  have hel:∀ {T},T≠g.tm i→(elect g i e).el T=g.el T:=fun hT=>by simp only [elect,up_ne _ _ hT]
  have htl':(elect g i e).tl (g.tm i)=g.lg i++[e]:=by simp [elect]
  have hel':(elect g i e).el (g.tm i)=g.lg i:=by simp [elect]
  have hsafe:∀ {t k U},t≠g.tm i→Safe (elect g i e) t k U→Safe g t k U:=by
    intro t k U ht hs u h1 h2 h3
    obtain ⟨c,hc⟩:=Option.isSome_iff_exists.1 h3
    have:=hs u h1 h2 (hle.some h3)
    rwa [hel (hne hc),htl ht] at this
  have hcan:Canon (elect g i e) (g.lg i++[e]):=(h.canonL i).append hle (by rw [he];simp [elect]) (by rw [he];exact htl') (by rw [he,hel'];exact Nat.le_refl _)
  have hterm:∀ k,k≤(g.lg i++[e]).length→tAt (g.lg i++[e]) k≤g.tm i:=by
    intro k hk
    rcases Nat.lt_or_ge (g.lg i).length k with hk' | hk'
    · have:k=(g.lg i).length+1:=by simp at hk;omega
      subst this
      rw [tAt_last,he]
      exact Nat.le_refl _
    · rw [tAt_append hk'];exact h.termL i k hk'
  have hlg:∀ j,(elect g i e).lg j=if j=i then g.lg i++[e] else g.lg j:=fun j=>rfl
  constructor
  · intro j;rw [hlg];split
    · exact hcan
    · exact (h.canonL j).mono hle
  · intro j k hk
    rw [hlg] at hk ⊢
    split at hk
    · rename_i hj;subst hj;simp only [if_true];exact hterm k hk
    · rename_i hj;simp only [hj,if_false];exact h.termL j k hk
  · intro T c hc
    rcases hlead hc with ⟨rfl,rfl⟩ | ⟨_,hc⟩
    · exact ⟨hi,Nat.le_refl _,h1⟩
    · exact h.lead T c hc
  · intro T c hc
    rcases hlead hc with ⟨rfl,rfl⟩ | ⟨hT,hc⟩
    · rw [htl'];exact hcan
    · rw [htl hT];exact (h.canonT T c hc).mono hle
  · intro T c hc
    rcases hlead hc with ⟨rfl,rfl⟩ | ⟨hT,hc⟩
    · rw [htl'];exact hterm
    · rw [htl hT];exact h.termT T c hc
  · intro T c hc
    rcases hlead hc with ⟨rfl,rfl⟩ | ⟨hT,hc⟩
    · rw [htl',hel'];exact ⟨hcl.symm,List.prefix_append _ _,by simp⟩
    · rw [htl hT,hel hT];exact h.elT T c hc
  · intro T c hc
    rcases hlead hc with ⟨rfl,rfl⟩ | ⟨hT,hc⟩
    · refine ⟨a,b,ha,hb,hab,hva,?_,hvb,?_⟩
      · simp [elect,hva]
      · simp [elect,hvb]
    · obtain ⟨x,y,hx,hy,hxy,h2,h3,h4,h5⟩:=h.quor T c hc
      exact ⟨x,y,hx,hy,hxy,h2,by simp only [elect,hT,if_false];exact h3,h4,by simp only [elect,hT,if_false];exact h5⟩
  · intro j T c hc
    obtain ⟨x1,x2,x3,x4,x5,x6,x7,x8⟩:=h.vt j T c hc
    exact ⟨x1,x2,x3,x4,x5,x6.mono hle,x7.mono hle,x8⟩
  · exact h.stood
  · intro j T hp
    simp only [elect] at hp
    split at hp
    · intro hv;rw [show g.voted j T=none from hv] at hp;cases hp
    · exact h.preV j T hp
  · intro j T hT
    by_cases hj:j=i∧T=g.tm i
    · obtain ⟨rfl,rfl⟩:=hj
      refine ⟨by simp [elect],?_,Nat.le_refl _⟩
      rw [htl']
      simp [elect]
    · have hh:(elect g i e).ack j T=g.ack j T:=by simp only [elect,up2_ne _ _ hj]
      rw [hh] at hT ⊢
      obtain ⟨x,y,z⟩:=h.ak j T hT
      exact ⟨hle.some x,Nat.le_trans y (hle.take x (Nat.le_refl _)).2,z⟩
  · intro j t k hk hs
    by_cases hj:j=i∧t=g.tm i
    · obtain ⟨rfl,rfl⟩:=hj
      rw [htl',hlg,if_pos rfl]
    · have hh:(elect g i e).ack j t=g.ack j t:=by simp only [elect,up2_ne _ _ hj]
      rw [hh] at hk
      by_cases ht:t=g.tm i
      · subst ht
        have:k=0:=by have:=hack0 j;omega
        subst this;simp
      · have h2:=h.k2 j t k hk (hsafe ht hs)
        rw [htl ht,hlg]
        split
        · rename_i hji;subst hji
          rcases Nat.eq_zero_or_pos k with h0 | h0
          · subst h0;simp
          · have hkl:=(h.ak j t (by omega)).2.1
            rw [List.take_append_of_le_length (len_of_take h2 (by omega))]
            exact h2
        · exact h2
  · intro j T c t k hv hl htT hk hs
    by_cases hj:j=i∧t=g.tm i
    · obtain ⟨rfl,rfl⟩:=hj
      have:=(h.vt j T c hv).2.1
      omega
    · have hh:(elect g i e).ack j t=g.ack j t:=by simp only [elect,up2_ne _ _ hj]
      rw [hh] at hk
      by_cases ht:t=g.tm i
      · subst ht
        have:k=0:=by have:=hack0 j;omega
        subst this;simp
      · rw [htl ht]
        refine h.k3 j T c t k hv ?_ htT hk (hsafe ht hs)
        by_cases hT:T=g.tm i
        · exact .inl (by rw [hT];exact hn)
        · rcases hl with hl | hl
          · exact .inl (by simp only [elect,up_ne _ _ hT] at hl;exact hl)
          · exact .inr (by simp only [elect,hT,if_false] at hl;exact hl)
  · intro T c hc ht
    rcases hlead hc with ⟨rfl,rfl⟩ | ⟨hT,hc⟩
    · rw [htl',hlg,if_pos rfl]
    · have hci:c≠i:=fun he=>by subst he;exact hT ht.symm
      rw [htl hT,hlg,if_neg hci]
      exact h.ownL T c hc ht
  · intro T c hc
    rcases hlead hc with ⟨rfl,rfl⟩ | ⟨hT,hc⟩
    · rw [htl'];simp;omega
    · rw [htl hT];exact h.size T c hc
/-- a leader's new entry -/
def append (g:Gh)(i:Nat)(e:E):Gh :=
  { g with tl:=up g.tl (g.tm i) (g.lg i++[e]),lg:=up g.lg i (g.lg i++[e]),ack:=up2 g.ack i (g.tm i) ((g.lg i).length+1) }
theorem append_le {g:Gh}{B i:Nat}{e:E}(h:GI g B)(hl:g.leader (g.tm i)=some i):Le g (append g i e):=by
  have ho:=h.ownL _ i hl rfl
  refine { Le.refl g with tl:=?_,ack:=?_ }
  · intro T c hc
    by_cases hT:T=g.tm i
    · subst hT;simp only [append,up_same];rw [ho];exact List.prefix_append _ _
    · simp only [append,up_ne _ _ hT];exact List.prefix_refl _
  · intro j T
    simp only [append,up2]
    split
    · rename_i he;obtain ⟨rfl,rfl⟩:=he
      rcases Nat.eq_zero_or_pos (g.ack j (g.tm j)) with h0 | h0
      · omega
      · have:=(h.ak j _ h0).2.1
        rw [ho];omega
    · exact Nat.le_refl _
theorem append_ok {g:Gh}{B i:Nat}{e:E}(h:GI g B)(hl:g.leader (g.tm i)=some i)(he:e.1=g.tm i)(hB:(g.lg i).length < B):GI (append g i e) B:=by
  have hle:=append_le (e:=e) h hl
  have ho:=h.ownL _ i hl rfl
  have htl:∀ {T},T≠g.tm i→(append g i e).tl T=g.tl T:=fun hT=>by simp only [append,up_ne _ _ hT]
  have htl':(append g i e).tl (g.tm i)=g.lg i++[e]:=by simp [append]
  have htk:∀ {T k},(g.leader T).isSome→k≤(g.tl T).length→((append g i e).tl T).take k=(g.tl T).take k:=fun h1 h2=>(hle.take h1 h2).1
  have hsafe:∀ {t k U},(g.leader t).isSome→k≤(g.tl t).length→Safe (append g i e) t k U→Safe g t k U:=by
    intro t k U h1 h2 hs u h3 h4 h5
    have:=hs u h3 h4 h5
    rwa [htk h1 h2] at this
  have hel:=(h.elT _ i hl).2.2
  have hcan:Canon (append g i e) (g.lg i++[e]):=(h.canonL i).append hle (by rw [he];rw [show (append g i e).leader=g.leader from rfl,hl];rfl) (by rw [he];exact htl') (by rw [he,show (append g i e).el=g.el from rfl,ho];omega)
  have hterm:∀ k,k≤(g.lg i++[e]).length→tAt (g.lg i++[e]) k≤g.tm i:=by
    intro k hk
    rcases Nat.lt_or_ge (g.lg i).length k with hk' | hk'
    · have:k=(g.lg i).length+1:=by simp at hk;omega
      subst this
      rw [tAt_last,he]
      exact Nat.le_refl _
    · rw [tAt_append hk'];exact h.termL i k hk'
  have hlg:∀ j,(append g i e).lg j=if j=i then g.lg i++[e] else g.lg j:=fun j=>rfl
  have hak:∀ {j t k},k≤(append g i e).ack j t→(j=i∧t=g.tm i)∨(k=0)∨(k≤g.ack j t∧(g.leader t).isSome∧k≤(g.tl t).length):=by
    intro j t k hk
    by_cases hj:j=i∧t=g.tm i
    · exact .inl hj
    · simp only [append,up2_ne _ _ hj] at hk
      rcases Nat.eq_zero_or_pos k with h0 | h0
      · exact .inr (.inl h0)
      · have:=h.ak j t (by omega)
        exact .inr (.inr ⟨hk,this.1,by omega⟩)
  refine { h with canonL:=?_,termL:=?_,canonT:=?_,termT:=?_,elT:=?_,vt:=?_,ak:=?_,k2:=?_,k3:=?_,ownL:=?_,size:=?_ }
  · intro j;rw [hlg];split
    · exact hcan
    · exact (h.canonL j).mono hle
  · intro j k hk
    rw [hlg] at hk ⊢
    split at hk
    · rename_i hj;subst hj;simp only [if_true];exact hterm k hk
    · rename_i hj;simp only [hj,if_false];exact h.termL j k hk
  · intro T c hc
    by_cases hT:T=g.tm i
    · subst hT;rw [htl'];exact hcan
    · rw [htl hT];exact (h.canonT T c hc).mono hle
  · intro T c hc
    by_cases hT:T=g.tm i
    · subst hT;rw [htl'];exact hterm
    · rw [htl hT];exact h.termT T c hc
  · intro T c hc
    obtain ⟨x,y,z⟩:=h.elT T c hc
    exact ⟨x,y.trans (hle.tl T c hc),Nat.lt_of_lt_of_le z (hle.tl T c hc).length_le⟩
  · intro j T c hc
    obtain ⟨x1,x2,x3,x4,x5,x6,x7,x8⟩:=h.vt j T c hc
    exact ⟨x1,x2,x3,x4,x5,x6.mono hle,x7.mono hle,x8⟩
  · intro j T hT
    by_cases hj:j=i∧T=g.tm i
    · obtain ⟨rfl,rfl⟩:=hj
      refine ⟨by rw [show (append g j e).leader=g.leader from rfl,hl];rfl,?_,Nat.le_refl _⟩
      rw [htl']
      simp [append]
    · have hh:(append g i e).ack j T=g.ack j T:=by simp only [append,up2_ne _ _ hj]
      rw [hh] at hT ⊢
      obtain ⟨x,y,z⟩:=h.ak j T hT
      exact ⟨x,Nat.le_trans y (hle.take x (Nat.le_refl _)).2,z⟩
  · intro j t k hk hs
    rcases hak hk with ⟨rfl,rfl⟩ | h0 | ⟨h1,h2,h3⟩
    · rw [htl',hlg,if_pos rfl]
    · subst h0;simp
    · have:=h.k2 j t k h1 (hsafe h2 h3 hs)
      rw [htk h2 h3,hlg]
      split
      · rename_i hji;subst hji
        rw [List.take_append_of_le_length (len_of_take this h3)]
        exact this
      · exact this
  · intro j T c t k hv hl' htT hk hs
    rcases hak hk with ⟨rfl,rfl⟩ | h0 | ⟨h1,h2,h3⟩
    · have:=(h.vt j T c hv).2.1;omega
    · subst h0;simp
    · rw [htk h2 h3]
      exact h.k3 j T c t k hv hl' htT h1 (hsafe h2 h3 hs)
  · intro T c hc ht
    by_cases hT:T=g.tm i
    · subst hT
      have:c=i:=by rw [show g.leader (g.tm i)=some c from hc] at hl;exact Option.some.inj hl
      subst this
      rw [htl',hlg,if_pos rfl]
    · have hci:c≠i:=fun he=>by subst he;exact hT ht.symm
      rw [htl hT,hlg,if_neg hci]
      exact h.ownL T c hc ht
  · intro T c hc
    by_cases hT:T=g.tm i
    · subst hT;rw [htl'];simp;omega
    · rw [htl hT];exact h.size T c hc
/-- a node's log as its term's leader has it, up to an index -/
def accept (g:Gh)(i:Nat)(L:Lg)(n:Nat):Gh:={ g with lg:=up g.lg i L,ack:=up2 g.ack i (g.tm i) (max (g.ack i (g.tm i)) n) }
theorem accept_le (g:Gh)(i:Nat)(L:Lg)(n:Nat):Le g (accept g i L n):=by
  refine { Le.refl g with ack:=?_ }
  intro j T
  simp only [accept,up2]
  split
  · rename_i he;obtain ⟨rfl,rfl⟩:=he;exact Nat.le_max_left _ _
  · exact Nat.le_refl _
theorem accept_ok {g:Gh}{B i c n:Nat}{L:Lg}(h:GI g B)(hl:g.leader (g.tm i)=some c)(hci:c≠i)(hn:n≤(g.tl (g.tm i)).length)(hLn:L.take n=(g.tl (g.tm i)).take n)
    (hcan:Canon g L) (hterm:∀ k,k≤L.length→tAt L k≤g.tm i) (hk:∀ k,k≤(g.lg i).length→(g.lg i).take k=(g.tl (g.tm i)).take k→L.take k=(g.tl (g.tm i)).take k):GI (accept g i L n) B:=by
  have hle:=accept_le g i L n
  have hlg:∀ j,(accept g i L n).lg j=if j=i then L else g.lg j:=fun j=>rfl
  have hls:(g.leader (g.tm i)).isSome:=by rw [hl];rfl
  have hak:∀ {j t k},k≤(accept g i L n).ack j t→(j=i∧t=g.tm i∧k≤n)∨k≤g.ack j t:=by
    intro j t k hk
    by_cases hj:j=i∧t=g.tm i
    · obtain ⟨rfl,rfl⟩:=hj
      simp only [accept,up2_same] at hk
      rcases Nat.lt_or_ge n k with h1 | h1
      · exact .inr (by omega)
      · exact .inl ⟨rfl,rfl,h1⟩
    · simp only [accept,up2_ne _ _ hj] at hk;exact .inr hk
  refine { h with canonL:=?_,termL:=?_,canonT:=fun T d hd=>(h.canonT T d hd).mono hle,vt:=?_,ak:=?_,k2:=?_,k3:=?_,ownL:=?_ }
  · intro j;rw [hlg];split
    · exact hcan.mono hle
    · exact (h.canonL j).mono hle
  · intro j k hkk
    rw [hlg] at hkk ⊢
    split at hkk
    · rename_i hj;subst hj;simp only [if_true];exact hterm k hkk
    · rename_i hj;simp only [hj,if_false];exact h.termL j k hkk
  · intro j T c hc
    obtain ⟨x1,x2,x3,x4,x5,x6,x7,x8⟩:=h.vt j T c hc
    exact ⟨x1,x2,x3,x4,x5,x6.mono hle,x7.mono hle,x8⟩
  · intro j T hT
    by_cases hj:j=i∧T=g.tm i
    · obtain ⟨rfl,rfl⟩:=hj
      refine ⟨hls,?_,Nat.le_refl _⟩
      rcases Nat.eq_zero_or_pos (g.ack j (g.tm j)) with h0 | h0
      · simp only [accept,up2_same];omega
      · have:=(h.ak j _ h0).2.1;simp only [accept,up2_same];omega
    · have hh:(accept g i L n).ack j T=g.ack j T:=by simp only [accept,up2_ne _ _ hj]
      rw [hh] at hT ⊢
      exact h.ak j T hT
  · intro j t k hkk hs
    rw [hlg]
    rcases hak hkk with ⟨rfl,rfl,h1⟩ | h1
    · rw [if_pos rfl];exact take_le hLn h1
    · have h2:=h.k2 j t k h1 hs
      split
      · rename_i hji;subst hji
        rcases Nat.eq_zero_or_pos k with h0 | h0
        · subst h0;simp
        · obtain ⟨x,y,z⟩:=h.ak j t (by omega)
          have hkl:k≤(g.lg j).length:=len_of_take h2 (by omega)
          rcases Nat.lt_or_eq_of_le z with hz | hz
          · have hs2:(g.el (g.tm j)).take k=(g.tl t).take k:=hs (g.tm j) hz (by simp [accept]) hls
            have hkel:k≤(g.el (g.tm j)).length:=len_of_take hs2 (by omega)
            have e1:(g.tl (g.tm j)).take k=(g.tl t).take k:=(el_take h hl hkel).trans hs2
            exact (hk k hkl (h2.trans e1.symm)).trans e1
          · subst hz;exact hk k hkl h2
      · exact h2
  · intro j T c' t k hv hl' htT hkk hs
    rcases hak hkk with ⟨rfl,rfl,h1⟩ | h1
    · have:=(h.vt j T c' hv).2.1;omega
    · exact h.k3 j T c' t k hv hl' htT h1 hs
  · intro T d hd ht
    have hdi:d≠i:=fun he=>by
      subst he
      rw [show (accept g d L n).tm d=g.tm d from rfl] at ht
      subst ht
      rw [show g.leader (g.tm d)=some d from hd] at hl
      exact hci (Option.some.inj hl).symm
    rw [hlg,if_neg hdi]
    exact h.ownL T d hd ht
/-- at the beginning -/
def gh0:Gh:=⟨fun _=>0,fun _=>[],fun _=>none,fun _=>[],fun _=>[],fun _ _=>none,fun _ _=>[],fun _ _=>[],fun _ _=>false,fun _ _=>0⟩
theorem canon_nil (g:Gh):Canon g []:=by intro k h1 h2;simp at h2;omega
theorem gh0_ok (B:Nat):GI gh0 B:=by
  constructor<;>intros<;>simp_all [gh0,canon_nil]
  all_goals first | exact canon_nil _ | omega | skip
  rename_i k hk
  cases k<;>simp [tAt]
end Go.Raft
