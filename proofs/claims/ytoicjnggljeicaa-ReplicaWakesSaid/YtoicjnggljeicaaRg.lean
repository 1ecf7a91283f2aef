/- Raft by itself: the history of terms, votes, logs, and what always holds of it. -/
namespace Go.Raft
abbrev E:=Nat×ByteArray
abbrev Lg:=List E
/-- the term of the k-th entry (from 1); 0 ahead of all -/
def tAt (L:Lg):Nat→Nat
  | 0=>0
  | k+1=>match L[k]? with | some e=>e.1 | none=>0
def lastT (L:Lg):Nat:=tAt L L.length
theorem tAt_take {L:Lg}{k n:Nat}(h:k≤n):tAt (L.take n) k=tAt L k:=by
  cases k with
  | zero=>rfl
  | succ k=>simp only [tAt];rw [List.getElem?_take_of_lt (by omega)]
theorem tAt_eq {L M:Lg}{k n:Nat}(h:L.take n=M.take n)(hk:k≤n):tAt L k=tAt M k:=by
  rw [← tAt_take hk,h,tAt_take hk]
theorem tAt_append {L M:Lg}{k:Nat}(h:k≤L.length):tAt (L++M) k=tAt L k:=by
  cases k with
  | zero=>rfl
  | succ k=>simp only [tAt];rw [List.getElem?_append_left (by omega)]
theorem tAt_last {L:Lg}{e:E}:tAt (L++[e]) (L.length+1)=e.1:=by simp [tAt]
theorem take_le {L M:Lg}{k n:Nat}(h:L.take n=M.take n)(hk:k≤n):L.take k=M.take k:=by
  have:=congrArg (List.take k) h
  rw [List.take_take,List.take_take,Nat.min_eq_left hk] at this
  exact this
theorem len_of_take {L M:Lg}{k:Nat}(h:L.take k=M.take k)(hk:k≤M.length):k≤L.length:=by
  have:=congrArg List.length h
  rw [List.length_take,List.length_take] at this
  omega
theorem take_of_prefix {L M:Lg}(h:L <+: M){k:Nat}(hk:k≤L.length):M.take k=L.take k:=by
  obtain ⟨R,rfl⟩:=h
  rw [List.take_append_of_le_length hk]
structure Gh where
  tm:Nat→Nat
  lg:Nat→Lg
  leader:Nat→Option Nat
  tl:Nat→Lg
  el:Nat→Lg
  voted:Nat→Nat→Option Nat
  vl:Nat→Nat→Lg
  cl:Nat→Nat→Lg
  pre:Nat→Nat→Bool
  ack:Nat→Nat→Nat
def up {α:Type}(f:Nat→α)(i:Nat)(v:α):Nat→α:=fun j=>if j=i then v else f j
def up2 {α:Type}(f:Nat→Nat→α)(i t:Nat)(v:α):Nat→Nat→α:=fun j u=>if j=i∧u=t then v else f j u
@[simp] theorem up_same {α : Type} (f : Nat → α) (i : Nat) (v : α) : up f i v i = v := by simp [up]
theorem up_ne {α:Type}(f:Nat→α){i j:Nat}(v:α)(h:j≠i):up f i v j=f j:=by simp [up,h]
@[simp] theorem up2_same {α : Type} (f : Nat → Nat → α) (i t : Nat) (v : α) : up2 f i t v i t = v := by simp [up2]
theorem up2_ne {α:Type}(f:Nat→Nat→α){i t j u:Nat}(v:α)(h:¬ (j=i∧u=t)):up2 f i t v j u=f j u:=by simp [up2,h]
/-- every entry of a log stands in its term's leader's log, at the same place, behind the same entries -/
def Canon (g:Gh)(L:Lg):Prop:=∀ k,1≤k→k≤L.length→(g.leader (tAt L k)).isSome∧k≤(g.tl (tAt L k)).length∧L.take k=(g.tl (tAt L k)).take k∧(g.el (tAt L k)).length < k
def upTo (C V:Lg):Prop:=lastT C > lastT V∨(lastT C=lastT V∧C.length≥V.length)
/-- all leaders between two terms began with the first k entries of the first one's -/
def Safe (g:Gh)(t k T:Nat):Prop:=∀ u,t < u→u < T→(g.leader u).isSome→(g.el u).take k=(g.tl t).take k
/-- the k-th entry of a term's leader, an entry of that term, is held by two -/
def Comm (g:Gh)(t k:Nat):Prop:=(g.leader t).isSome∧1≤k∧k≤(g.tl t).length∧tAt (g.tl t) k=t∧∃ i j,i < 3∧j < 3∧i≠j∧k≤g.ack i t∧k≤g.ack j t
/-- the first c entries of a log are committed, by a term that is no later -/
def COK (g:Gh)(L:Lg)(c T:Nat):Prop:=c=0∨∃ t k,t≤T∧c≤k∧Comm g t k∧L.take c=(g.tl t).take c
structure GI (g:Gh) (B:Nat):Prop where
  canonL:∀ j,Canon g (g.lg j)
  termL:∀ j k,k≤(g.lg j).length→tAt (g.lg j) k≤g.tm j
  lead:∀ T c,g.leader T=some c→c < 3∧T≤g.tm c∧1≤T
  canonT:∀ T c,g.leader T=some c→Canon g (g.tl T)
  termT:∀ T c,g.leader T=some c→∀ k,k≤(g.tl T).length→tAt (g.tl T) k≤T
  elT:∀ T c,g.leader T=some c→g.el T=g.cl c T∧g.el T <+: g.tl T∧(g.el T).length < (g.tl T).length
  quor:∀ T c,g.leader T=some c→∃ i j,i < 3∧j < 3∧i≠j∧g.voted i T=some c∧g.pre i T=true∧g.voted j T=some c∧g.pre j T=true
  vt:∀ j T c,g.voted j T=some c→j < 3∧T≤g.tm j∧c < 3∧1≤T∧upTo (g.cl c T) (g.vl j T)∧Canon g (g.vl j T)∧Canon g (g.cl c T)∧∀ k,k≤(g.cl c T).length→tAt (g.cl c T) k < T
  stood:∀ j T c,g.voted j T=some c→g.voted c T=some c
  preV:∀ j T,g.pre j T=true→g.voted j T≠none
  ak:∀ j T,0 < g.ack j T→(g.leader T).isSome∧g.ack j T≤(g.tl T).length∧T≤g.tm j
  k2:∀ j t k,k≤g.ack j t→Safe g t k (g.tm j+1)→(g.lg j).take k=(g.tl t).take k
  k3:∀ j T c t k,g.voted j T=some c→(g.leader T=none∨g.pre j T=true)→t < T→k≤g.ack j t→Safe g t k T→(g.vl j T).take k=(g.tl t).take k
  ownL:∀ T c,g.leader T=some c→g.tm c=T→g.lg c=g.tl T
  size:∀ T c,g.leader T=some c→(g.tl T).length≤B
theorem pigeon {i j a b:Nat}(hi:i < 3)(hj:j < 3)(hij:i≠j)(ha:a < 3)(hb:b < 3)(hab:a≠b):a=i∨a=j∨b=i∨b=j:=by omega
theorem el_take {g:Gh}{B:Nat}(h:GI g B){T c k:Nat}(hl:g.leader T=some c)(hk:k≤(g.el T).length):(g.tl T).take k=(g.el T).take k:=take_of_prefix (h.elT T c hl).2.1 hk
/-- what is committed stands in the logs of all later leaders -/
theorem lc {g:Gh}{B t k:Nat}(h:GI g B)(hc:Comm g t k):∀ T,t < T→(g.leader T).isSome→(g.el T).take k=(g.tl t).take k:=by
  intro T
  induction T using Nat.strongRecOn with
  | _ T ih =>
    intro htT hT
    obtain ⟨c,hT⟩:=Option.isSome_iff_exists.1 hT
    obtain ⟨hlt,hk1,hkl,hkt,a1,a2,ha1,ha2,ha12,hk1a,hk2a⟩:=hc
    have hsafe:Safe g t k T:=fun u h1 h2 h3=>ih u h2 h1 h3
    obtain ⟨v1,v2,hv1,hv2,hv12,hv1c,hv1p,hv2c,hv2p⟩:=h.quor T c hT
    have hj:∃ j,g.voted j T=some c∧g.pre j T=true∧k≤g.ack j t:=by
      rcases pigeon ha1 ha2 ha12 hv1 hv2 hv12 with e | e | e | e
      · exact ⟨v1,hv1c,hv1p,e ▸ hk1a⟩
      · exact ⟨v1,hv1c,hv1p,e ▸ hk2a⟩
      · exact ⟨v2,hv2c,hv2p,e ▸ hk1a⟩
      · exact ⟨v2,hv2c,hv2p,e ▸ hk2a⟩
    obtain ⟨j,hjv,hjp,hjk⟩:=hj
    have hV:=h.k3 j T c t k hjv (.inr hjp) htT hjk hsafe
    obtain ⟨_,_,_,_,hup,hcanV,hcanC,hCt⟩:=h.vt j T c hjv
    have hel:=(h.elT T c hT).1
    rw [← hel] at hup hcanC hCt
    have hVl:k≤(g.vl j T).length:=len_of_take hV hkl
    have hVk:tAt (g.vl j T) k=t:=by rw [tAt_eq hV (Nat.le_refl k),hkt]
    have hV1:=hcanV _ (by omega) (Nat.le_refl (g.vl j T).length)
    obtain ⟨cv,hcv⟩:=Option.isSome_iff_exists.1 hV1.1
    have hlastV:t≤lastT (g.vl j T):=by
      have e:tAt (g.vl j T) k=tAt (g.tl (lastT (g.vl j T))) k:=tAt_eq hV1.2.2.1 hVl
      rw [hVk] at e
      rw [e]
      exact h.termT _ cv hcv k (by have:=hV1.2.1;omega)
    have hC1:1≤(g.el T).length:=by
      rcases hup with hu | ⟨hu,hl⟩
      · have:lastT (g.el T)≠0:=by omega
        rcases Nat.eq_zero_or_pos (g.el T).length with hz | hz
        · exfalso;apply this;unfold lastT;rw [hz];rfl
        · exact hz
      · omega
    have hCc:=hcanC _ hC1 (Nat.le_refl _)
    obtain ⟨cc,hcc⟩:=Option.isSome_iff_exists.1 hCc.1
    have hτT:lastT (g.el T) < T:=hCt _ (Nat.le_refl _)
    have hτt:t≤lastT (g.el T):=by rcases hup with hu | ⟨hu,_⟩<;>omega
    have hCeq:(g.el T).take (g.el T).length=(g.tl (lastT (g.el T))).take (g.el T).length:=hCc.2.2.1
    rcases Nat.lt_or_eq_of_le hτt with hτ | hτ
    · have hs:=hsafe (lastT (g.el T)) hτ hτT hCc.1
      have hkel:k≤(g.el (lastT (g.el T))).length:=len_of_take hs hkl
      have hlt2:(g.el (lastT (g.el T))).length < (g.el T).length:=hCc.2.2.2
      have e1:(g.tl (lastT (g.el T))).take k=(g.el (lastT (g.el T))).take k:=el_take h hcc hkel
      rw [take_le hCeq (by omega),e1,hs]
    · have hlen:k≤(g.el T).length:=by
        rcases hup with hu | ⟨_,hl⟩
        · omega
        · omega
      rw [take_le hCeq hlen,← hτ]
theorem lc_tl {g:Gh}{B t k T:Nat}(h:GI g B)(hc:Comm g t k)(htT:t≤T)(hT:(g.leader T).isSome):(g.tl T).take k=(g.tl t).take k∧k≤(g.tl T).length:=by
  rcases Nat.lt_or_eq_of_le htT with h1 | h1
  · have:=lc h hc T h1 hT
    obtain ⟨c,hT⟩:=Option.isSome_iff_exists.1 hT
    have hl:=len_of_take this hc.2.2.1
    rw [el_take h hT hl]
    exact ⟨this,by have:=(h.elT T c hT).2.2;omega⟩
  · subst h1
    exact ⟨rfl,hc.2.2.1⟩
/-- what is committed by a node stands in its term's leader's log -/
theorem cok_tl {g:Gh}{B c T:Nat}{L:Lg}(h:GI g B)(hc:COK g L c T)(hT:(g.leader T).isSome):L.take c=(g.tl T).take c∧c≤(g.tl T).length:=by
  rcases hc with rfl | ⟨t,k,h1,h2,h3,h4⟩
  · simp
  · have:=lc_tl h h3 h1 hT
    exact ⟨h4.trans (take_le this.1 h2).symm,by omega⟩
/-- a later history: nothing that was is gone -/
structure Le (g g':Gh):Prop where
  tm:∀ j,g.tm j≤g'.tm j
  leader:∀ T c,g.leader T=some c→g'.leader T=some c
  tl:∀ T c,g.leader T=some c→g.tl T <+: g'.tl T
  el:∀ T c,g.leader T=some c→g'.el T=g.el T
  voted:∀ j T c,g.voted j T=some c→g'.voted j T=some c
  cl:∀ j T c,g.voted j T=some c→g'.cl c T=g.cl c T
  ack:∀ j T,g.ack j T≤g'.ack j T
theorem Le.refl (g:Gh):Le g g:=⟨fun _=>Nat.le_refl _,fun _ _ h=>h,fun _ _ _=>List.prefix_refl _,fun _ _ _=>rfl,fun _ _ _ h=>h,fun _ _ _ _=>rfl,fun _ _=>Nat.le_refl _⟩
theorem Le.trans {a b c:Gh}(h:Le a b)(k:Le b c):Le a c :=
  ⟨fun j=>Nat.le_trans (h.tm j) (k.tm j),fun T d e=>k.leader T d (h.leader T d e),fun T d e=>(h.tl T d e).trans (k.tl T d (h.leader T d e)),fun T d e=>(k.el T d (h.leader T d e)).trans (h.el T d e),
   fun j T d e=>k.voted j T d (h.voted j T d e),fun j T d e=>(k.cl j T d (h.voted j T d e)).trans (h.cl j T d e),fun j T=>Nat.le_trans (h.ack j T) (k.ack j T)⟩
theorem Le.some {g g':Gh}(h:Le g g'){T:Nat}(ht:(g.leader T).isSome):(g'.leader T).isSome:=by
  obtain ⟨c,hc⟩:=Option.isSome_iff_exists.1 ht
  rw [h.leader T c hc];rfl
theorem Le.take {g g':Gh}(h:Le g g'){T k:Nat}(ht:(g.leader T).isSome)(hk:k≤(g.tl T).length):(g'.tl T).take k=(g.tl T).take k∧k≤(g'.tl T).length:=by
  obtain ⟨c,hc⟩:=Option.isSome_iff_exists.1 ht
  have:=h.tl T c hc
  exact ⟨take_of_prefix this hk,Nat.le_trans hk this.length_le⟩
theorem Canon.mono {g g':Gh}{L:Lg}(h:Canon g L)(hg:Le g g'):Canon g' L:=by
  intro k h1 h2
  obtain ⟨a,b,c,d⟩:=h k h1 h2
  have:=hg.take a b
  obtain ⟨x,hx⟩:=Option.isSome_iff_exists.1 a
  exact ⟨hg.some a,this.2,c.trans this.1.symm,by rw [hg.el _ x hx];exact d⟩
theorem Comm.mono {g g':Gh}{t k:Nat}(h:Comm g t k)(hg:Le g g'):Comm g' t k:=by
  obtain ⟨a,b,c,d,i,j,hi,hj,hij,h1,h2⟩:=h
  have:=hg.take a c
  refine ⟨hg.some a,b,this.2,?_,i,j,hi,hj,hij,Nat.le_trans h1 (hg.ack i t),Nat.le_trans h2 (hg.ack j t)⟩
  rw [tAt_eq this.1 (Nat.le_refl k)]
  exact d
theorem COK.mono {g g':Gh}{L:Lg}{c T T':Nat}(h:COK g L c T)(hg:Le g g')(hT:T≤T'):COK g' L c T':=by
  rcases h with h | ⟨t,k,h1,h2,h3,h4⟩
  · exact .inl h
  · exact .inr ⟨t,k,by omega,h2,h3.mono hg,h4.trans (hg.take h3.1 (by have:=h3.2.2.1;omega)).1.symm⟩
theorem COK.less {g:Gh}{L:Lg}{c d T:Nat}(h:COK g L c T)(hd:d≤c):COK g L d T:=by
  rcases h with h | ⟨t,k,h1,h2,h3,h4⟩
  · exact .inl (by omega)
  · exact .inr ⟨t,k,h1,by omega,h3,take_le h4 hd⟩
theorem COK.of_take {g:Gh}{L M:Lg}{c T:Nat}(h:COK g L c T)(hd:M.take c=L.take c):COK g M c T:=by
  rcases h with h | ⟨t,k,h1,h2,h3,h4⟩
  · exact .inl h
  · exact .inr ⟨t,k,h1,h2,h3,hd.trans h4⟩
end Go.Raft
