/- Raft by itself: nodes, messages, what nodes do, and that it keeps what always holds. -/
import Derived.Test.YtoicjnggljeicaaRt
namespace Go.Raft
structure AN where
  id:Nat
  term:Nat
  vote:Option Nat
  base:Nat
  snap:ByteArray
  log:Lg
  role:Nat
  commit:Nat
  wait:Nat
  votes:Nat→Bool
  next:Nat→Nat
  mat:Nat→Nat
inductive AM where
  | vote (src dst t idx lt:Nat)
  | voted (src dst t:Nat) (yes:Bool)
  | add (src dst t idx lt:Nat) (es:Lg) (c:Nat)
  | added (src dst t:Nat) (yes:Bool) (idx:Nat)
  | snap (src dst t idx lt:Nat) (pre:Lg) (s:ByteArray)
def AM.src:AM→Nat
  | .vote s _ _ _ _ | .voted s _ _ _ | .add s _ _ _ _ _ _ | .added s _ _ _ _ | .snap s _ _ _ _ _ _=>s
def AM.dst:AM→Nat
  | .vote _ d _ _ _ | .voted _ d _ _ | .add _ d _ _ _ _ _ | .added _ d _ _ _ | .snap _ d _ _ _ _ _=>d
def AM.term:AM→Nat
  | .vote _ _ t _ _ | .voted _ _ t _ | .add _ _ t _ _ _ _ | .added _ _ t _ _ | .snap _ _ t _ _ _ _=>t
abbrev most:Nat:=1073741824
/-- what is said by a message -/
def MS (g:Gh)(B:Nat):AM→Prop
  | .vote s _ t idx lt=>g.voted s t=some s∧idx=(g.cl s t).length∧lt=lastT (g.cl s t)∧idx≤B
  | .voted s d t y=>y=true→g.voted s t=some d
  | .add s _ t idx lt es c=>g.leader t=some s∧idx+es.length≤(g.tl t).length∧lt=tAt (g.tl t) idx∧es=((g.tl t).drop idx).take es.length∧c≤(g.tl t).length∧COK g (g.tl t) c t
  | .added s _ t y idx=>(y=true→idx≤g.ack s t)∧idx≤B
  | .snap s _ t idx lt pre _=>g.leader t=some s∧idx≤(g.tl t).length∧lt=tAt (g.tl t) idx∧pre=(g.tl t).take idx∧COK g (g.tl t) idx t
structure MI (g:Gh) (B:Nat) (m:AM):Prop where
  src:m.src < 3
  dst:m.dst < 3
  ne:m.src≠m.dst
  t30:m.term≤most
  says:MS g B m
structure NI (g:Gh) (i:Nat) (a:AN):Prop where
  id:a.id=i
  i3:i < 3
  tm:a.term=g.tm i
  lg:a.log=g.lg i
  t30:a.term≤most
  vote:a.vote=g.voted i a.term
  bc:a.base≤a.commit
  cl:a.commit≤a.log.length
  com:COK g a.log a.commit a.term
  r2:a.role≤2
  cand:a.role=1→g.cl i a.term=a.log∧a.vote=some i∧g.leader a.term≠some i∧1≤a.term∧∀ j,j < 3→a.votes j=true→g.voted j a.term=some i
  ldr:a.role=2→g.leader a.term=some i∧∀ j,j < 3→a.mat j≤g.ack j a.term∧1≤a.next j∧a.next j≤a.log.length+1
/-- a later history, of which node i made something -/
structure Step (g g':Gh) (i:Nat):Prop where
  le:Le g g'
  tm:∀ j,j≠i→g'.tm j=g.tm j
  lg:∀ j,j≠i→g'.lg j=g.lg j
  voted:∀ j T,j≠i→g'.voted j T=g.voted j T
  lead:∀ j T,j≠i→g'.leader T=some j→g.leader T=some j
theorem Step.refl (g:Gh)(i:Nat):Step g g i:=⟨.refl g,fun _ _=>rfl,fun _ _=>rfl,fun _ _ _=>rfl,fun _ _ _ h=>h⟩
theorem Step.trans {a b c:Gh}{i:Nat}(h:Step a b i)(k:Step b c i):Step a c i :=
  ⟨h.le.trans k.le,fun j e=>(k.tm j e).trans (h.tm j e),fun j e=>(k.lg j e).trans (h.lg j e),fun j T e=>(k.voted j T e).trans (h.voted j T e),fun j T e x=>h.lead j T e (k.lead j T e x)⟩
theorem bump_step (g:Gh)(i T:Nat)(h:g.tm i≤T):Step g (bump g i T) i:=⟨bump_le g i T h,fun j e=>by simp [bump,up,e],fun _ _=>rfl,fun _ _ _=>rfl,fun _ _ _ h=>h⟩
theorem vote_step {g:Gh}{i c:Nat}(hn:g.voted i (g.tm i)=none):Step g (vote g i c) i:=⟨vote_le hn,fun _ _=>rfl,fun _ _=>rfl,fun j T e=>by simp [vote,up2,e],fun _ _ _ h=>h⟩
theorem stand_step {g:Gh}{B i:Nat}(h:GI g B):Step g (stand g i) i:=⟨stand_le h,fun j e=>by simp [stand,Raft.vote,bump,cand,up,e],fun _ _=>rfl,fun j T e=>by simp [stand,Raft.vote,bump,cand,up2,e],fun _ _ _ h=>h⟩
theorem elect_step {g:Gh}{B i:Nat}{e:E}(h:GI g B)(hn:g.leader (g.tm i)=none):Step g (elect g i e) i :=
  ⟨elect_le h hn,fun _ _=>rfl,fun j e=>by simp [elect,up,e],fun _ _ _=>rfl,fun j T e h=>by
    by_cases hT:T=g.tm i
    · subst hT;simp [elect] at h;exact absurd h.symm e
    · simpa [elect,up,hT] using h⟩
theorem append_step {g:Gh}{B i:Nat}{e:E}(h:GI g B)(hl:g.leader (g.tm i)=some i):Step g (append g i e) i :=
  ⟨append_le h hl,fun _ _=>rfl,fun j e=>by simp [append,up,e],fun _ _ _=>rfl,fun _ _ _ h=>h⟩
theorem accept_step (g:Gh)(i:Nat)(L:Lg)(n:Nat):Step g (accept g i L n) i:=⟨accept_le g i L n,fun _ _=>rfl,fun j e=>by simp [accept,up,e],fun _ _ _=>rfl,fun _ _ _ h=>h⟩
theorem GI.more {g:Gh}{B C:Nat}(h:GI g B)(hBC:B≤C):GI g C:={ h with size:=fun T c hc=>Nat.le_trans (h.size T c hc) hBC }
theorem lg_len {g:Gh}{B j:Nat}(h:GI g B):(g.lg j).length≤B:=by
  rcases Nat.eq_zero_or_pos (g.lg j).length with h0 | h0
  · omega
  · obtain ⟨a,b,_⟩:=h.canonL j _ h0 (Nat.le_refl _)
    obtain ⟨c,hc⟩:=Option.isSome_iff_exists.1 a
    have:=h.size _ c hc
    omega
theorem NI.mono {g g':Gh}{i j:Nat}{a:AN}(h:NI g j a)(hs:Step g g' i)(hj:j≠i):NI g' j a:=by
  refine ⟨h.id,h.i3,h.tm.trans (hs.tm j hj).symm,h.lg.trans (hs.lg j hj).symm,h.t30,h.vote.trans (hs.voted j _ hj).symm,h.bc,h.cl,h.com.mono hs.le (Nat.le_refl _),h.r2,?_,?_⟩
  · intro hr
    obtain ⟨x,y,z,w,v⟩:=h.cand hr
    have hv:g.voted j a.term=some j:=by rw [← h.vote,y]
    exact ⟨(hs.le.cl j _ j hv).trans x,y,fun e=>z (hs.lead j _ hj e),w,fun k hk hkv=>hs.le.voted _ _ _ (v k hk hkv)⟩
  · intro hr
    obtain ⟨x,y⟩:=h.ldr hr
    exact ⟨hs.le.leader _ _ x,fun k hk=>⟨Nat.le_trans (y k hk).1 (hs.le.ack k _),(y k hk).2⟩⟩
theorem drop_take_prefix {L M:Lg}(h:L <+: M){k n:Nat}(hn:k+n≤L.length):(M.drop k).take n=(L.drop k).take n:=by
  obtain ⟨R,rfl⟩:=h
  rw [List.drop_append_of_le_length (by omega),List.take_append_of_le_length (by simp;omega)]
theorem MI.mono {g g':Gh}{B C:Nat}{m:AM}(h:MI g B m)(hg:Le g g')(hBC:B≤C):MI g' C m:=by
  refine ⟨h.src,h.dst,h.ne,h.t30,?_⟩
  have hs:=h.says
  cases m with
  | vote s d t idx lt =>
    obtain ⟨x,y,z,w⟩:=hs
    have:=hg.cl s t s x
    exact ⟨hg.voted _ _ _ x,by rw [this];exact y,by rw [this];exact z,by omega⟩
  | voted s d t y=>exact fun e=>hg.voted _ _ _ (hs e)
  | add s d t idx lt es c =>
    obtain ⟨x1,x2,x3,x4,x5,x6⟩:=hs
    have hl:(g.leader t).isSome:=by rw [x1];rfl
    have hp:=hg.tl t s x1
    refine ⟨hg.leader _ _ x1,Nat.le_trans x2 hp.length_le,?_,?_,Nat.le_trans x5 hp.length_le,?_⟩
    · rw [x3];exact (tAt_eq (hg.take hl (k:=idx) (by omega)).1 (Nat.le_refl _)).symm
    · rw [drop_take_prefix hp x2];exact x4
    · exact (x6.mono hg (Nat.le_refl _)).of_take (hg.take hl x5).1
  | added s d t y idx=>exact ⟨fun e=>Nat.le_trans (hs.1 e) (hg.ack s t),Nat.le_trans hs.2 hBC⟩
  | snap s d t idx lt pre b =>
    obtain ⟨x1,x2,x3,x4,x5⟩:=hs
    have hl:(g.leader t).isSome:=by rw [x1];rfl
    have hp:=hg.tl t s x1
    refine ⟨hg.leader _ _ x1,Nat.le_trans x2 hp.length_le,?_,?_,?_⟩
    · rw [x3];exact (tAt_eq (hg.take hl (k:=idx) (by omega)).1 (Nat.le_refl _)).symm
    · rw [(hg.take hl x2).1];exact x4
    · exact (x5.mono hg (Nat.le_refl _)).of_take (hg.take hl x2).1
/- What nodes do. -/
def others:Nat→List Nat
  | 0=>[1,2]
  | 1=>[0,2]
  | _=>[0,1]
theorem others_mem {i j:Nat}(hi:i < 3)(h:j∈others i):j < 3∧i≠j:=by
  match i,hi,h with
  | 0,_,h=>simp [others] at h;omega
  | 1,_,h=>simp [others] at h;omega
  | 2,_,h=>simp [others] at h;omega
def owe (a:AN)(to:Nat):AM :=
  if a.next to≤a.base then .snap a.id to a.term a.base (tAt a.log a.base) (a.log.take a.base) a.snap
  else .add a.id to a.term (a.next to - 1) (tAt a.log (a.next to - 1)) ((a.log.drop (a.next to - 1)).take 8) a.commit
def standA (a:AN):AN×List AM :=
  ({ a with role:=1,vote:=some a.id,wait:=0,term:=a.term+1,votes:=fun j=>j == a.id },(others a.id).map fun to=>.vote a.id to (a.term+1) a.log.length (lastT a.log))
def tick (a:AN):AN×List AM :=
  if a.role=2 then (a,(others a.id).map (owe a))
  else if a.wait+1≥5+3 * a.id∧a.term < most then standA a
  else ({ a with wait:=a.wait+1 },[])
def bumpA (a:AN)(t:Nat):AN:=if t > a.term then { a with term:=t,vote:=none,role:=0,votes:=fun _=>false } else a
def takeVote (a:AN)(src t idx lt:Nat):AN×List AM :=
  if t=a.term∧(a.vote=none∨a.vote=some src)∧(lt > lastT a.log∨(lt=lastT a.log∧idx≥a.log.length)) then ({ a with vote:=some src,wait:=0 },[.voted a.id src a.term true])
  else (a,[.voted a.id src a.term false])
def cnt (f:Nat→Bool):Nat:=(if f 0 then 1 else 0)+(if f 1 then 1 else 0)+(if f 2 then 1 else 0)
def takeVoted (a:AN)(src t:Nat)(yes:Bool):AN×List AM :=
  if t=a.term∧a.role=1∧yes=true then
    if cnt (up a.votes src true) < 2 then ({ a with votes:=up a.votes src true },[])
    else
      let c:AN:={ a with votes:=up a.votes src true,role:=2,log:=a.log++[(a.term,ByteArray.empty)],next:=fun _=>a.log.length+1,mat:=up (fun _=>0) a.id (a.log.length+1) }
      (c,(others a.id).map (owe c))
  else (a,[])
/-- entries laid from a place on -/
def merge (L:Lg)(k:Nat):Lg→Lg
  | []=>L
  | e::r=>match L[k]? with
    | some x=>if x.1=e.1 then merge L (k+1) r else merge (L.take k++[e]) (k+1) r
    | none=>merge (L.take k++[e]) (k+1) r
def takeAdd (a:AN)(src t idx lt:Nat)(es:Lg)(c:Nat):AN×List AM :=
  if t < a.term then (a,[.added a.id src a.term false 0])
  else if idx < a.base then ({ a with role:=0,wait:=0 },[.added a.id src a.term true a.base])
  else if idx > a.log.length∨tAt a.log idx≠lt then ({ a with role:=0,wait:=0 },[.added a.id src a.term false (min a.log.length (idx - 1))])
  else ({ a with role:=0,wait:=0,log:=merge a.log idx es,commit:=max a.commit (min c (idx+es.length)) },[.added a.id src a.term true (idx+es.length)])
def two (m:Nat→Nat)(k:Nat):Bool:=(k≤m 0 && k≤m 1) || (k≤m 0 && k≤m 2) || (k≤m 1 && k≤m 2)
/-- what two hold is committed -/
def reach (m:Nat→Nat)(T:Nat)(L:Lg)(base:Nat):Nat→Nat→Nat
  | 0,c=>c
  | n+1,c =>
    let d:=reach m T L base n c
    if two m (base+n+1)=true∧tAt L (base+n+1)=T then max d (base+n+1) else d
def takeHeard (a:AN)(src t:Nat)(yes:Bool)(idx:Nat):AN×List AM :=
  if t=a.term∧a.role=2 then
    if yes=true then
      ({ a with mat:=up a.mat src (max (a.mat src) idx),next:=up a.next src (max (a.mat src) idx+1),commit:=reach (up a.mat src (max (a.mat src) idx)) a.term a.log a.base (a.log.length - a.base) a.commit },[])
    else
      let b:AN:={ a with next:=up a.next src (max (max (min (a.next src - 1) (idx+1)) 1) (a.mat src+1)) }
      if b.next src≤a.log.length then (b,[owe b src]) else (b,[])
  else (a,[])
def takeSnap (a:AN)(src t idx lt:Nat)(pre:Lg)(s:ByteArray):AN×List AM :=
  if t < a.term then (a,[.added a.id src a.term false 0])
  else if idx > a.commit then
    ({ a with role:=0,wait:=0,log:=if idx≤a.log.length∧idx > a.base∧tAt a.log idx=lt then a.log else pre,base:=idx,snap:=s,commit:=idx },[.added a.id src a.term true (max idx a.commit)])
  else ({ a with role:=0,wait:=0 },[.added a.id src a.term true (max idx a.commit)])
def take (a:AN):AM→AN×List AM
  | .vote s _ t idx lt=>takeVote (bumpA a t) s t idx lt
  | .voted s _ t y=>takeVoted (bumpA a t) s t y
  | .add s _ t idx lt es c=>takeAdd (bumpA a t) s t idx lt es c
  | .added s _ t y idx=>takeHeard (bumpA a t) s t y idx
  | .snap s _ t idx lt pre b=>takeSnap (bumpA a t) s t idx lt pre b
def propose (a:AN)(cmd:ByteArray):AN:={ a with log:=a.log++[(a.term,cmd)],mat:=up a.mat a.id (a.log.length+1) }
def compact (a:AN)(idx:Nat)(s:ByteArray):AN:={ a with base:=idx,snap:=s }
def wake (a:AN):AN:={ a with role:=0,wait:=0,votes:=fun _=>false,next:=fun _=>0,mat:=fun _=>0 }
/-- what an act must bring about -/
def Good (g:Gh)(B i:Nat)(r:AN×List AM):Prop:=∃ g',GI g' (B+1)∧Step g g' i∧NI g' i r.1∧∀ m∈r.2,MI g' (B+1) m
theorem Good.same {g:Gh}{B i:Nat}{r:AN×List AM}(h:GI g B)(hn:NI g i r.1)(hm:∀ m∈r.2,MI g (B+1) m):Good g B i r:=⟨g,h.more (Nat.le_succ B),.refl g i,hn,hm⟩
theorem owe_ok {g:Gh}{B i to:Nat}{a:AN}(h:GI g B)(hn:NI g i a)(hr:a.role=2)(hto:to < 3)(hne:i≠to):MI g B (owe a to):=by
  obtain ⟨hl,hj⟩:=hn.ldr hr
  have hlg:a.log=g.tl a.term:=by rw [hn.lg,hn.tm];exact h.ownL _ i (by rw [← hn.tm];exact hl) rfl
  obtain ⟨_,h1,h2⟩:=hj to hto
  have hbc:=hn.bc
  have hcl:=hn.cl
  have hid:=hn.id
  unfold owe
  split
  · refine ⟨by rw [AM.src,hid];exact hn.i3,hto,by rw [AM.src,AM.dst,hid];exact hne,hn.t30,?_⟩
    refine ⟨by rw [hid];exact hl,by rw [← hlg];omega,by rw [hlg],by rw [hlg],?_⟩
    rw [← hlg]
    exact hn.com.less hbc
  · refine ⟨by rw [AM.src,hid];exact hn.i3,hto,by rw [AM.src,AM.dst,hid];exact hne,hn.t30,?_⟩
    refine ⟨by rw [hid];exact hl,by rw [← hlg];simp;omega,by rw [hlg],?_,by rw [← hlg];exact hcl,by rw [← hlg];exact hn.com⟩
    rw [← hlg,List.length_take,List.length_drop]
    rw [List.take_eq_take_iff]
    simp
theorem tick_ok {g:Gh}{B i:Nat}{a:AN}(h:GI g B)(hn:NI g i a):Good g B i (tick a):=by
  unfold tick
  split
  · rename_i hr
    refine .same h hn fun m hm=>?_
    obtain ⟨to,hto,rfl⟩:=List.mem_map.1 hm
    rw [hn.id] at hto
    have:=others_mem hn.i3 hto
    exact (owe_ok h hn hr this.1 this.2).mono (.refl g) (Nat.le_succ B)
  · split
    · rename_i hw
      have hs:=stand_step (i:=i) h
      have hg:=stand_ok h hn.i3
      have htm:(stand g i).tm i=g.tm i+1:=by simp [stand,Raft.vote,bump,cand]
      have hv:(stand g i).voted i (g.tm i+1)=some i:=by simp [stand,Raft.vote,bump,cand]
      have hc:(stand g i).cl i (g.tm i+1)=a.log:=by simp [stand,Raft.vote,bump,cand,hn.lg]
      have hid:=hn.id
      have htme:=hn.tm
      refine ⟨stand g i,hg.more (Nat.le_succ B),hs,?_,?_⟩
      · refine ⟨hid,hn.i3,?_,?_,?_,?_,hn.bc,hn.cl,?_,by simp [standA],?_,by simp [standA]⟩
        · rw [htm];simp only [standA];omega
        · exact hn.lg
        · simp only [standA];omega
        · simp only [standA];rw [htme,hv,hid]
        · exact hn.com.mono hs.le (by simp only [standA];omega)
        · intro _
          simp only [standA]
          rw [htme]
          refine ⟨hc,by rw [hid],?_,by omega,?_⟩
          · intro hl
            have:=(h.lead _ i hl).2.1
            omega
          · intro j _ hj
            simp only [beq_iff_eq] at hj
            rw [hj,hid]
            exact hv
      · intro m hm
        simp only [standA] at hm
        obtain ⟨to,hto,rfl⟩:=List.mem_map.1 hm
        rw [hid] at hto
        have:=others_mem hn.i3 hto
        refine ⟨by rw [AM.src,hid];exact hn.i3,this.1,by rw [AM.src,AM.dst,hid];exact this.2,by rw [AM.term];omega,?_⟩
        rw [hid,htme]
        have hln:=lg_len (j:=i) h
        rw [← hn.lg] at hln
        exact ⟨hv,by rw [hc],by rw [hc],by omega⟩
    · refine .same h ?_ (by simp)
      exact { hn with ldr:=hn.ldr,cand:=hn.cand }
theorem bumpA_ok {g:Gh}{B i t:Nat}{a:AN}(h:GI g B)(hn:NI g i a)(ht:t≤most):∃ g',GI g' B∧Step g g' i∧NI g' i (bumpA a t)∧t≤(bumpA a t).term:=by
  unfold bumpA
  split
  · rename_i hlt
    have hlt':g.tm i < t:=by rw [← hn.tm];exact hlt
    have hs:=bump_step g i t (by omega)
    refine ⟨bump g i t,bump_ok h hlt',hs,?_,Nat.le_refl _⟩
    refine ⟨hn.id,hn.i3,by simp [bump],hn.lg,ht,?_,hn.bc,hn.cl,hn.com.mono hs.le (by simp only;omega),by simp,by simp,by simp⟩
    simp only [bump]
    cases hv:g.voted i t with
    | none=>rfl
    | some c=>have:=(h.vt i t c hv).2.1;omega
  · exact ⟨g,h,.refl g i,hn,by omega⟩
theorem Good.after {g g':Gh}{B i:Nat}{r:AN×List AM}(hs:Step g g' i)(h:Good g' B i r):Good g B i r:=by
  obtain ⟨g2,h1,h2,h3,h4⟩:=h
  exact ⟨g2,h1,hs.trans h2,h3,h4⟩
theorem takeVote_ok {g:Gh}{B i s t idx lt:Nat}{a:AN}(h:GI g B)(hn:NI g i a)(hm:MI g B (.vote s i t idx lt)):Good g B i (takeVote a s t idx lt):=by
  obtain ⟨hsv,hidx,hlt,_⟩:=hm.says
  have hs3:s < 3:=hm.src
  have hne:s≠i:=hm.ne
  unfold takeVote
  split
  · rename_i hy
    obtain ⟨ht,hv,hu⟩:=hy
    subst ht
    obtain ⟨_,_,_,w4,_,_,w7,w8⟩:=h.vt s _ s hsv
    rcases hv with hv | hv
    · have hnv:g.voted i (g.tm i)=none:=by rw [← hn.tm,← hn.vote];exact hv
      have hst:=vote_step (c:=s) hnv
      have htm:=hn.tm
      have hup:upTo (g.cl s (g.tm i)) (g.lg i):=by
        rw [← hn.lg,← htm]
        unfold upTo
        rw [← hidx,← hlt]
        exact hu
      have hg:=vote_ok h hn.i3 hnv hs3 (by rw [← htm];exact w4) (.inr (by rw [← htm];exact hsv)) hup (by rw [← htm];exact w7) (by rw [← htm];exact w8)
      have hvv:(Raft.vote g i s).voted i a.term=some s:=by simp [Raft.vote,htm]
      refine ⟨Raft.vote g i s,hg.more (Nat.le_succ B),hst,?_,?_⟩
      · refine ⟨hn.id,hn.i3,hn.tm,hn.lg,hn.t30,hvv.symm,hn.bc,hn.cl,hn.com.mono hst.le (Nat.le_refl _),hn.r2,?_,?_⟩
        · intro hr
          have:=(hn.cand hr).2.1
          rw [hv] at this;cases this
        · intro hr
          obtain ⟨x,y⟩:=hn.ldr hr
          exact ⟨x,y⟩
      · intro m hm'
        simp only [List.mem_singleton] at hm'
        subst hm'
        exact ⟨by rw [AM.src,hn.id];exact hn.i3,hs3,by rw [AM.src,AM.dst,hn.id];exact fun e=>hne e.symm,hn.t30,fun _=>by rw [hn.id];exact hvv⟩
    · have hvv:g.voted i a.term=some s:=by rw [← hn.vote];exact hv
      refine .same h ?_ ?_
      · exact ⟨hn.id,hn.i3,hn.tm,hn.lg,hn.t30,hvv.symm,hn.bc,hn.cl,hn.com,hn.r2,fun hr=>by
          obtain ⟨x1,x2,x3,x4,x5⟩:=hn.cand hr
          exact ⟨x1,by rw [← x2];exact hv.symm,x3,x4,x5⟩,hn.ldr⟩
      · intro m hm'
        simp only [List.mem_singleton] at hm'
        subst hm'
        exact ⟨by rw [AM.src,hn.id];exact hn.i3,hs3,by rw [AM.src,AM.dst,hn.id];exact fun e=>hne e.symm,hn.t30,fun _=>by rw [hn.id];exact hvv⟩
  · refine .same h hn ?_
    intro m hm'
    simp only [List.mem_singleton] at hm'
    subst hm'
    exact ⟨by rw [AM.src,hn.id];exact hn.i3,hs3,by rw [AM.src,AM.dst,hn.id];exact fun e=>hne e.symm,hn.t30,fun e=>by cases e⟩
end Go.Raft
