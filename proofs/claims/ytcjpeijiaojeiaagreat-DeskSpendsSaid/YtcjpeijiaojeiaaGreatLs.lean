/- DeskSpends on typed data. -/
import Derived.Test.YtcjpeijiaojeiaaGreatR
import Derived.Test.YtcjpeijiaojeiaaGreatQs
namespace Go.Proofs.YtcjpeijiaojeiaaGreat
open Go Go.Ev
set_option maxRecDepth 100000
/-- what is left up, down, the last number, the desk -/
abbrev Sst:=Int×Int×Int×Desk
abbrev Sout:=(List Int×Bool×Int×Int×Int×Int×Desk)⊕((Bool×Int×Int×Desk)⊕(Bool×Int×Int×Desk))
def spendsRel (l:List Int)(b:Bool)(i:Int):Sout→Sout
  | .inl (_,_,u,v,q,_,d)=>.inl (l,b,u,v,q,w64 (i+1),d)
  | .inr y=>.inr y
theorem spendsK_par (l:List Int)(b:Bool)(u v q i:Int)(d:Desk)(n:Int):spendsK l b u v q i d n=(spendsK [] false u v q 0 d n).map (spendsRel l b i):=by
  unfold spendsK
  simp only [map_ob,map_cond,Option.map_some,spendsRel]
def spendsStep (s:Sst)(n:Int):Option Sst:=match spendsK [] false s.1 s.2.1 s.2.2.1 0 s.2.2.2 n with
  | some (.inl (_,_,u,v,q,_,d))=>some (u,v,q,d)
  | _=>none
theorem spendsStep_eq {s s':Sst}{n:Int}(h:spendsStep s n=some s')(l:List Int)(b:Bool)(i:Int):spendsK l b s.1 s.2.1 s.2.2.1 i s.2.2.2 n=some (.inl (l,b,s'.1,s'.2.1,s'.2.2.1,w64 (i+1),s'.2.2.2)):=by
  rw [spendsK_par]
  unfold spendsStep at h
  split at h
  · rename_i l' b' u v q j d heq
    cases h
    rw [heq]
    rfl
  · cases h
/-- what may come; 4 does what 6 does -/
def spIn:List Nat:=[0,1,2,3,5,6,7,8]
theorem spends_46 (s:Sst):spendsStep s 4=spendsStep s 6:=by kernel_rfl
/-- all that may come within k more that go through is well -/
def spendsChk:Nat→Sst→Bool
  | 0,s=>isT (spendsTail (false,s.1,s.2.1,s.2.2.2)) && spIn.all fun n=>match spendsStep s (n:Int) with | some s'=>decide (s'=s) | none=>false
  | k+1,s=>isT (spendsTail (false,s.1,s.2.1,s.2.2.2)) && spIn.all fun n=>match spendsStep s (n:Int) with | some s'=>cond (s'.2.2.1 == s.2.2.1) (decide (s'=s)) (spendsChk k s') | none=>false
theorem tail_b (b:Bool)(u v:Int)(d:Desk):spendsTail (b,u,v,d)=spendsTail (false,u,v,d):=rfl
theorem spends_chk {k:Nat}{s:Sst}(h:spendsChk k s=true):isT (spendsTail (false,s.1,s.2.1,s.2.2.2))=true∧∀ x:Int,∃ s' k',spendsStep s (x % 9)=some s'∧spendsChk k' s'=true:=by
  have key:∀ {P:Nat→Bool},spIn.all P=true→∀ x:Int,∃ m:Nat,spendsStep s (x % 9)=spendsStep s (m:Int)∧P m=true:=by
    intro P hP x
    have a1:=Int.emod_nonneg x (by omega:(9:Int)≠0)
    have a2:=Int.emod_lt_of_pos x (by omega:(0:Int) < 9)
    by_cases h4:x % 9=4
    · exact ⟨6,by rw [h4];exact spends_46 s,List.all_eq_true.1 hP 6 (by decide)⟩
    · refine ⟨(x % 9).toNat,by rw [show (((x % 9).toNat:Nat):Int)=x % 9 by omega],List.all_eq_true.1 hP (x % 9).toNat ?_⟩
      have:(x % 9).toNat=0∨(x % 9).toNat=1∨(x % 9).toNat=2∨(x % 9).toNat=3∨(x % 9).toNat=5∨(x % 9).toNat=6∨(x % 9).toNat=7∨(x % 9).toNat=8:=by omega
      rcases this with h | h | h | h | h | h | h | h<;>rw [h]<;>decide
  cases k with
  | zero =>
    have h0:=h
    simp only [spendsChk,Bool.and_eq_true] at h
    refine ⟨h.1,fun x=>?_⟩
    obtain ⟨m,hm,h1⟩:=key h.2 x
    split at h1
    · rename_i s' heq
      exact ⟨s',0,hm.trans heq,(of_decide_eq_true h1) ▸ h0⟩
    · cases h1
  | succ k =>
    have h0:=h
    simp only [spendsChk,Bool.and_eq_true] at h
    refine ⟨h.1,fun x=>?_⟩
    obtain ⟨m,hm,h1⟩:=key h.2 x
    split at h1
    · rename_i s' heq
      cases hc:(s'.2.2.1 == s.2.2.1) with
      | true=>rw [hc,cond_true] at h1;exact ⟨s',k+1,hm.trans heq,(of_decide_eq_true h1) ▸ h0⟩
      | false=>rw [hc,cond_false] at h1;exact ⟨s',k,hm.trans heq,h1⟩
    · cases h1
theorem spends_loop (l:List Int)(s:Sst)(k:Nat)(hs:spendsChk k s=true):∃ y,L10_6 l false s.1 s.2.1 s.2.2.1 0 s.2.2.2=some y∧∃ b t,y=.inl (b,t.1,t.2.1,t.2.2.2)∧isT (spendsTail (false,(t:Sst).1,t.2.1,t.2.2.2))=true:=by
  refine iter_inv (stp:=stp_L10_6) (Inv:=fun m x=>∃ (i:Nat) (b:Bool) (s:Sst) (k:Nat),min l.length 15=i+m∧spendsChk k s=true∧x=(l,b,s.1,s.2.1,s.2.2.1,(i:Int),s.2.2.2)) (Post:=fun y=>∃ b t,y=.inl (b,t.1,t.2.1,t.2.2.2)∧isT (spendsTail (false,(t:Sst).1,t.2.1,t.2.2.2))=true) ?_ ?_ (min l.length 15) (((l.length:Int) - 0).toNat+2) _ ⟨0,false,s,k,by omega,hs,rfl⟩ (by omega)
  · rintro x ⟨i,b,s,k,hm,hs,rfl⟩
    have hx:(cond (decide ((i:Int) < (l.length:Int))) (decide ((i:Int) < 15)) false)=false:=by
      cases h:decide ((i:Int) < (l.length:Int)) with
      | false=>rfl
      | true=>simp at h ⊢;omega
    exact ⟨_,by simp only [stp_L10_6,step_L10_6,hx,cond_false],b,s,rfl,(spends_chk hs).1⟩
  · rintro m x ⟨i,b,s,k,hm,hs,rfl⟩
    have hi:i < l.length:=by omega
    have e1:decide ((i:Int) < (l.length:Int))=true:=decide_eq_true (by omega)
    have e2:decide ((i:Int) < 15)=true:=decide_eq_true (by omega)
    have e3:decide (0≤(i:Int))=true:=by simp
    have hxs:l[((i:Int)).toNat]?=some l[i]:=by simp [hi]
    have hw:w64 ((i:Int)+1)=((i+1:Nat):Int):=w64_id (by omega) (by omega)
    obtain ⟨s',k',h1,h2⟩:=(spends_chk hs).2 l[i]
    have hk:=spendsStep_eq h1 l b i
    refine ⟨(l,b,s'.1,s'.2.1,s'.2.2.1,((i+1:Nat):Int),s'.2.2.2),?_,i+1,b,s',k',by omega,h2,rfl⟩
    simp only [stp_L10_6,step_L10_6,e1,e2,e3,hxs,cond_true,ob_some,within_eq (a:=l[i]) (n:=9) (by omega) (by omega)]
    rw [hw] at hk
    exact hk
def spends0:Option Sst:=match begun with | some d=>some (4,3,0,d) | none=>none
theorem spendsChk_succ:∀ {k:Nat} {s:Sst},spendsChk k s=true→spendsChk (k+1) s=true
  | 0,s,h=>by
    simp only [spendsChk,Bool.and_eq_true] at h ⊢
    refine ⟨h.1,List.all_eq_true.2 fun n hn=>?_⟩
    have:=List.all_eq_true.1 h.2 n hn
    split at this
    · rename_i s' heq
      have e:=of_decide_eq_true this
      try rw [heq]
      simp only [e,beq_self_eq_true,cond_true,decide_true]
    · cases this
  | k+1,s,h=>by
    have h0:=h
    unfold spendsChk at h ⊢
    simp only [Bool.and_eq_true] at h ⊢
    refine ⟨h.1,List.all_eq_true.2 fun n hn=>?_⟩
    have:=List.all_eq_true.1 h.2 n hn
    split at this
    · rename_i s' heq
      try rw [heq]
      cases hc:(s'.2.2.1 == s.2.2.1) with
      | true=>rw [hc,cond_true] at this;exact this
      | false=>rw [hc,cond_false] at this;exact spendsChk_succ this
    · cases this
def spAt (p:List Nat):Option Sst:=p.foldl (fun o (n:Nat)=>ob o fun s=>spendsStep s (n:Int)) spends0
def spChk (k:Nat)(p:List Nat):Bool:=match spAt p with | some s=>spendsChk k s | none=>false
def spNode (acc p:List Nat):Bool:=match spAt p with
  | some s=>isT (spendsTail (false,s.1,s.2.1,s.2.2.2)) && spIn.all fun n=>match spendsStep s (n:Int) with | some s'=>cond (acc.any (Nat.beq n)) (!(s'.2.2.1 == s.2.2.1)) (decide (s'=s)) | none=>false
  | none=>false
theorem spChk_le {k m:Nat}{p:List Nat}(hk:k≤m)(h:spChk k p=true):spChk m p=true:=by
  obtain ⟨j,rfl⟩:∃ j,m=k+j:=⟨m - k,by omega⟩
  unfold spChk at h ⊢
  split at h
  · rename_i s heq
    clear hk
    induction j with
    | zero=>exact h
    | succ j ih=>exact spendsChk_succ ih
  · cases h
theorem spChk_of {acc p:List Nat}{k:Nat}(h:spNode acc p=true)(hs:∀ n∈acc,spChk k (p++[n])=true):spChk (k+1) p=true:=by
  unfold spNode at h
  unfold spChk
  split at h
  · rename_i s heq
    unfold spendsChk
    rw [Bool.and_eq_true] at h ⊢
    refine ⟨h.1,List.all_eq_true.2 fun n hn=>?_⟩
    have h1:=List.all_eq_true.1 h.2 n hn
    split at h1
    · rename_i s' heq'
      try rw [heq']
      cases ha:acc.any (Nat.beq n) with
      | true =>
        rw [ha,cond_true] at h1
        obtain ⟨m,hm,he⟩:=List.any_eq_true.1 ha
        have:n=m:=Nat.eq_of_beq_eq_true he
        subst this
        have h2:=hs n hm
        unfold spChk spAt at h2
        rw [List.foldl_append] at h2
        unfold spAt at heq
        rw [heq] at h2
        simp only [List.foldl_cons,List.foldl_nil,ob_some,heq'] at h2
        rw [Bool.not_eq_true'] at h1
        simp only [h1,cond_false]
        exact h2
      | false =>
        rw [ha,cond_false] at h1
        have e:=of_decide_eq_true h1
        simp only [e,beq_self_eq_true,cond_true,decide_true]
    · cases h1
  · cases h
theorem deskSpends_of {k:Nat}(h:spChk k []=true)(l:List Int):deskSpends l=some true:=by
  unfold spChk at h
  split at h
  · rename_i s heq
    have heq:spends0=some s:=heq
    unfold spends0 at heq
    cases hd:begun with
    | none=>rw [hd] at heq;cases heq
    | some d =>
      rw [hd] at heq
      cases heq
      obtain ⟨y,hy,b,t,rfl,ht⟩:=spends_loop l (4,3,0,d) k h
      rw [deskSpends,known_true,ob_some,Bool.not_true,cond_false,hd,ob_some]
      simp only at hy
      rw [hy,ob_some,two_inl]
      have:=isT_eq ht
      rw [← tail_b b] at this
      exact this
  · cases h
end Go.Proofs.YtcjpeijiaojeiaaGreat
