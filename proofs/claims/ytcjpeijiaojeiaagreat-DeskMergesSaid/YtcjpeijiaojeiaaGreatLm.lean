/- DeskMerges on typed data. -/
import Derived.Test.YtcjpeijiaojeiaaGreatR
import Derived.Test.YtcjpeijiaojeiaaGreatQm
namespace Go.Proofs.YtcjpeijiaojeiaaGreat
open Go Go.Ev
set_option maxRecDepth 100000
abbrev Mst:=Int×Desk
abbrev Mout:=(List Int×List Int×Bool×Int×Int×Desk)⊕((Bool×Desk)⊕(Bool×Desk))
abbrev Mpre:=List Int×List Int×Bool×Int×Int×Int×Int×Desk×Cmd
def mergesRel (l m:List Int)(b:Bool)(i:Int):Mout→Mout
  | .inl (_,_,_,n,_,d)=>.inl (l,m,b,n,w64 (i+1),d)
  | .inr y=>.inr y
theorem mergesK_par (l m:List Int)(b:Bool)(n i f k:Int)(d:Desk)(c:Cmd):mergesK (l,m,b,n,i,f,k,d,c)=(mergesK ([],[],false,n,0,f,k,d,c)).map (mergesRel l m b i):=by
  unfold mergesK
  simp only [map_ob,map_cond,Option.map_some,mergesRel]
/-- the operations of a piece -/
def mergesOps (f:Int):Nat→Option (List Op)
  | 0=>some []
  | k+1=>ob (mergesOps f k) fun l=>ob (l13_step (w64 (f+((k:Int)+1))) 2 0) fun o=>cond (fits (l++[o]).length) (some (l++[o])) none
theorem merges_build (l m:List Int)(b:Bool)(n i f:Int)(k:Nat)(d:Desk)(hk:k < 1000){ops:List Op}(h:mergesOps f k=some ops):L9_11 l m b n i f (k:Int) 1 d (Cmd.mk 3 0 1 0 0 [] [])=some (l,m,b,n,i,f,(k:Int),d,Cmd.mk 3 0 1 0 0 [] ops):=by
  have key:∀ r j o,j+r=k→mergesOps f j=some o→∀ fuel,r < fuel→iterO stp_L9_11 fuel (l,m,b,n,i,f,(k:Int),(j:Int)+1,d,Cmd.mk 3 0 1 0 0 [] o)=some (l,m,b,n,i,f,(k:Int),d,Cmd.mk 3 0 1 0 0 [] ops):=by
    intro r
    induction r with
    | zero =>
      intro j o hj ho fuel hf
      obtain ⟨fuel,rfl⟩:∃ n,fuel=n+1:=⟨fuel - 1,by omega⟩
      have e:decide ((j:Int)+1≤(k:Int))=false:=by simp;omega
      have:j=k:=by omega
      subst this
      rw [h] at ho
      cases ho
      simp only [iterO,stp_L9_11,step_L9_11,e,cond_false,ob_some,two]
    | succ r ih =>
      intro j o hj ho fuel hf
      obtain ⟨fuel,rfl⟩:∃ n,fuel=n+1:=⟨fuel - 1,by omega⟩
      have e:decide ((j:Int)+1≤(k:Int))=true:=by simp;omega
      have hlt:∀ q,q≤k→∃ o',mergesOps f q=some o':=by
        intro q hq
        cases hm:mergesOps f q with
        | some o'=>exact ⟨o',rfl⟩
        | none =>
          exfalso
          have:∀ z,mergesOps f (q+z)=none:=by
            intro z
            induction z with
            | zero=>exact hm
            | succ z ihz=>rw [← Nat.add_assoc,mergesOps,ihz];rfl
          have:=this (k - q)
          rw [show q+(k - q)=k by omega,h] at this
          cases this
      obtain ⟨o',ho'⟩:=hlt (j+1) (by omega)
      have h2:=ho'
      rw [mergesOps,ho,ob_some] at h2
      cases hs:l13_step (w64 (f+((j:Int)+1))) 2 0 with
      | none=>rw [hs] at h2;cases h2
      | some x =>
        rw [hs,ob_some] at h2
        cases hf2:fits (o++[x]).length with
        | false=>rw [hf2] at h2;cases h2
        | true =>
          rw [hf2,cond_true] at h2
          cases h2
          have:=ih (j+1) (o++[x]) (by omega) ho' fuel (by omega)
          have hw:w64 ((j:Int)+1+1)=((j+1:Nat):Int)+1:=by rw [w64_id (by omega) (by omega)];omega
          simp only [iterO,stp_L9_11,step_L9_11,e,cond_true,hs,ob_some,hf2,two,hw]
          exact this
  exact key k 0 [] (by omega) rfl _ (by simp;omega)
def mergesStep (s:Mst)(f k:Nat):Option Mst:=match mergesOps f k with
  | some o=>(match mergesK ([],[],false,s.1,0,(f:Int),(k:Int),s.2,Cmd.mk 3 0 1 0 0 [] o) with
    | some (.inl (_,_,_,n,_,d))=>some (n,d)
    | _=>none)
  | none=>none
theorem mergesStep_eq {s s':Mst}{f k:Nat}(h:mergesStep s f k=some s')(hk:k < 1000)(l m:List Int)(b:Bool)(i:Int):(ob (L9_11 l m b s.1 i (f:Int) (k:Int) 1 s.2 (Cmd.mk 3 0 1 0 0 [] [])) mergesK)=some (.inl (l,m,b,s'.1,w64 (i+1),s'.2)):=by
  unfold mergesStep at h
  cases ho:mergesOps f k with
  | none=>rw [ho] at h;cases h
  | some o =>
    rw [ho] at h
    rw [merges_build l m b s.1 i f k s.2 hk ho,ob_some,mergesK_par]
    simp only at h
    split at h
    · rename_i l' m' b' n j d heq
      cases h
      rw [heq]
      rfl
    · cases h
def merges0:Option Mst:=match begun with | some d=>some (0,d) | none=>none
def mergesG (o:Option Mst)(n:Nat):Option Mst:=ob o fun s=>mergesStep s n 1
def ms0:Option Mst:=merges0
def ms1:Option Mst:=mergesG ms0 0
def ms2:Option Mst:=mergesG ms1 1
def ms3:Option Mst:=mergesG ms2 2
def ms4:Option Mst:=mergesG ms3 3
def ms5:Option Mst:=mergesG ms4 4
def ms6:Option Mst:=mergesG ms5 5
def ms7:Option Mst:=mergesG ms6 6
def ms8:Option Mst:=mergesG ms7 7
def ms9:Option Mst:=mergesG ms8 8
def ms10:Option Mst:=mergesG ms9 9
def ms11:Option Mst:=mergesG ms10 10
def ms12:Option Mst:=mergesG ms11 11
def ms13:Option Mst:=mergesG ms12 12
def ms14:Option Mst:=mergesG ms13 13
def ms15:Option Mst:=mergesG ms14 14
def ms16:Option Mst:=mergesG ms15 15
def ms17:Option Mst:=mergesG ms16 16
def ms18:Option Mst:=mergesG ms17 17
def ms19:Option Mst:=mergesG ms18 18
/-- the desk behind n operations -/
def mergesS (n:Nat):Option Mst:=match [ms0,ms1,ms2,ms3,ms4,ms5,ms6,ms7,ms8,ms9,ms10,ms11,ms12,ms13,ms14,ms15,ms16,ms17,ms18,ms19][n]? with | some o=>o | none=>none
def mergesTail (d:Desk):Bool:=match L9_25 false 0 d with | some (.inl _)=>true | _=>false
def mergesNext (n f k:Nat):Nat:=cond (Nat.beq k 0) n (cond (Nat.blt n f) n (Nat.max n (f+k)))
/-- from n operations all that may come is well -/
def mergesRow (n f:Nat):Bool:=match mergesS n with
  | some s=>mergesTail s.2 && (List.range 6).all fun k=>decide (mergesStep s f k=mergesS (mergesNext n f k))
  | none=>false
def mergesAt (n:Nat):Bool:=(List.range 15).all (mergesRow n)
theorem mergesS_step {n f k:Nat}(hf:f < 15)(hk:k < 6)(h:mergesAt n=true):∃ s,mergesS n=some s∧mergesTail s.2=true∧mergesStep s f k=mergesS (mergesNext n f k):=by
  have h1:=List.all_eq_true.1 h f (by simp;omega)
  unfold mergesRow at h1
  cases hs:mergesS n with
  | none=>rw [hs] at h1;cases h1
  | some s =>
    rw [hs] at h1
    simp only [Bool.and_eq_true] at h1
    exact ⟨s,rfl,h1.1,of_decide_eq_true (List.all_eq_true.1 h1.2 k (by simp;omega))⟩
theorem mergesNext_lt {n f k:Nat}(hn:n < 20)(hf:f < 15)(hk:k < 6):mergesNext n f k < 20:=by
  unfold mergesNext
  cases h:Nat.beq k 0 with
  | true=>rw [cond_true];omega
  | false =>
    cases h2:Nat.blt n f with
    | true=>rw [cond_false,cond_true];omega
    | false=>rw [cond_false,cond_false];have:Nat.max n (f+k)=max n (f+k):=rfl;omega
theorem merges_loop (hall:∀ n,n < 20→mergesAt n=true)(l m:List Int)(s:Mst)(n0:Nat)(hn0:n0 < 20)(hs:mergesS n0=some s):∃ y,L9_6 l m false s.1 0 s.2=some y∧∃ d,y=.inl (false,d)∧mergesTail d=true:=by
  refine iter_inv (stp:=stp_L9_6) (Inv:=fun r x=>∃ (i:Nat) (s:Mst) (n:Nat),min (min l.length m.length) 25=i+r∧n < 20∧mergesS n=some s∧x=(l,m,false,s.1,(i:Int),s.2)) (Post:=fun y=>∃ d,y=.inl (false,d)∧mergesTail d=true) ?_ ?_ (min (min l.length m.length) 25) (((l.length:Int) - 0).toNat+2) _ ⟨0,s,n0,by omega,hn0,hs,rfl⟩ (by omega)
  · rintro x ⟨i,s,n,hm,hn,hs,rfl⟩
    have hx:(cond (decide ((i:Int) < (l.length:Int))) (cond (decide ((i:Int) < (m.length:Int))) (decide ((i:Int) < 25)) false) false)=false:=by
      cases h:decide ((i:Int) < (l.length:Int)) with
      | false=>rfl
      | true =>
        cases h2:decide ((i:Int) < (m.length:Int)) with
        | false=>rfl
        | true=>simp at h h2 ⊢;omega
    obtain ⟨s',h1,h2,_⟩:=mergesS_step (f:=0) (k:=0) (by omega) (by omega) (hall n hn)
    rw [hs] at h1
    cases h1
    exact ⟨_,by simp only [stp_L9_6,step_L9_6,hx,cond_false],s.2,rfl,h2⟩
  · rintro r x ⟨i,s,n,hm,hn,hs,rfl⟩
    have hi:i < l.length:=by omega
    have hj:i < m.length:=by omega
    have e1:decide ((i:Int) < (l.length:Int))=true:=decide_eq_true (by omega)
    have e1':decide ((i:Int) < (m.length:Int))=true:=decide_eq_true (by omega)
    have e2:decide ((i:Int) < 25)=true:=decide_eq_true (by omega)
    have e3:decide (0≤(i:Int))=true:=by simp
    have hxs:l[((i:Int)).toNat]?=some l[i]:=by simp [hi]
    have hys:m[((i:Int)).toNat]?=some m[i]:=by simp [hj]
    have hw:w64 ((i:Int)+1)=((i+1:Nat):Int):=w64_id (by omega) (by omega)
    have a1:=Int.emod_nonneg l[i] (by omega:(15:Int)≠0)
    have a2:=Int.emod_lt_of_pos l[i] (by omega:(0:Int) < 15)
    have b1:=Int.emod_nonneg m[i] (by omega:(6:Int)≠0)
    have b2:=Int.emod_lt_of_pos m[i] (by omega:(0:Int) < 6)
    obtain ⟨f,hf⟩:∃ f:Nat,l[i] % 15=(f:Int):=⟨(l[i] % 15).toNat,by omega⟩
    obtain ⟨k,hk⟩:∃ k:Nat,m[i] % 6=(k:Int):=⟨(m[i] % 6).toNat,by omega⟩
    obtain ⟨s1,h1,_,h3⟩:=mergesS_step (f:=f) (k:=k) (by omega) (by omega) (hall n hn)
    rw [hs] at h1
    cases h1
    have hn':=mergesNext_lt (n:=n) (f:=f) (k:=k) hn (by omega) (by omega)
    obtain ⟨s',h4,_,_⟩:=mergesS_step (f:=0) (k:=0) (by omega) (by omega) (hall _ hn')
    rw [h4] at h3
    have hkk:=mergesStep_eq h3 (by omega) l m false i
    refine ⟨(l,m,false,s'.1,((i+1:Nat):Int),s'.2),?_,i+1,s',mergesNext n f k,by omega,hn',h4,rfl⟩
    simp only [stp_L9_6,step_L9_6,e1,e1',e2,e3,hxs,hys,cond_true,ob_some,within_eq (a:=l[i]) (n:=15) (by omega) (by omega),within_eq (a:=m[i]) (n:=6) (by omega) (by omega),hf,hk]
    rw [hw] at hkk
    exact hkk
theorem deskMerges_of (hall:∀ n,n < 20→mergesAt n=true)(l m:List Int):deskMerges l m=some true:=by
  obtain ⟨s,hs,_,_⟩:=mergesS_step (n:=0) (f:=0) (k:=0) (by omega) (by omega) (hall 0 (by omega))
  have h0:merges0=some s:=hs
  unfold merges0 at h0
  cases hd:begun with
  | none=>rw [hd] at h0;cases h0
  | some d =>
    rw [hd] at h0
    cases h0
    obtain ⟨y,hy,d',rfl,ht⟩:=merges_loop hall l m (0,d) 0 (by omega) hs
    rw [deskMerges,known_true,ob_some,Bool.not_true,cond_false,hd,ob_some]
    simp only at hy
    rw [hy,ob_some,two_inl]
    unfold mergesTail at ht
    split at ht
    · rename_i z heq
      rw [heq]
      rfl
    · cases ht
end Go.Proofs.YtcjpeijiaojeiaaGreat
