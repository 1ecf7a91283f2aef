/- DeskLoses on typed data. -/
import Derived.Test.YtcjpeijiaojeiaaGreatP
import Derived.Test.YtcjpeijiaojeiaaGreatQ
namespace Go.Proofs.YtcjpeijiaojeiaaGreat
open Go Go.Ev
set_option maxRecDepth 100000
abbrev Lst:=Int×Int×Cmd×A5Bool
def bnd (x:A5Bool)(r:Int):Bool:=cond (decide (r=0)) x.a0 (cond (decide (r=1)) x.a1 (cond (decide (r=2)) x.a2 (cond (decide (r=3)) x.a3 x.a4)))
def bset (x:A5Bool)(r:Int):A5Bool:=A5Bool.mk (cond (decide (r=0)) true x.a0) (cond (decide (r=1)) true x.a1) (cond (decide (r=2)) true x.a2) (cond (decide (r=3)) true x.a3) (cond (decide (r=4)) true x.a4)
theorem bset_bnd {x:A5Bool}{r:Int}(h0:0≤r)(h5:r < 5)(h:bnd x r=true):bset x r=x:=by
  have:r=0∨r=1∨r=2∨r=3∨r=4:=by omega
  rcases this with rfl | rfl | rfl | rfl | rfl<;>simp [bnd] at h<;>simp [bset,h]<;>cases x<;>simp at h<;>subst h<;>rfl
def losesAdd (s:Lst)(r:Int):Option Lst :=
  ob (l13_step (w64 (s.1+1)) 5 r) fun o =>
  cond (fits ((s.2.2.1.ops++[o]).length)) (some (w64 (s.1+1),w64 (s.2.1+1),Cmd.mk s.2.2.1.kind s.2.2.1.device s.2.2.1.epoch s.2.2.1.req s.2.2.1.n s.2.2.1.wants (s.2.2.1.ops++[o]),bset s.2.2.2 r)) none
theorem loses_step {d i:Int}{l:List Int}{s:Lst}{x:Int}(h0:0≤i)(h5:i < 5)(hl:i < (l.length:Int))(hx:l[i.toNat]?=some x){s':Lst}
    (hs:(bnd s.2.2.2 (x % 5)=true∧s'=s)∨(bnd s.2.2.2 (x % 5)=false∧losesAdd s (x % 5)=some s')) :
    stp_L4_14 (d,l,s.1,s.2.1,i,s.2.2.1,s.2.2.2)=some (.inl (d,l,s'.1,s'.2.1,i+1,s'.2.2.1,s'.2.2.2)):=by
  have r0:=Int.emod_nonneg x (by omega:(5:Int)≠0)
  have r5:=Int.emod_lt_of_pos x (by omega:(0:Int) < 5)
  have hw:w64 (i+1)=i+1:=w64_id (by omega) (by omega)
  have e1:decide (i < (l.length:Int))=true:=by simp;omega
  have e2:decide (i < 5)=true:=by simp;omega
  have e3:decide (0≤i)=true:=by simp;omega
  have e4:(decide (0≤x % 5) && decide (x % 5 < 5))=true:=by simp;omega
  simp only [stp_L4_14,step_L4_14,e1,e2,e3,e4,hx,cond_true,ob_some,within_eq (a:=x) (n:=5) (by omega) (by omega),hw]
  rcases hs with ⟨hb,rfl⟩ | ⟨hb,hs⟩
  · have:=bset_bnd r0 r5 hb
    unfold bset at this
    unfold bnd at hb
    rw [hb,this];rfl
  · unfold bnd at hb
    rw [hb]
    unfold losesAdd at hs
    cases ho:l13_step (w64 (s.1+1)) 5 (x % 5) with
    | none=>rw [ho] at hs;cases hs
    | some o =>
      rw [ho,ob_some] at hs
      simp only [ob_some,Bool.not_false,cond_true]
      cases hf:fits ((s.2.2.1.ops++[o]).length) with
      | false=>rw [hf] at hs;cases hs
      | true =>
        rw [hf,cond_true] at hs
        cases hs
        rfl
def losesChk (d:Int):Nat→Lst→Bool
  | 0,s=>isT (losesTail (d,s))
  | k+1,s=>isT (losesTail (d,s)) && [0,1,2,3,4].all fun (r:Int)=>bnd s.2.2.2 r || (match losesAdd s r with | some s'=>losesChk d k s' | none=>false)
theorem losesChk_here {d:Int}{k:Nat}{s:Lst}(h:losesChk d k s=true):losesTail (d,s)=some true:=by
  cases k with
  | zero=>exact isT_eq h
  | succ k=>simp only [losesChk,Bool.and_eq_true] at h;exact isT_eq h.1
theorem loses_loop {d:Int}{l:List Int}(m:Nat):∀ (i k fuel:Nat) (s:Lst),losesChk d k s=true→min l.length 5=i+m→m≤k→m+1≤fuel →
    ∃ y,iterO stp_L4_14 fuel (d,l,s.1,s.2.1,(i:Int),s.2.2.1,s.2.2.2)=some y∧losesTail y=some true:=by
  induction m with
  | zero =>
    intro i k fuel s hc hm _ hf
    obtain ⟨fuel,rfl⟩:∃ n,fuel=n+1:=⟨fuel - 1,by omega⟩
    have hx:(cond (decide ((i:Int) < (l.length:Int))) (decide ((i:Int) < 5)) false)=false:=by
      cases h:decide ((i:Int) < (l.length:Int)) with
      | false=>rfl
      | true=>simp at h ⊢;omega
    have:stp_L4_14 (d,l,s.1,s.2.1,(i:Int),s.2.2.1,s.2.2.2)=some (.inr (d,s)):=by
      simp only [stp_L4_14,step_L4_14,hx,cond_false]
    refine ⟨(d,s),?_,losesChk_here hc⟩
    simp only [iterO,this,ob_some,two]
  | succ m ih =>
    intro i k fuel s hc hm hk hf
    obtain ⟨fuel,rfl⟩:∃ n,fuel=n+1:=⟨fuel - 1,by omega⟩
    obtain ⟨k,rfl⟩:∃ n,k=n+1:=⟨k - 1,by omega⟩
    have hi:i < l.length:=by omega
    have hxs:l[((i:Int)).toNat]?=some l[i]:=by simp [hi]
    have r0:=Int.emod_nonneg l[i] (by omega:(5:Int)≠0)
    have r5:=Int.emod_lt_of_pos l[i] (by omega:(0:Int) < 5)
    have hcast:((i:Int)+1)=((i+1:Nat):Int):=by omega
    cases hb:bnd s.2.2.2 (l[i] % 5) with
    | true =>
      have hst:=loses_step (d:=d) (s:=s) (by omega) (by omega) (by omega) hxs (.inl ⟨hb,rfl⟩)
      obtain ⟨y,h1,h2⟩:=ih (i+1) (k+1) fuel s hc (by omega) (by omega) (by omega)
      refine ⟨y,?_,h2⟩
      simp only [iterO,hst,ob_some,two,hcast]
      exact h1
    | false =>
      simp only [losesChk,Bool.and_eq_true] at hc
      have:=List.all_eq_true.1 hc.2 (l[i] % 5) (by simp;omega)
      rw [hb,Bool.false_or] at this
      cases hs:losesAdd s (l[i] % 5) with
      | none=>rw [hs] at this;cases this
      | some s' =>
        rw [hs] at this
        have hst:=loses_step (d:=d) (s:=s) (by omega) (by omega) (by omega) hxs (.inr ⟨hb,hs⟩)
        obtain ⟨y,h1,h2⟩:=ih (i+1) k fuel s' this (by omega) (by omega) (by omega)
        refine ⟨y,?_,h2⟩
        simp only [iterO,hst,ob_some,two,hcast]
        exact h1
def loses7 (d:Int):Option (Int×Cmd):=match L4_7 d [] 0 1 (Cmd.mk 3 0 1 0 0 [] []) with | some y=>some (y.2.2.1,y.2.2.2) | none=>none
def losesIn (y:Int×Cmd):Lst:=(y.1,0,y.2,A5Bool.mk false false false false false)
def losesSub (d r:Int):Bool:=match loses7 d with
  | some y=>(match losesAdd (losesIn y) r with | some s'=>losesChk d 4 s' | none=>false)
  | none=>false
def losesTop (d:Int):Bool:=match loses7 d with | some y=>isT (losesTail (d,losesIn y)) | none=>false
def losesAt (d:Int):Bool:=match loses7 d with | some y=>losesChk d 5 (losesIn y) | none=>false
theorem losesAt_of {d:Int}(h:losesTop d=true)(h0:losesSub d 0=true)(h1:losesSub d 1=true)(h2:losesSub d 2=true)(h3:losesSub d 3=true)(h4:losesSub d 4=true):losesAt d=true:=by
  unfold losesTop at h
  unfold losesSub at h0 h1 h2 h3 h4
  unfold losesAt
  cases h7:loses7 d with
  | none=>rw [h7] at h;cases h
  | some y =>
    rw [h7] at h h0 h1 h2 h3 h4
    simp only at h h0 h1 h2 h3 h4 ⊢
    unfold losesChk
    simp only [List.all_cons,List.all_nil,Bool.and_true,Bool.and_eq_true,Bool.or_eq_true]
    exact ⟨h,.inr h0,.inr h1,.inr h2,.inr h3,.inr h4⟩
end Go.Proofs.YtcjpeijiaojeiaaGreat
