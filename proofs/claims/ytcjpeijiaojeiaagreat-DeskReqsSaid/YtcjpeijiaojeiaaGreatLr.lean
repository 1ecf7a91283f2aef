/- DeskReqs on typed data. -/
import Derived.Test.YtcjpeijiaojeiaaGreatR
import Derived.Test.YtcjpeijiaojeiaaGreatQr
namespace Go.Proofs.YtcjpeijiaojeiaaGreat
open Go Go.Ev
set_option maxRecDepth 100000
/-- the last request's number, its reply, the desk -/
abbrev Rst:=Int×Reply×Desk
abbrev Rout:=(List Int×Bool×Int×Int×Desk×Reply)⊕((Bool×Int×Desk×Reply)⊕(Bool×Int×Desk×Reply))
def reqsRel (l:List Int)(b:Bool)(i:Int):Rout→Rout
  | .inl (_,_,i1,_,d,r)=>.inl (l,b,i1,w64 (i+1),d,r)
  | .inr y=>.inr y
theorem reqsK_par (l:List Int)(b:Bool)(i1 i:Int)(d:Desk)(r:Reply)(n:Int):reqsK l b i1 i d r n=(reqsK [] false i1 0 d r n).map (reqsRel l b i):=by
  unfold reqsK
  simp only [map_ob,map_cond,Option.map_some,reqsRel]
def reqsStep (s:Rst)(n:Int):Option Rst:=match reqsK [] false s.1 0 s.2.2 s.2.1 n with
  | some (.inl (_,_,q,_,d,r))=>some (q,r,d)
  | _=>none
theorem reqsStep_eq {s s':Rst}{n:Int}(h:reqsStep s n=some s')(l:List Int)(b:Bool)(i:Int):reqsK l b s.1 i s.2.2 s.2.1 n=some (.inl (l,b,s'.1,w64 (i+1),s'.2.2,s'.2.1)):=by
  rw [reqsK_par]
  unfold reqsStep at h
  split at h
  · rename_i l' b' q j d r heq
    cases h
    rw [heq]
    rfl
  · cases h
def reqsTail (s:Rst):Bool:=cond (s.2.2.dev.a2.req == s.1) (s.2.2.dev.a2.epoch == (min2 s.1 1)) false
def reqs0:Option Rst:=match l13Begin with | some d=>some (0,Reply.mk 0 0 (Lease.mk 0 0 0 0 [] [] []),d) | none=>none
def reqsA (q:Nat):Option Rst:=ob reqs0 fun s=>reqsStep s (q+1)
def reqsB (q:Nat):Option Rst:=ob (reqsA 1) fun s=>reqsStep s (q+1)
def opt {α:Type}:Option α→List α | some a=>[a] | none=>[]
def reqsAll:List Rst:=opt reqs0++([1,2,3,4,5,6,7,8,9,10].flatMap fun q=>opt (reqsA q))++([2,3,4,5,6,7,8,9,10].flatMap fun q=>opt (reqsB q))
def reqsChk (s:Rst):Bool:=reqsTail s && (List.range 12).all fun n=>match reqsStep s (n:Int) with | some s'=>reqsAll.any fun x=>decide (s'=x) | none=>false
theorem reqs_closed:reqsAll.all reqsChk=true:=by kernel_rfl
theorem reqs_chk {s:Rst}(h:s∈reqsAll):reqsTail s=true∧∀ x:Int,∃ s',reqsStep s (x % 12)=some s'∧s'∈reqsAll:=by
  have:=List.all_eq_true.1 reqs_closed s h
  unfold reqsChk at this
  rw [Bool.and_eq_true] at this
  refine ⟨this.1,fun x=>?_⟩
  have a1:=Int.emod_nonneg x (by omega:(12:Int)≠0)
  have a2:=Int.emod_lt_of_pos x (by omega:(0:Int) < 12)
  have h1:=List.all_eq_true.1 this.2 (x % 12).toNat (by simp;omega)
  rw [show (((x % 12).toNat:Nat):Int)=x % 12 by omega] at h1
  split at h1
  · rename_i s' heq
    obtain ⟨y,hy,he⟩:=List.any_eq_true.1 h1
    exact ⟨s',heq,of_decide_eq_true he ▸ hy⟩
  · cases h1
theorem reqs_loop (l:List Int)(s:Rst)(hs:s∈reqsAll):∃ y,L12_7 l false s.1 0 s.2.2 s.2.1=some y∧∃ b t,y=.inl (b,t.1,t.2.2,t.2.1)∧t∈reqsAll:=by
  refine iter_inv (stp:=stp_L12_7) (Inv:=fun m x=>∃ (i:Nat) (b:Bool) (s:Rst),min l.length 25=i+m∧s∈reqsAll∧x=(l,b,s.1,(i:Int),s.2.2,s.2.1)) (Post:=fun y=>∃ b t,y=.inl (b,t.1,t.2.2,t.2.1)∧t∈reqsAll) ?_ ?_ (min l.length 25) (((l.length:Int) - 0).toNat+2) _ ⟨0,false,s,by omega,hs,rfl⟩ (by omega)
  · rintro x ⟨i,b,s,hm,hs,rfl⟩
    have hx:(cond (decide ((i:Int) < (l.length:Int))) (decide ((i:Int) < 25)) false)=false:=by
      cases h:decide ((i:Int) < (l.length:Int)) with
      | false=>rfl
      | true=>simp at h ⊢;omega
    exact ⟨_,by simp only [stp_L12_7,step_L12_7,hx,cond_false],b,s,rfl,hs⟩
  · rintro m x ⟨i,b,s,hm,hs,rfl⟩
    have hi:i < l.length:=by omega
    have e1:decide ((i:Int) < (l.length:Int))=true:=decide_eq_true (by omega)
    have e2:decide ((i:Int) < 25)=true:=decide_eq_true (by omega)
    have e3:decide (0≤(i:Int))=true:=by simp
    have hxs:l[((i:Int)).toNat]?=some l[i]:=by simp [hi]
    have hw:w64 ((i:Int)+1)=((i+1:Nat):Int):=w64_id (by omega) (by omega)
    obtain ⟨s',h1,h2⟩:=(reqs_chk hs).2 l[i]
    have hk:=reqsStep_eq h1 l b i
    refine ⟨(l,b,s'.1,((i+1:Nat):Int),s'.2.2,s'.2.1),?_,i+1,b,s',by omega,h2,rfl⟩
    simp only [stp_L12_7,step_L12_7,e1,e2,e3,hxs,cond_true,ob_some,within_eq (a:=l[i]) (n:=12) (by omega) (by omega)]
    rw [hw] at hk
    exact hk
theorem deskReqs_true (l:List Int):deskReqs l=some true:=by
  have hb:l13Begin.isSome=true:=by kernel_rfl
  have h0:∃ d,l13Begin=some d∧((0,Reply.mk 0 0 (Lease.mk 0 0 0 0 [] [] []),d):Rst)∈reqsAll:=by
    cases h:l13Begin with
    | none=>rw [h] at hb;cases hb
    | some d=>exact ⟨d,rfl,by unfold reqsAll reqs0;rw [h];simp [opt]⟩
  obtain ⟨d,hd,hm⟩:=h0
  obtain ⟨y,hy,b,t,rfl,ht⟩:=reqs_loop l _ hm
  rw [deskReqs,known_true,ob_some,Bool.not_true,cond_false,hd,ob_some]
  simp only at hy
  rw [hy,ob_some,two_inl]
  have:=(reqs_chk ht).1
  unfold reqsTail at this
  simp only [this]
end Go.Proofs.YtcjpeijiaojeiaaGreat
