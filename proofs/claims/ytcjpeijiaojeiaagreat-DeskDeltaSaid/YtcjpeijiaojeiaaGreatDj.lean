/- Acts that are few; the desk behind them. -/
import Derived.Test.YtcjpeijiaojeiaaGreatDi
namespace Go.Proofs.YtcjpeijiaojeiaaGreat
open Go Go.Ev
set_option maxRecDepth 100000
theorem t_Few (l:List Act)(hl:l.length≤9223372036854775807):Ok (l13Few l) (fun r=>r=true→l.length≤60∧∀ a∈l,a.wants.length≤8):=by
  unfold l13Few
  have hloop:Ok (L22_2 l false 0) (Stp (fun a=>a.1=l∧∀ x∈l,x.wants.length≤8) (fun b=>b.2=false)):=by
    refine Ok.iter (fun x:List Act×Bool×Int=>x.1=l∧0≤x.2.2∧x.2.2≤(l.length:Int)∧∀ (j:Nat) a,(j:Int) < x.2.2→l[j]?=some a→a.wants.length≤8) (fun x=>l.length - x.2.2.toNat) ?_ _ _ ⟨rfl,by dsimp only;omega,by dsimp only;omega,fun j a h=>by dsimp only at h;omega⟩ (by dsimp only;omega)
    rintro ⟨l',b,i⟩ ⟨h1,h2,h3,h4⟩
    dsimp only at h1 h2 h3 h4
    subst h1
    unfold stp_L22_2 step_L22_2
    dsimp only
    refine Ok.dec (fun hi=>?_) (fun hi=>Ok.inr1 ⟨rfl,fun x hx=>?_⟩)
    · have hw:w64 (i+1)=i+1:=w64_ok (by omega)
      have he:l'[i.toNat]?=some (l'[i.toNat]'(by omega)):=List.getElem?_eq_getElem _
      generalize (l'[i.toNat]'(by omega))=e at he
      simp only [he,ob_some]
      refine Ok.need h2 (Ok.dec (fun _=>Ok.inr2 rfl) fun h8=>Ok.need h2 (Ok.dec (fun _=>Ok.inr2 rfl) fun h22=>?_))
      have hin:Ok (L22_7 l' b i 0) (Stp (fun a=>a.1=l'∧a.2.2=i) (fun c=>c.2.1=false)):=by
        refine Ok.iter (fun x:List Act×Bool×Int×Int=>x.1=l'∧x.2.2.1=i∧0≤x.2.2.2∧x.2.2.2≤(e.ops.length:Int)) (fun x=>e.ops.length - x.2.2.2.toNat) ?_ _ _ ⟨rfl,rfl,by dsimp only;omega,by dsimp only;omega⟩ (by dsimp only;omega)
        rintro ⟨l1,b1,i1,k⟩ ⟨g1,g2,g3,g4⟩
        dsimp only at g1 g2 g3 g4
        subst g1;subst g2
        unfold stp_L22_7 step_L22_7
        dsimp only
        simp only [he,ob_some]
        refine Ok.need h2 (Ok.dec (fun hk=>?_) (fun _=>Ok.inr1 ⟨rfl,rfl⟩))
        have hwk:w64 (k+1)=k+1:=w64_ok (by omega)
        refine Ok.need h2 (Ok.need g3 (Ok.ob (Ok.get (by omega)) fun o _=>?_))
        unfold l9Few
        rw [ob_some]
        refine Ok.cond (fun _=>Ok.inr2 rfl) (fun _=>Ok.inl ?_)
        dsimp only
        exact ⟨⟨rfl,rfl,by omega,by omega⟩,by omega⟩
      refine Ok.ob hin fun y hy=>Ok.two hy (fun a ha=>?_) (fun c hc=>Ok.inr2 hc)
      obtain ⟨a1,a2,a3⟩:=a
      obtain ⟨g1,g2⟩:=ha
      dsimp only at g1 g2
      subst g1;subst g2
      dsimp only
      have hin2:Ok (L22_12 a1 a2 a3 0) (Stp (fun a=>a.1=a1∧a.2.2=a3) (fun c=>c.2.1=false)):=by
        refine Ok.iter (fun x:List Act×Bool×Int×Int=>x.1=a1∧x.2.2.1=a3∧0≤x.2.2.2∧x.2.2.2≤(e.wants.length:Int)) (fun x=>e.wants.length - x.2.2.2.toNat) ?_ _ _ ⟨rfl,rfl,by dsimp only;omega,by dsimp only;omega⟩ (by dsimp only;omega)
        rintro ⟨l1,b1,i1,k⟩ ⟨g1,g2,g3,g4⟩
        dsimp only at g1 g2 g3 g4
        subst g1;subst g2
        unfold stp_L22_12 step_L22_12
        dsimp only
        simp only [he,ob_some]
        refine Ok.need h2 (Ok.dec (fun hk=>?_) (fun _=>Ok.inr1 ⟨rfl,rfl⟩))
        have hwk:w64 (k+1)=k+1:=w64_ok (by omega)
        refine Ok.need h2 (Ok.need g3 (Ok.ob (Ok.get (by omega)) fun o _=>Ok.dec (fun _=>Ok.inr2 rfl) (fun _=>Ok.inl ?_)))
        dsimp only
        exact ⟨⟨rfl,rfl,by omega,by omega⟩,by omega⟩
      refine Ok.ob hin2 fun y hy=>Ok.two hy (fun a ha=>Ok.inl ?_) (fun c hc=>Ok.inr2 hc)
      obtain ⟨p1,p2,p3⟩:=a
      obtain ⟨g1,g2⟩:=ha
      dsimp only at g1 g2
      subst g1;subst g2
      dsimp only
      refine ⟨⟨rfl,by omega,by omega,fun j a hj ha=>?_⟩,by omega⟩
      by_cases hji:(j:Int) < p3
      · exact h4 j a hji ha
      · have:j=p3.toNat:=by omega
        subst this
        rw [he] at ha;cases ha;omega
    · obtain ⟨j,hj,rfl⟩:=List.getElem_of_mem hx
      exact h4 j _ (by omega) (List.getElem?_eq_getElem hj)
  refine Ok.ob hloop fun y hy=>Ok.two hy (fun a ha=>Ok.ret fun hd=>⟨?_,ha.2⟩) (fun b hb=>Ok.ret fun h=>by rw [hb] at h;cases h)
  have:=of_decide_eq_true hd
  rw [ha.1] at this
  omega
def desk0:Desk:=Desk.mk (Book.mk [Counter.mk s_a 0 0 20 10 10 10,Counter.mk s_b 1 (-30) 30 0 30 30] [Range.mk 0 40] [] []) (A3Coll.mk (Coll.mk [] [] [] [] [] []) (Coll.mk [] [] [] [] [] []) (Coll.mk [] [] [] [] [] [])) [] (A6Device.mk (Device.mk 0 0 (Reply.mk 0 0 (Lease.mk 0 0 0 0 [] [] []))) (Device.mk 0 0 (Reply.mk 0 0 (Lease.mk 0 0 0 0 [] [] []))) (Device.mk 0 0 (Reply.mk 0 0 (Lease.mk 0 0 0 0 [] [] []))) (Device.mk 0 0 (Reply.mk 0 0 (Lease.mk 0 0 0 0 [] [] []))) (Device.mk 0 0 (Reply.mk 0 0 (Lease.mk 0 0 0 0 [] [] []))) (Device.mk 0 0 (Reply.mk 0 0 (Lease.mk 0 0 0 0 [] [] [])))) [] 0
theorem begin_eq:l13Begin=some desk0:=by kernel_rfl
theorem co0:CoOk 0 (Coll.mk [] [] [] [] [] []):=⟨Nat.le_refl _,Nat.le_refl _,Nat.le_refl _,Nat.le_refl _,Nat.le_refl _,Nat.le_refl _⟩
theorem desk0_ok:DkOk 0 0 0 0 0 desk0:=by
  refine ⟨⟨by decide,?_,by decide,fun l hl=>(by cases hl),Nat.le_refl _,by decide⟩,Nat.le_refl _,co0,co0,co0,by decide,fun o ho=>(by cases ho),Nat.le_refl _,⟨rp0 _ _,rp0 _ _,rp0 _ _,rp0 _ _,rp0 _ _,rp0 _ _⟩⟩
  intro x hx
  have hx:x∈[Range.mk 0 40]:=hx
  rw [List.mem_singleton.1 hx]
  exact ⟨by decide,by decide,by decide⟩
theorem t_State (l:List Act)(h60:l.length≤60)(hw:∀ a∈l,a.wants.length≤8):Ok (l13State l) (fun d=>DkOk 1200 72000 1200 60 60 d):=by
  unfold l13State
  rw [begin_eq,ob_some]
  refine Ok.ob (P:=fun y=>DkOk 1200 72000 1200 60 60 y.2) ?_ fun y hy=>Ok.ret hy
  refine Ok.iter (fun x:List Act×Int×Desk×Desk=>x.1=l∧0≤x.2.1∧x.2.1≤(l.length:Int)∧DkOk (20 * x.2.1.toNat) (1200 * x.2.1.toNat) (20 * x.2.1.toNat) x.2.1.toNat x.2.1.toNat x.2.2.2) (fun x=>l.length - x.2.1.toNat) ?_ _ _ ⟨rfl,by dsimp only;omega,by dsimp only;omega,desk0_ok⟩ (by dsimp only;omega)
  rintro ⟨l',i,d1,d⟩ ⟨h1,h2,h3,h4⟩
  dsimp only at h1 h2 h3 h4
  subst h1
  unfold stp_L23_3 step_L23_3
  dsimp only
  refine Ok.dec (fun hi=>?_) (fun _=>Ok.inr (h4.mono (by omega) (by omega) (by omega) (by omega) (by omega)))
  have hwi:w64 (i+1)=i+1:=w64_ok (by omega)
  have ht:(i+1).toNat=i.toNat+1:=by omega
  refine Ok.need (by omega) (Ok.ob (Ok.get (by omega)) fun a ha=>?_)
  have haw:=hw a ha.1
  have hlg:=h4.lg
  refine Ok.ob (t_ActCmd a d h4.bk (by omega) (by omega) (by omega)) fun c hc=>Ok.ob (t_Do d c h4 (by omega) (by omega) (by omega) (by omega) (by omega) hc) fun y hy=>Ok.inl ?_
  dsimp only
  rw [hwi,ht]
  exact ⟨⟨rfl,by omega,by omega,hy.1.mono (by omega) (by omega) (by omega) (by omega) (by omega)⟩,by omega⟩
end Go.Proofs.YtcjpeijiaojeiaaGreat
