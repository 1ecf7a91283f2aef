/- Leases are granted, spent, laid back, freed: it answers, within bounds. -/
import Derived.Test.YtcjpeijiaojeiaaGreatDf
namespace Go.Proofs.YtcjpeijiaojeiaaGreat
open Go Go.Ev
set_option maxRecDepth 100000
theorem t_twice (l:List Want)(k:Int)(h0:0≤k)(h1:k < (l.length:Int))(hl:l.length≤1000000):Ok (ref12_twice l k) (fun _=>True):=by
  unfold ref12_twice
  have hloop:Ok (L175_2 l k false 0) (Stp (fun _=>True) (fun _=>True)):=by
    refine Ok.iter (fun x=>x.1=l∧x.2.1=k∧0≤x.2.2.2∧x.2.2.2≤k) (fun x=>k.toNat - x.2.2.2.toNat) ?_ _ _ ⟨rfl,rfl,by dsimp only;omega,by dsimp only;omega⟩ (by dsimp only;omega)
    rintro ⟨l',k',b,i⟩ ⟨h2,h3,h4,h5⟩
    dsimp only at h2 h3 h4 h5
    subst h2;subst h3
    unfold stp_L175_2 step_L175_2
    dsimp only
    refine Ok.dec (fun hi=>?_) (fun _=>Ok.inr1 trivial)
    have hw:w64 (i+1)=i+1:=w64_ok (by omega)
    repeat' first
      | refine Ok.need (by omega) ?_
      | refine Ok.need2 (by omega) (by omega) ?_
      | refine Ok.fit (by simp only [List.length_append,List.length_cons,List.length_nil,List.length_take,List.length_drop,List.length_set,List.nil_append]<;>omega) ?_
      | refine Ok.ob (Ok.get (by omega)) fun e he=>?_
      | refine Ok.need (by simp only [List.length_append,List.length_cons,List.length_nil,List.length_take,List.length_drop,List.length_set,List.nil_append]<;>omega) ?_
      | refine Ok.ob (Ok.get (by simp only [List.length_append,List.length_cons,List.length_nil,List.length_take,List.length_drop,List.length_set,List.nil_append]<;>omega)) fun e he=>?_
      | refine Ok.or (fun hc=>?_) (fun hc hc2=>?_)
      | refine Ok.dec (fun hc=>?_) (fun hc=>?_)
      | refine Ok.beq (fun hc=>?_) (fun hc=>?_)
      | refine Ok.bne (fun hc=>?_) (fun hc=>?_)
      | refine Ok.cond (fun hc=>?_) (fun hc=>?_)
      | refine Ok.inl ?_
      | refine Ok.inr2 ?_
      | refine Ok.inr1 ?_
      | refine Ok.inr ?_
      | refine Ok.ret ?_
    · trivial
    · dsimp only;exact ⟨⟨rfl,rfl,by omega,by omega⟩,by omega⟩
  exact Ok.ob hloop fun y hy=>Ok.two hy (fun _ _=>Ok.ret trivial) (fun _ _=>Ok.ret trivial)
theorem t_Grant {U B:Nat}(b:Book)(v e u:Int)(w:List Want)(h:BkOk U B b)(hU:U≤1000000)(hn:b.leases.length≤900) :
    Ok (ref12Grant b v e u w) (fun y=>y.2.2=0→BkOk U B y.1∧y.1.leases.length=b.leases.length+1∧LsOk 0 y.2.1∧y.2.1.ids.length≤1000):=by
  have hfl:=h.fl
  have hsum:=h.sum
  have hls:=lsum_mem h.ls
  unfold ref12Grant
  refine Ok.cond (fun _=>Ok.ret (fun h=>by cases h)) fun hc=>?_
  have hwl:w.length≤5:=by
    by_cases hw:(w.length:Int) > 5
    · exfalso
      rw [decide_eq_true hw] at hc
      revert hc
      cases decide (v < 0)<;>cases decide (v≥6)<;>cases decide (e < 1)<;>cases decide (e > 1073741824)<;>cases decide (u < 0)<;>cases decide (u > 2199023255552)<;>exact fun h=>by cases h
    · omega
  clear hc
  refine Ok.ob (t_at b v (by omega)) fun r0 _=>Ok.dec (fun _=>Ok.ret (fun h=>by cases h)) fun _=>?_
  have hloop:Ok (L145_7 v w 0 0 b (Book.mk [] [] [] []) (Lease.mk 0 0 0 0 [] [] []) b (Lease.mk v e u (-1) [] [] []))
      (Stp (fun a=>a.2.2.2.2.2.1.leases=b.leases∧a.2.2.2.2.2.1.bound=b.bound∧a.2.2.2.2.2.1.counters.length≤10∧(∀ x∈a.2.2.2.2.2.1.free,RG x)∧(∀ x∈a.2.2.2.2.2.2.ids,RG x)∧rl a.2.2.2.2.2.1.free+rl a.2.2.2.2.2.2.ids≤rl b.free∧a.2.2.2.2.2.2.slices.length≤5∧a.2.2.2.2.2.2.used=[]) (fun c=>c.2.1≠0)):=by
    refine Ok.iter (fun x=>x.1=v∧x.2.1=w∧0≤x.2.2.2.1∧x.2.2.2.1≤(w.length:Int)∧x.2.2.2.2.2.2.2.1.leases=b.leases∧x.2.2.2.2.2.2.2.1.bound=b.bound∧x.2.2.2.2.2.2.2.1.counters.length≤10∧(∀ z∈x.2.2.2.2.2.2.2.1.free,RG z)∧(∀ z∈x.2.2.2.2.2.2.2.2.ids,RG z)∧rl x.2.2.2.2.2.2.2.1.free+rl x.2.2.2.2.2.2.2.2.ids≤rl b.free∧(x.2.2.2.2.2.2.2.2.slices.length:Int)≤x.2.2.2.1∧x.2.2.2.2.2.2.2.2.used=[]) (fun x=>w.length - x.2.2.2.1.toNat) ?_ _ _ ⟨rfl,rfl,by dsimp only;omega,by dsimp only;omega,rfl,rfl,h.cn,h.free,by simp,by simp [rl],by simp,rfl⟩ (by dsimp only;omega)
    rintro ⟨v',w',n,i,b1,b2,p1,b3,q⟩ ⟨g1,g2,g3,g4,g5,g6,g7,g8,g9,g10,g11,g12⟩
    dsimp only at g1 g2 g3 g4 g5 g6 g7 g8 g9 g10 g11 g12
    subst g1;subst g2
    unfold stp_L145_7 step_L145_7
    dsimp only
    refine Ok.dec (fun hi=>?_) (fun hi=>Ok.inr1 ⟨g5,g6,g7,g8,g9,g10,by dsimp only;omega,g12⟩)
    have hw:w64 (i+1)=i+1:=w64_ok (by omega)
    refine Ok.need (by omega) (Ok.ob (Ok.get (by omega)) fun x hx=>Ok.cond (fun _=>Ok.inr2 (by simp)) fun _=>Ok.ob (t_twice w' i g3 hi (by omega)) fun _ _=>Ok.cond (fun _=>Ok.inr2 (by simp)) fun _=>?_)
    refine Ok.ob (t_want (U:=U) (B:=B) b3 q x g7 g8 g9 (by omega) (by omega)) fun y hy=>Ok.bne (fun hne=>Ok.inr2 hne) fun hz=>Ok.inl ?_
    obtain ⟨k1,k2,k3,k4,k5,k6,k7,k8,k9⟩:=hy hz
    dsimp only
    exact ⟨⟨rfl,rfl,by omega,by omega,k1.trans g5,k2.trans g6,by omega,k4,k5,by omega,by omega,k8.trans g12⟩,by omega⟩
  refine Ok.ob hloop fun y hy=>Ok.two hy (fun a ha=>?_) (fun c hc=>Ok.ret (fun hz=>absurd hz hc))
  obtain ⟨a1,a2,a3,a4,a5,x,l⟩:=a
  obtain ⟨g5,g6,g7,g8,g9,g10,g11,g12⟩:=ha
  dsimp only at g5 g6 g7 g8 g9 g10 g11 g12
  dsimp only
  have hloop2:Ok (L145_19 a1 0 a4 a5 x l) (fun y=>0≤y.1∧y.1≤(x.leases.length:Int)∧y.2.2.2.1=x∧y.2.2.2.2=l):=by
    refine Ok.iter (fun z=>0≤z.2.1∧z.2.1≤(x.leases.length:Int)∧z.2.2.2.2.1=x∧z.2.2.2.2.2=l) (fun z=>x.leases.length - z.2.1.toNat) ?_ _ _ ⟨by dsimp only;omega,by dsimp only;omega,rfl,rfl⟩ (by dsimp only;rw [g5];omega)
    rintro ⟨n,i,p1,p2,x',l'⟩ ⟨f1,f2,f3,f4⟩
    dsimp only at f1 f2 f3 f4
    subst f3;subst f4
    unfold stp_L145_19 step_L145_19
    dsimp only
    have hx:x'.leases.length≤900:=by rw [g5];exact hn
    refine Ok.dec (fun hi=>?_) (fun _=>Ok.inr ⟨f1,f2,rfl,rfl⟩)
    have hw:w64 (i+1)=i+1:=w64_ok (by omega)
    repeat' first
      | refine Ok.need (by omega) ?_
      | refine Ok.need2 (by omega) (by omega) ?_
      | refine Ok.fit (by simp only [List.length_append,List.length_cons,List.length_nil,List.length_take,List.length_drop,List.length_set,List.nil_append]<;>omega) ?_
      | refine Ok.ob (Ok.get (by omega)) fun e he=>?_
      | refine Ok.need (by simp only [List.length_append,List.length_cons,List.length_nil,List.length_take,List.length_drop,List.length_set,List.nil_append]<;>omega) ?_
      | refine Ok.ob (Ok.get (by simp only [List.length_append,List.length_cons,List.length_nil,List.length_take,List.length_drop,List.length_set,List.nil_append]<;>omega)) fun e he=>?_
      | refine Ok.or (fun hc=>?_) (fun hc hc2=>?_)
      | refine Ok.dec (fun hc=>?_) (fun hc=>?_)
      | refine Ok.beq (fun hc=>?_) (fun hc=>?_)
      | refine Ok.bne (fun hc=>?_) (fun hc=>?_)
      | refine Ok.cond (fun hc=>?_) (fun hc=>?_)
      | refine Ok.inl ?_
      | refine Ok.inr2 ?_
      | refine Ok.inr1 ?_
      | refine Ok.inr ?_
      | refine Ok.ret ?_
    · dsimp only;exact ⟨⟨by omega,by omega,rfl,rfl⟩,by omega⟩
    · exact ⟨f1,f2,rfl,rfl⟩
  refine Ok.ob hloop2 fun z hz=>?_
  obtain ⟨k,z2,z3,z4,z5⟩:=z
  obtain ⟨f1,f2,f3,f4⟩:=hz
  dsimp only at f1 f2 f3 f4
  subst f3;subst f4
  dsimp only
  have hx:z4.leases.length≤900:=by rw [g5];exact hn
  have hil:=rl_len _ g9
  have hfr:=rl_nonneg _ g8
  have hcp:ref12CopyOf z5=some z5:=t_copy z5 (by omega) (by omega) (by rw [g12];simp)
  rw [hcp]
  simp only [ob_some,List.nil_append]
  have htk:(z4.leases.take (z4.leases.length:Int).toNat)=z4.leases:=List.take_of_length_le (by omega)
  rw [htk]
  have hsplit:z4.leases.take k.toNat++z4.leases.drop k.toNat=b.leases:=by rw [List.take_append_drop,g5]
  have hlen:(z4.leases.take k.toNat++[z5]++z4.leases.drop k.toNat).length=b.leases.length+1:=by
    rw [List.length_append,List.length_append,List.length_take,List.length_drop,List.length_singleton,← g5];omega
  have hlease:LsOk 0 z5:=⟨by omega,g9,by rw [g12];simp⟩
  repeat' first
    | refine Ok.need (by omega) ?_
    | refine Ok.need2 (by omega) (by omega) ?_
    | refine Ok.fit (by simp only [List.length_append,List.length_cons,List.length_nil,List.length_take,List.length_drop,List.length_set,List.nil_append]<;>omega) ?_
    | refine Ok.ob (Ok.get (by omega)) fun e he=>?_
    | refine Ok.need (by simp only [List.length_append,List.length_cons,List.length_nil,List.length_take,List.length_drop,List.length_set,List.nil_append]<;>omega) ?_
    | refine Ok.ob (Ok.get (by simp only [List.length_append,List.length_cons,List.length_nil,List.length_take,List.length_drop,List.length_set,List.nil_append]<;>omega)) fun e he=>?_
    | refine Ok.or (fun hc=>?_) (fun hc hc2=>?_)
    | refine Ok.dec (fun hc=>?_) (fun hc=>?_)
    | refine Ok.beq (fun hc=>?_) (fun hc=>?_)
    | refine Ok.bne (fun hc=>?_) (fun hc=>?_)
    | refine Ok.cond (fun hc=>?_) (fun hc=>?_)
    | refine Ok.inl ?_
    | refine Ok.inr2 ?_
    | refine Ok.inr1 ?_
    | refine Ok.inr ?_
    | refine Ok.ret ?_
  intro _
  refine ⟨⟨g7,g8,?_,?_,?_,?_⟩,hlen,hlease,by dsimp only;omega⟩
  · show (z4.leases.take k.toNat++[z5]++z4.leases.drop k.toNat).length≤1000
    omega
  · intro x hx
    have hx:x∈z4.leases.take k.toNat++[z5]++z4.leases.drop k.toNat:=hx
    rcases List.mem_append.1 hx with hx | hx
    · rcases List.mem_append.1 hx with hx | hx
      · exact h.ls x (by rw [← g5];exact List.mem_of_mem_take hx)
      · rw [List.mem_singleton.1 hx];exact hlease.mono (Nat.zero_le _)
    · exact h.ls x (by rw [← g5];exact List.mem_of_mem_drop hx)
  · show z4.bound.length≤B
    rw [g6];exact h.bd
  · show rl z4.free+lsum (z4.leases.take k.toNat++[z5]++z4.leases.drop k.toNat)≤1000
    have e:lsum (z4.leases.take k.toNat)+lsum (z4.leases.drop k.toNat)=lsum b.leases:=by rw [← lsum_append,hsplit]
    rw [lsum_append,lsum_append]
    simp only [lsum]
    omega
theorem t_Spend {U:Nat}(l:Lease)(o:Op)(h:LsOk U l)(hU:U≤100000)(hi:l.ids.length≤100000) :
    Ok (ref12Spend l o) (fun y=>y.2=0→y.1.device=l.device∧y.1.ids=l.ids∧y.1.slices.length=l.slices.length∧y.1.used.length≤l.used.length+1):=by
  have hsl:=h.sl
  have hus:=h.used
  unfold ref12Spend
  rw [t_copy l (by omega) (by omega) (by omega),ob_some]
  refine Ok.beq (fun _=>?_) (fun _=>?_)
  · have hloop:Ok (L140_5 0 0 l o (Lease.mk 0 0 0 0 [] [] [])) (Stp (fun _=>True) (fun c=>c.1=0→c.2.2.2.1=l.device∧c.2.1.ids=l.ids∧c.2.1.slices.length=l.slices.length∧c.2.1.used=l.used)):=by
      refine Ok.iter (fun x=>x.2.2.1=l∧0≤x.2.1∧x.2.1≤(l.slices.length:Int)) (fun x=>l.slices.length - x.2.1.toNat) ?_ _ _ ⟨rfl,by dsimp only;omega,by dsimp only;omega⟩ (by dsimp only;omega)
      rintro ⟨n,i,l',o',p⟩ ⟨h1,h2,h3⟩
      dsimp only at h1 h2 h3
      subst h1
      unfold stp_L140_5 step_L140_5
      dsimp only
      refine Ok.dec (fun hi'=>?_) (fun _=>Ok.inr1 trivial)
      have hw:w64 (i+1)=i+1:=w64_ok (by omega)
      have he:l'.slices[i.toNat]?=some (l'.slices[i.toNat]'(by omega)):=List.getElem?_eq_getElem _
      generalize (l'.slices[i.toNat]'(by omega))=e at he
      simp only [he,ob_some]
      refine Ok.need (by omega) (Ok.need (by omega) (Ok.cond (fun _=>Ok.inl ?_) (fun _=>?_)))
      · dsimp only;exact ⟨⟨rfl,by omega,by omega⟩,by omega⟩
      · repeat' first
          | refine Ok.need (by omega) ?_
          | refine Ok.need2 (by omega) (by omega) ?_
          | refine Ok.fit (by simp only [List.length_append,List.length_cons,List.length_nil,List.length_take,List.length_drop,List.length_set,List.nil_append]<;>omega) ?_
          | refine Ok.ob (Ok.get (by omega)) fun e he=>?_
          | refine Ok.need (by simp only [List.length_append,List.length_cons,List.length_nil,List.length_take,List.length_drop,List.length_set,List.nil_append]<;>omega) ?_
          | refine Ok.ob (Ok.get (by simp only [List.length_append,List.length_cons,List.length_nil,List.length_take,List.length_drop,List.length_set,List.nil_append]<;>omega)) fun e he=>?_
          | refine Ok.or (fun hc=>?_) (fun hc hc2=>?_)
          | refine Ok.dec (fun hc=>?_) (fun hc=>?_)
          | refine Ok.beq (fun hc=>?_) (fun hc=>?_)
          | refine Ok.bne (fun hc=>?_) (fun hc=>?_)
          | refine Ok.cond (fun hc=>?_) (fun hc=>?_)
          | refine Ok.inl ?_
          | refine Ok.inr2 ?_
          | refine Ok.inr1 ?_
          | refine Ok.inr ?_
          | refine Ok.ret ?_
        all_goals first | (intro hz;exact absurd hz (by dsimp only;omega)) | exact fun _=>⟨rfl,rfl,List.length_set,rfl⟩
    refine Ok.ob hloop fun y hy=>Ok.two hy (fun a _=>Ok.ret (fun hz=>absurd hz (by dsimp only;omega))) (fun c hc=>Ok.ret (fun hz=>?_))
    obtain ⟨c1,c2,c3,c4⟩:=hc hz
    exact ⟨c1,c2,c3,by dsimp only;rw [c4];omega⟩
  · refine Ok.beq (fun _=>?_) (fun _=>Ok.ret (fun _=>⟨rfl,rfl,rfl,Nat.le_succ _⟩))
    refine Ok.ob (t_ref11Has _ _ (by omega)) fun _ _=>Ok.cond (fun _=>Ok.ret (fun hz=>absurd hz (by dsimp only;omega))) fun _=>Ok.ob (t_in _ _ (by omega)) fun _ _=>Ok.cond (fun _=>Ok.ret (fun hz=>absurd hz (by dsimp only;omega))) fun _=>?_
    exact Ok.ob (t_rise _ _ (by omega)) fun y hy=>Ok.ret (fun _=>⟨rfl,rfl,rfl,by dsimp only;omega⟩)
theorem t_Put {U B V:Nat}(b:Book)(l:Lease)(h:BkOk U B b)(hl:LsOk V l)(hUV:U≤V)(hV:V≤100000)(hi:l.ids.length≤100000)
    (hs:∀ e,0≤atS b.leases l.device→b.leases[(atS b.leases l.device).toNat]?=some e→rl l.ids≤rl e.ids) :
    Ok (ref12Put b l) (fun y=>BkOk V B y.1∧y.1.leases.length=b.leases.length):=by
  have hln:=h.ln
  have hsl:=hl.sl
  have hus:=hl.used
  unfold ref12Put
  rw [at_eq b l.device (by omega),ob_some]
  refine Ok.dec (fun _=>Ok.ret ⟨h.mono hUV (Nat.le_refl _),rfl⟩) fun hneg=>?_
  obtain ⟨a1,e0,he0,_⟩:=atS_in (l:=b.leases) (v:=l.device) (by omega)
  have hlt:(atS b.leases l.device).toNat < b.leases.length:=by omega
  have hsame:=hs e0 (by omega) he0
  rw [t_copy l (by omega) (by omega) (by omega)]
  generalize atS b.leases l.device=k at *
  simp only [ob_some,List.nil_append]
  refine Ok.need (by omega) (Ok.ob (Ok.get hlt) fun e _=>Ok.cond (fun _=>Ok.ret ⟨h.mono hUV (Nat.le_refl _),rfl⟩) fun _=>Ok.fit (by omega) (Ok.need (by omega) (Ok.need (by omega) (Ok.ob (Ok.get hlt) fun _ _=>Ok.ret ?_))))
  refine ⟨⟨h.cn,h.free,?_,?_,h.bd,?_⟩,List.length_set⟩
  · show (b.leases.set k.toNat l).length≤1000
    rw [List.length_set];exact hln
  · intro x hx
    rcases List.mem_or_eq_of_mem_set hx with hx | hx
    · exact (h.ls x hx).mono hUV
    · rw [hx];exact hl
  · show rl b.free+lsum (b.leases.set k.toNat l)≤1000
    have:=lsum_set (x:=l) he0
    have:=h.sum
    omega
theorem t_Free {U B:Nat}(b:Book)(v e:Int)(h:BkOk U B b)(hU:U≤10000)(hB:B≤900000) :
    Ok (ref12Free b v e) (fun y=>BkOk U (B+U) y.1∧y.1.leases.length≤b.leases.length):=by
  have hln:=h.ln
  have hcn:=h.cn
  have hfl:=h.fl
  have hbd:=h.bd
  unfold ref12Free
  refine Ok.ob (t_Find2 b v e h (by omega)) fun y hy=>Ok.cond (fun _=>Ok.ret ⟨h.mono (Nat.le_refl _) (Nat.le_add_right _ _),Nat.le_refl _⟩) fun hy2=>?_
  obtain ⟨k1,k2,k3,k4⟩:=hy (by cases hyy:y.2 with | true=>rfl | false=>rw [hyy] at hy2;cases hy2)
  have hl:=h.ls _ k3
  have hil:=h.il k3
  have hsl:=hl.sl
  have hus:=hl.used
  generalize y.1=l at *
  simp only [List.nil_append]
  refine Ok.fit (by omega) ?_
  have hloop1:Ok (L102_6 v 0 (Book.mk b.counters b.free b.leases b.bound) (Book.mk [] [] [] []) l) (fun y=>y.1=v∧y.2.1.free=b.free∧y.2.1.leases=b.leases∧y.2.1.bound=b.bound∧y.2.1.counters.length=b.counters.length∧y.2.2.2=l):=by
    refine Ok.iter (fun x=>x.1=v∧x.2.2.1.free=b.free∧x.2.2.1.leases=b.leases∧x.2.2.1.bound=b.bound∧x.2.2.1.counters.length=b.counters.length∧x.2.2.2.2=l∧0≤x.2.1∧x.2.1≤(l.slices.length:Int)) (fun x=>l.slices.length - x.2.1.toNat) ?_ _ _ ⟨rfl,rfl,rfl,rfl,rfl,rfl,by dsimp only;omega,by dsimp only;omega⟩ (by dsimp only;omega)
    rintro ⟨v',i,b',b2,l'⟩ ⟨g1,g2,g3,g4,g5,g6,g7,g8⟩
    dsimp only at g1 g2 g3 g4 g5 g6 g7 g8
    subst g1;subst g6
    unfold stp_L102_6 step_L102_6
    dsimp only
    refine Ok.dec (fun hi'=>?_) (fun _=>Ok.inr ⟨rfl,g2,g3,g4,g5,rfl⟩)
    have hw:w64 (i+1)=i+1:=w64_ok (by omega)
    refine Ok.need (by omega) (Ok.ob (Ok.get (by omega)) fun s _=>Ok.ob (t_place b' s.key (by omega)) fun r hr=>Ok.dec (fun hge=>?_) (fun _=>Ok.inl ?_))
    · have hr':0≤r∧r < (b'.counters.length:Int):=by omega
      clear hr
      repeat' first
        | refine Ok.need (by omega) ?_
        | refine Ok.need2 (by omega) (by omega) ?_
        | refine Ok.fit (by simp only [List.length_append,List.length_cons,List.length_nil,List.length_take,List.length_drop,List.length_set,List.nil_append]<;>omega) ?_
        | refine Ok.ob (Ok.get (by omega)) fun e he=>?_
        | refine Ok.need (by simp only [List.length_append,List.length_cons,List.length_nil,List.length_take,List.length_drop,List.length_set,List.nil_append]<;>omega) ?_
        | refine Ok.ob (Ok.get (by simp only [List.length_append,List.length_cons,List.length_nil,List.length_take,List.length_drop,List.length_set,List.nil_append]<;>omega)) fun e he=>?_
        | refine Ok.or (fun hc=>?_) (fun hc hc2=>?_)
        | refine Ok.dec (fun hc=>?_) (fun hc=>?_)
        | refine Ok.beq (fun hc=>?_) (fun hc=>?_)
        | refine Ok.bne (fun hc=>?_) (fun hc=>?_)
        | refine Ok.cond (fun hc=>?_) (fun hc=>?_)
        | refine Ok.inl ?_
        | refine Ok.inr2 ?_
        | refine Ok.inr1 ?_
        | refine Ok.inr ?_
        | refine Ok.ret ?_
      dsimp only
      exact ⟨⟨rfl,g2,g3,g4,by simp only [List.length_set];exact g5,rfl,by omega,by omega⟩,by omega⟩
    · dsimp only
      exact ⟨⟨rfl,g2,g3,g4,g5,rfl,by omega,by omega⟩,by omega⟩
  refine Ok.ob hloop1 fun z hz=>?_
  obtain ⟨z1,bz,z3,z4⟩:=z
  obtain ⟨g1,g2,g3,g4,g5,g6⟩:=hz
  dsimp only at g1 g2 g3 g4 g5 g6
  subst g1;subst g6
  dsimp only
  have hloop2:Ok (L102_13 z1 0 bz z3 z4) (fun y=>y.1=z1∧y.2.1.free=b.free∧y.2.1.leases=b.leases∧y.2.1.bound.length≤B+U∧y.2.1.counters.length=b.counters.length∧(∀ x∈y.2.2.2.ids,RG x)∧rl y.2.2.2.ids≤rl z4.ids):=by
    refine Ok.iter (fun x=>x.1=z1∧x.2.2.1.free=b.free∧x.2.2.1.leases=b.leases∧(x.2.2.1.bound.length:Int)≤B+x.2.1∧x.2.2.1.counters.length=b.counters.length∧(∀ q∈x.2.2.2.2.ids,RG q)∧rl x.2.2.2.2.ids≤rl z4.ids∧x.2.2.2.2.used=z4.used∧0≤x.2.1∧x.2.1≤(z4.used.length:Int)) (fun x=>z4.used.length - x.2.1.toNat) ?_ _ _ ⟨rfl,g2,g3,by dsimp only;rw [g4];omega,g5,hl.ids,Int.le_refl _,rfl,by dsimp only;omega,by dsimp only;omega⟩ (by dsimp only;omega)
    rintro ⟨v',i,b',b2,l'⟩ ⟨f1,f2,f3,f4,f5,f6,f7,f8,f9,f10⟩
    dsimp only at f1 f2 f3 f4 f5 f6 f7 f8 f9 f10
    subst f1
    unfold stp_L102_13 step_L102_13
    dsimp only
    rw [f8]
    refine Ok.dec (fun hi'=>?_) (fun _=>Ok.inr ⟨rfl,f2,f3,by dsimp only;omega,f5,f6,f7⟩)
    have hw:w64 (i+1)=i+1:=w64_ok (by omega)
    refine Ok.need (by omega) (Ok.ob (Ok.get (by omega)) fun s _=>Ok.ob (t_Less l'.ids s f6 (by omega)) fun r hr=>Ok.cond (fun hr2=>?_) (fun _=>?_))
    · obtain ⟨r1,r2⟩:=hr hr2
      refine Ok.need (by omega) (Ok.ob (Ok.get (by omega)) fun s _=>Ok.ob (t_rise _ _ (by omega)) fun q hq=>Ok.inl ?_)
      dsimp only
      exact ⟨⟨rfl,f2,f3,by omega,f5,r1,by omega,rfl,by omega,by omega⟩,by omega⟩
    · refine Ok.need (by omega) (Ok.ob (Ok.get (by omega)) fun s _=>Ok.ob (t_rise _ _ (by omega)) fun q hq=>Ok.inl ?_)
      dsimp only
      exact ⟨⟨rfl,f2,f3,by omega,f5,f6,by omega,f8,by omega,by omega⟩,by omega⟩
  refine Ok.ob hloop2 fun q hq=>?_
  obtain ⟨q1,bq,q3,lq⟩:=q
  obtain ⟨f1,f2,f3,f4,f5,f6,f7⟩:=hq
  dsimp only at f1 f2 f3 f4 f5 f6 f7
  subst f1
  dsimp only
  have hlq:=rl_len _ f6
  have hloop3:Ok (L102_20 q1 0 bq q3 lq) (fun y=>y.1=q1∧(∀ x∈y.2.1.free,RG x)∧rl y.2.1.free≤rl b.free+rl lq.ids∧y.2.1.leases=b.leases∧y.2.1.bound.length≤B+U∧y.2.1.counters.length=b.counters.length):=by
    refine Ok.iter (fun x=>x.1=q1∧(∀ z∈x.2.2.1.free,RG z)∧rl x.2.2.1.free+rl (lq.ids.drop x.2.1.toNat)≤rl b.free+rl lq.ids∧x.2.2.1.leases=b.leases∧x.2.2.1.bound.length≤B+U∧x.2.2.1.counters.length=b.counters.length∧x.2.2.2.2=lq∧0≤x.2.1∧x.2.1≤(lq.ids.length:Int)) (fun x=>lq.ids.length - x.2.1.toNat) ?_ _ _ ⟨rfl,by dsimp only;rw [f2];exact h.free,by dsimp only;rw [f2];simp,f3,f4,f5,rfl,by dsimp only;omega,by dsimp only;omega⟩ (by dsimp only;omega)
    rintro ⟨v',i,b',b2,l'⟩ ⟨d1,d2,d3,d4,d5,d6,d7,d8,d9⟩
    dsimp only at d1 d2 d3 d4 d5 d6 d7 d8 d9
    subst d1;subst d7
    unfold stp_L102_20 step_L102_20
    dsimp only
    refine Ok.dec (fun hi'=>?_) (fun hi'=>Ok.inr ?_)
    · have hw:w64 (i+1)=i+1:=w64_ok (by omega)
      have ht:(i+1).toNat=i.toNat+1:=by omega
      refine Ok.need (by omega) (Ok.ob (Ok.get (by omega)) fun s hs=>?_)
      obtain ⟨hm,hs⟩:=hs
      have hd:=rl_drop hs
      have hdn:0≤rl (l'.ids.drop (i.toNat+1)):=rl_nonneg _ fun x hx=>f6 x (List.mem_of_mem_drop hx)
      have hsr:=f6 s hm
      have hb':=rl_len _ d2
      refine Ok.ob (t_ref11Add b'.free s (by have:=hsr.2.1;omega) d2 hsr) fun r hr=>Ok.inl ?_
      dsimp only
      refine ⟨⟨rfl,hr.1,?_,d4,d5,d6,rfl,by omega,by omega⟩,by omega⟩
      rw [hw,ht];have:=hr.2.1;omega
    · have hd:l'.ids.drop i.toNat=[]:=List.drop_eq_nil_of_le (by omega)
      rw [hd] at d3
      simp only [rl] at d3
      exact ⟨rfl,d2,by dsimp only;omega,d4,d5,d6⟩
  refine Ok.ob hloop3 fun p hp=>?_
  obtain ⟨p1,bp,p3,lp⟩:=p
  obtain ⟨d1,d2,d3,d4,d5,d6⟩:=hp
  dsimp only at d1 d2 d3 d4 d5 d6
  subst d1
  dsimp only
  rw [at_eq bp p1 (by rw [d4];omega),ob_some,d4]
  obtain ⟨a1,a2,a3,_⟩:=atS_in k1
  generalize atS b.leases p1=k at *
  have hw:w64 (k+1)=k+1:=w64_ok (by omega)
  have ht:(k+1).toNat=k.toNat+1:=by omega
  have htk:(b.leases.take (b.leases.length:Int).toNat)=b.leases:=List.take_of_length_le (by omega)
  rw [htk,hw,ht]
  have hsum:=lsum_erase k2
  have hs:=h.sum
  repeat' first
    | refine Ok.need (by omega) ?_
    | refine Ok.need2 (by omega) (by omega) ?_
    | refine Ok.fit (by simp only [List.length_append,List.length_cons,List.length_nil,List.length_take,List.length_drop,List.length_set,List.nil_append]<;>omega) ?_
    | refine Ok.ob (Ok.get (by omega)) fun e he=>?_
    | refine Ok.need (by simp only [List.length_append,List.length_cons,List.length_nil,List.length_take,List.length_drop,List.length_set,List.nil_append]<;>omega) ?_
    | refine Ok.ob (Ok.get (by simp only [List.length_append,List.length_cons,List.length_nil,List.length_take,List.length_drop,List.length_set,List.nil_append]<;>omega)) fun e he=>?_
    | refine Ok.or (fun hc=>?_) (fun hc hc2=>?_)
    | refine Ok.dec (fun hc=>?_) (fun hc=>?_)
    | refine Ok.beq (fun hc=>?_) (fun hc=>?_)
    | refine Ok.bne (fun hc=>?_) (fun hc=>?_)
    | refine Ok.cond (fun hc=>?_) (fun hc=>?_)
    | refine Ok.inl ?_
    | refine Ok.inr2 ?_
    | refine Ok.inr1 ?_
    | refine Ok.inr ?_
    | refine Ok.ret ?_
  refine ⟨⟨by rw [d6];exact hcn,d2,?_,?_,d5,?_⟩,?_⟩
  · simp only [List.length_append,List.length_cons,List.length_nil,List.length_take,List.length_drop,List.length_set,List.nil_append]<;>omega
  · intro x hx
    have hx:x∈b.leases.take k.toNat++b.leases.drop (k.toNat+1):=hx
    rcases List.mem_append.1 hx with hx | hx
    · exact h.ls x (List.mem_of_mem_take hx)
    · exact h.ls x (List.mem_of_mem_drop hx)
  · show rl bp.free+lsum (b.leases.take k.toNat++b.leases.drop (k.toNat+1))≤1000
    omega
  · simp only [List.length_append,List.length_cons,List.length_nil,List.length_take,List.length_drop,List.length_set,List.nil_append]<;>omega
end Go.Proofs.YtcjpeijiaojeiaaGreat
