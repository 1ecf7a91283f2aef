/- The ledger: it answers, within bounds. -/
import Derived.Test.YtcjpeijiaojeiaaGreatDe
namespace Go.Proofs.YtcjpeijiaojeiaaGreat
open Go Go.Ev
set_option maxRecDepth 100000
def atS (l:List Lease)(v:Int):Int:=match l.findIdx? (fun e=>e.device == v) with
  | some k=>(k:Int)
  | none => -1
theorem atS_in {l:List Lease}{v:Int}(h:0≤atS l v):atS l v < (l.length:Int)∧∃ e,l[(atS l v).toNat]?=some e∧e.device=v:=by
  unfold atS at h ⊢
  split
  · rename_i k hk
    obtain ⟨h1,h2,_⟩:=List.findIdx?_eq_some_iff_getElem.1 hk
    refine ⟨by omega,l[k],?_,by simpa using h2⟩
    rw [Int.toNat_natCast]
    exact List.getElem?_eq_getElem h1
  · rename_i hk
    rw [hk] at h
    simp at h
theorem atS_is {l:List Lease}{v:Int}{e:Lease}(he:e∈l)(hd:e.device=v):0≤atS l v:=by
  unfold atS
  split
  · omega
  · rename_i hk
    have:=List.findIdx?_eq_none_iff.1 hk e he
    simp [hd] at this
theorem at_eq (b:Book)(v:Int)(hl:b.leases.length≤1000000):ref12_at b v=some (atS b.leases v):=by
  have key:Ok (ref12_at b v) (fun r=>r=atS b.leases v):=by
    unfold ref12_at
    have hloop:Ok (L137_2 v 0 0 b) (Stp (fun _=>atS b.leases v = -1) (fun y=>y.1=atS b.leases v)):=by
      refine Ok.iter (fun x=>x.1=v∧x.2.2.2=b∧0≤x.2.2.1∧x.2.2.1≤(b.leases.length:Int)∧∀ (j:Nat) e,(j:Int) < x.2.2.1→b.leases[j]?=some e→e.device≠v) (fun x=>b.leases.length - x.2.2.1.toNat) ?_ _ _ ⟨rfl,rfl,by dsimp only;omega,by dsimp only;omega,fun j e h=>by dsimp only at h;omega⟩ (by dsimp only;omega)
      rintro ⟨v',n,i,b'⟩ ⟨h0,h1,h2,h3,h4⟩
      dsimp only at h0 h1 h2 h3 h4
      subst h0;subst h1
      unfold stp_L137_2 step_L137_2
      dsimp only
      refine Ok.dec (fun hi=>?_) (fun hi=>Ok.inr1 ?_)
      · have hw:w64 (i+1)=i+1:=w64_ok (by omega)
        refine Ok.need (by omega) (Ok.ob (Ok.get (by omega)) fun e he=>Ok.beq (fun hd=>Ok.inr2 ?_) (fun hd=>Ok.inl ?_))
        · dsimp only
          have hlt:i.toNat < b'.leases.length:=by omega
          have hs:b'.leases.findIdx? (fun e=>e.device == v')=some i.toNat:=by
            refine List.findIdx?_eq_some_iff_getElem.2 ⟨hlt,?_,fun j hj=>?_⟩
            · have:=he.2;rw [List.getElem?_eq_getElem hlt] at this;cases this;simpa using hd
            · have:=h4 j b'.leases[j] (by omega) (List.getElem?_eq_getElem (by omega));simpa using this
          unfold atS;rw [hs];dsimp only;omega
        · dsimp only
          refine ⟨⟨rfl,rfl,by omega,by omega,fun j e' hj he'=>?_⟩,by omega⟩
          by_cases hji:(j:Int) < i
          · exact h4 j e' hji he'
          · have:j=i.toNat:=by omega
            subst this
            rw [he.2] at he';cases he';exact hd
      · have hs:b'.leases.findIdx? (fun e=>e.device == v')=none:=by
          refine List.findIdx?_eq_none_iff.2 fun e he=>?_
          obtain ⟨j,hj,rfl⟩:=List.getElem_of_mem he
          have:=h4 j b'.leases[j] (by omega) (List.getElem?_eq_getElem hj);simpa using this
        unfold atS;rw [hs]
    exact Ok.ob hloop fun y hy=>Ok.two hy (fun _ ha=>Ok.ret ha.symm) (fun _ hb=>Ok.ret hb)
  obtain ⟨y,h1,h2⟩:=key
  rw [h1,h2]
theorem lsum_set:∀ {l:List Lease} {k:Nat} {e x:Lease},l[k]?=some e→lsum (l.set k x)+rl e.ids=lsum l+rl x.ids
  | [],k,e,x,h=>by simp at h
  | y::l,0,e,x,h=>by
    simp at h;subst h
    simp only [List.set_cons_zero,lsum];omega
  | y::l,k+1,e,x,h=>by
    have:=lsum_set (l:=l) (k:=k) (e:=e) (x:=x) (by simpa using h)
    simp only [List.set_cons_succ,lsum];omega
theorem lsum_erase:∀ {l:List Lease} {k:Nat} {e:Lease},l[k]?=some e→lsum (l.take k++l.drop (k+1))+rl e.ids=lsum l
  | [],k,e,h=>by simp at h
  | y::l,0,e,h=>by
    simp at h;subst h
    simp [lsum];omega
  | y::l,k+1,e,h=>by
    have:=lsum_erase (l:=l) (k:=k) (e:=e) (by simpa using h)
    simp only [List.take_succ_cons,List.drop_succ_cons,List.cons_append,lsum];omega
theorem LsOk.mono {U V:Nat}{l:Lease}(h:LsOk U l)(hu:U≤V):LsOk V l:=⟨h.sl,h.ids,Nat.le_trans h.used hu⟩
theorem BkOk.mono {U V B C:Nat}{b:Book}(h:BkOk U B b)(hu:U≤V)(hb:B≤C):BkOk V C b:=⟨h.cn,h.free,h.ln,fun l hl=>(h.ls l hl).mono hu,Nat.le_trans h.bd hb,h.sum⟩
theorem t_Find2 {U B:Nat}(b:Book)(v e:Int)(h:BkOk U B b)(hU:U≤1000000):Ok (ref12Find b v e) (fun y=>y.2=true→0≤atS b.leases v∧b.leases[(atS b.leases v).toNat]?=some y.1∧y.1∈b.leases∧y.1.device=v):=by
  refine (t_Find b v e h hU).mono fun y hy h2=>?_
  obtain ⟨k,h1,h3,h4,h5,h6,h7⟩:=hy h2
  rw [at_eq b v (by have:=h.ln;omega)] at h1
  cases h1
  exact ⟨h3,h5,h6,h7⟩
/-- what wants leave -/
structure WOk (b:Book) (l:Lease) (b':Book) (l':Lease):Prop where
  ls:b'.leases=b.leases
  bd:b'.bound=b.bound
  cn:b'.counters.length=b.counters.length
  fr:∀ x∈b'.free,RG x
  id:∀ x∈l'.ids,RG x
  sum:rl b'.free+rl l'.ids≤rl b.free+rl l.ids
  sl:l'.slices.length≤l.slices.length+1
  us:l'.used=l.used
  dv:l'.device=l.device
theorem t_L176_20 (r3:Int)(l:List Range)(b:Book)(lx:Lease)(w:Want)(b2:Book)(lx2:Lease)(hv:∀ x∈l,RG x)(hi:∀ x∈lx.ids,RG x)(hs:rl l+rl lx.ids≤100000) :
    Ok (L176_20 r3 l 0 b lx w b2 lx2) (fun y=>y.1=r3∧y.2.1=b∧y.2.2.2.1=w∧y.2.2.1.slices=lx.slices∧y.2.2.1.used=lx.used∧y.2.2.1.device=lx.device∧(∀ x∈y.2.2.1.ids,RG x)∧rl y.2.2.1.ids≤rl lx.ids+rl l):=by
  have hll:=rl_len l hv
  have hlx:=rl_len _ hi
  refine Ok.iter (fun x=>x.1=r3∧x.2.1=l∧x.2.2.2.1=b∧x.2.2.2.2.2.1=w∧0≤x.2.2.1∧x.2.2.1≤(l.length:Int)∧x.2.2.2.2.1.slices=lx.slices∧x.2.2.2.2.1.used=lx.used∧x.2.2.2.2.1.device=lx.device∧(∀ z∈x.2.2.2.2.1.ids,RG z)∧rl x.2.2.2.2.1.ids+rl (l.drop x.2.2.1.toNat)≤rl lx.ids+rl l) (fun x=>l.length - x.2.2.1.toNat) ?_ _ _ ⟨rfl,rfl,rfl,rfl,by dsimp only;omega,by dsimp only;omega,rfl,rfl,rfl,hi,by simp⟩ (by dsimp only;omega)
  rintro ⟨r',l',i,b',q,w',p1,p2⟩ ⟨h1,h2,h3,h4,h5,h6,h7,h8,h9,h10,h11⟩
  dsimp only at h1 h2 h3 h4 h5 h6 h7 h8 h9 h10 h11
  subst h1;subst h2;subst h3;subst h4
  unfold stp_L176_20 step_L176_20
  dsimp only
  refine Ok.dec (fun hi'=>?_) (fun hi'=>Ok.inr ?_)
  · have hw:w64 (i+1)=i+1:=w64_ok (by omega)
    have ht:(i+1).toNat=i.toNat+1:=by omega
    refine Ok.need (by omega) (Ok.ob (Ok.get (by omega)) fun e he=>?_)
    obtain ⟨hm,he⟩:=he
    have hd:=rl_drop he
    have hdn:0≤rl (l'.drop (i.toNat+1)):=rl_nonneg _ fun x hx=>hv x (List.mem_of_mem_drop hx)
    have he':=hv e hm
    have hq:=rl_len _ h10
    refine Ok.ob (t_ref11Add q.ids e (by have:=he'.2.1;omega) h10 he') fun y hy=>Ok.inl ?_
    dsimp only
    refine ⟨⟨rfl,rfl,rfl,rfl,by omega,by omega,h7,h8,h9,hy.1,?_⟩,by omega⟩
    rw [hw,ht];have:=hy.2.1;omega
  · have hd:l'.drop i.toNat=[]:=List.drop_eq_nil_of_le (by omega)
    rw [hd] at h11
    simp only [rl] at h11
    exact ⟨rfl,rfl,rfl,h7,h8,h9,h10,by dsimp only;omega⟩
theorem t_want {U B:Nat}(b:Book)(l:Lease)(w:Want)(hcn:b.counters.length≤10)(hf:∀ x∈b.free,RG x)(hi:∀ x∈l.ids,RG x)(hs:rl b.free+rl l.ids≤100000)(hsl:l.slices.length≤1000) :
    Ok (ref12_want b l w) (fun y=>y.2.2=0→WOk b l y.1 y.2.1):=by
  have hfl:=rl_len _ hf
  have hil:=rl_len _ hi
  unfold ref12_want
  refine Ok.cond (fun _=>Ok.ret (fun h=>by cases h)) fun hc=>?_
  have hids:w.ids≤50:=by
    by_cases h:w.ids > 50
    · exfalso
      rw [decide_eq_true h] at hc
      revert hc
      cases decide (w.up_ < 0)<;>cases decide (w.up_ > 2199023255552)<;>cases decide (w.down_ < 0)<;>cases decide (w.down_ > 2199023255552)<;>cases decide (w.ids < 0)<;>exact fun h=>by cases h
    · omega
  clear hc
  have hloop:Ok (L176_4 0 0 b l w (Book.mk [] [] [] []) (Lease.mk 0 0 0 0 [] [] [])) (Stp (fun a=>a.2.1=b∧a.2.2.1=l∧a.2.2.2.1=w) (fun c=>c.1=7)):=by
    refine Ok.iter (fun x=>x.2.2.1=b∧x.2.2.2.1=l∧x.2.2.2.2.1=w∧0≤x.2.1∧x.2.1≤(l.slices.length:Int)) (fun x=>l.slices.length - x.2.1.toNat) ?_ _ _ ⟨rfl,rfl,rfl,by dsimp only;omega,by dsimp only;omega⟩ (by dsimp only;omega)
    rintro ⟨n,i,b',l',w',p1,p2⟩ ⟨h1,h2,h3,h4,h5⟩
    dsimp only at h1 h2 h3 h4 h5
    subst h1;subst h2;subst h3
    unfold stp_L176_4 step_L176_4
    dsimp only
    refine Ok.dec (fun hi'=>?_) (fun _=>Ok.inr1 ⟨rfl,rfl,rfl⟩)
    have hw:w64 (i+1)=i+1:=w64_ok (by omega)
    repeat' first
      | refine Ok.need (by omega) ?_
      | refine Ok.need2 (by omega) (by omega) ?_
      | refine Ok.fit (by simp only [List.length_append,List.length_cons,List.length_nil,List.length_take,List.length_drop,List.length_set,List.nil_append]<;>omega) ?_
      | refine Ok.ob (Ok.get (by omega)) fun e he=>?_
      | refine Ok.need (by simp only [List.length_append,List.length_cons,List.length_nil,List.length_take,List.length_drop,List.length_set,List.nil_append]<;>omega) ?_
      | refine Ok.ob (Ok.get (by simp only [List.length_append,List.length_cons,List.length_nil,List.length_take,List.length_drop,List.length_set,List.nil_append]<;>omega)) fun e he=>?_
      | refine Ok.or (fun hc=>?_) (fun hc hc2=>?_)
      | refine Ok.dec (fun hc=>?_) (fun hc=>?_)
      | refine Ok.beq (fun hc=>?_) (fun hc=>?_)
      | refine Ok.bne (fun hc=>?_) (fun hc=>?_)
      | refine Ok.cond (fun hc=>?_) (fun hc=>?_)
      | refine Ok.inl ?_
      | refine Ok.inr2 ?_
      | refine Ok.inr1 ?_
      | refine Ok.inr ?_
      | refine Ok.ret ?_
    · rfl
    · dsimp only;exact ⟨⟨rfl,rfl,rfl,by omega,by omega⟩,by omega⟩
    · dsimp only;exact ⟨⟨rfl,rfl,rfl,by omega,by omega⟩,by omega⟩
  refine Ok.ob hloop fun y hy=>Ok.two hy (fun a ha=>?_) (fun c hc=>Ok.ret (fun h=>by have h:c.1=0:=h;omega))
  obtain ⟨a0,a1,a2,a3,a4⟩:=a
  obtain ⟨g1,g2,g3⟩:=ha
  dsimp only at g1 g2 g3
  subst g1;subst g2;subst g3
  dsimp only
  refine Ok.ob (t_place a1 a3.key (by omega)) fun r3 hr3=>?_
  refine Ok.cond (fun _=>Ok.ret (fun h=>by cases h)) fun _=>Ok.cond (fun _=>Ok.ret (fun h=>by cases h)) fun _=>?_
  have tail:Ok (ob (ref11Take a1.free a3.ids) fun r6=>cond (r6.2.2 != 0) (some (a1,a2,r6.2.2))
      (ob (L176_20 r3 r6.1 0 (Book.mk a1.counters r6.2.1 a1.leases a1.bound) a2 a3 a4.1 a4.2) fun y7 =>
        cond (decide (y7.1≥0)) (cond (fits (([]++y7.2.1.counters).length)) (cond (decide (0≤y7.1)) (cond (decide (y7.1 < (([]++y7.2.1.counters).length:Int))) (ob (([]++y7.2.1.counters)[y7.1.toNat]?) fun e8=>cond (decide (0≤y7.1)) (cond (decide (y7.1 < (([]++y7.2.1.counters).length:Int))) (ob (([]++y7.2.1.counters)[y7.1.toNat]?) fun e9 =>
          cond (decide (0≤y7.1)) (cond (decide (y7.1 < (([]++y7.2.1.counters).length:Int))) (ob (([]++y7.2.1.counters)[y7.1.toNat]?) fun e10=>cond (decide (0≤y7.1)) (cond (decide (y7.1 < ((([]++y7.2.1.counters).set y7.1.toNat (Counter.mk e10.key e10.coll e10.lo e10.hi e10.start (w64 (e8.up_ - y7.2.2.2.1.up_)) e10.down_)).length:Int)))
            (ob ((([]++y7.2.1.counters).set y7.1.toNat (Counter.mk e10.key e10.coll e10.lo e10.hi e10.start (w64 (e8.up_ - y7.2.2.2.1.up_)) e10.down_))[y7.1.toNat]?) fun e11=>cond (fits (([]++y7.2.2.1.slices).length)) (cond (fits ((([]++y7.2.2.1.slices)++[(Slice.mk y7.2.2.2.1.key y7.2.2.2.1.up_ y7.2.2.2.1.down_ 0 0)]).length))
              (some ((Book.mk ((([]++y7.2.1.counters).set y7.1.toNat (Counter.mk e10.key e10.coll e10.lo e10.hi e10.start (w64 (e8.up_ - y7.2.2.2.1.up_)) e10.down_)).set y7.1.toNat (Counter.mk e11.key e11.coll e11.lo e11.hi e11.start e11.up_ (w64 (e9.down_ - y7.2.2.2.1.down_)))) y7.2.1.free y7.2.1.leases y7.2.1.bound),(Lease.mk y7.2.2.1.device y7.2.2.1.epoch y7.2.2.1.until_ y7.2.2.1.last (([]++y7.2.2.1.slices)++[(Slice.mk y7.2.2.2.1.key y7.2.2.2.1.up_ y7.2.2.2.1.down_ 0 0)]) y7.2.2.1.ids y7.2.2.1.used),0))
              none) none) none) none) none) none) none) none) none) none) none) (some (y7.2.1,y7.2.2.1,0)))) (fun y=>y.2.2=0→WOk a1 a2 y.1 y.2.1):=by
    refine Ok.ob (t_Take a1.free a3.ids hf (by have:=rl_nonneg _ hi;omega) (by omega)) fun t ht=>Ok.bne (fun hne=>Ok.ret (fun h=>absurd h hne)) fun hz=>?_
    obtain ⟨t1,t2,t3⟩:=ht hz
    have ht2:=rl_nonneg _ t2
    have ht1:=rl_nonneg _ t1
    refine Ok.ob (t_L176_20 r3 t.1 _ a2 a3 _ _ t1 hi (by omega)) fun z hz'=>?_
    obtain ⟨z1,z2,z3,z4,z5,z6,z7,z8⟩:=hz'
    obtain ⟨q1,q2,q3,q4,q5⟩:=z
    dsimp only at z1 z2 z3 z4 z5 z6 z7 z8
    subst z1;subst z2;subst z3
    dsimp only
    have z4':=congrArg List.length z4
    refine Ok.dec (fun hge=>?_) (fun _=>Ok.ret fun _=>⟨rfl,rfl,rfl,t2,z7,show rl t.2.1+rl q3.ids≤_ by omega,show q3.slices.length≤_ by omega,z5,z6⟩)
    have hlt:q1 < (a1.counters.length:Int):=by omega
    repeat' first
      | refine Ok.need (by omega) ?_
      | refine Ok.need2 (by omega) (by omega) ?_
      | refine Ok.fit (by simp only [List.length_append,List.length_cons,List.length_nil,List.length_take,List.length_drop,List.length_set,List.nil_append]<;>omega) ?_
      | refine Ok.ob (Ok.get (by omega)) fun e he=>?_
      | refine Ok.need (by simp only [List.length_append,List.length_cons,List.length_nil,List.length_take,List.length_drop,List.length_set,List.nil_append]<;>omega) ?_
      | refine Ok.ob (Ok.get (by simp only [List.length_append,List.length_cons,List.length_nil,List.length_take,List.length_drop,List.length_set,List.nil_append]<;>omega)) fun e he=>?_
      | refine Ok.or (fun hc=>?_) (fun hc hc2=>?_)
      | refine Ok.dec (fun hc=>?_) (fun hc=>?_)
      | refine Ok.beq (fun hc=>?_) (fun hc=>?_)
      | refine Ok.bne (fun hc=>?_) (fun hc=>?_)
      | refine Ok.cond (fun hc=>?_) (fun hc=>?_)
      | refine Ok.inl ?_
      | refine Ok.inr2 ?_
      | refine Ok.inr1 ?_
      | refine Ok.inr ?_
      | refine Ok.ret ?_
    intro _
    exact ⟨rfl,rfl,by simp only [List.length_append,List.length_cons,List.length_nil,List.length_take,List.length_drop,List.length_set,List.nil_append]<;>omega,t2,z7,show rl t.2.1+rl q3.ids≤_ by omega,by dsimp only;simp only [List.length_append,List.length_cons,List.length_nil,List.length_take,List.length_drop,List.length_set,List.nil_append]<;>omega,z5,z6⟩
  refine Ok.dec (fun hge=>?_) (fun _=>tail)
  refine Ok.need (by omega) (Ok.ob (Ok.get (by omega)) fun e4 _=>Ok.dec (fun _=>Ok.ret (fun h=>by cases h)) fun _=>Ok.need (by omega) (Ok.ob (Ok.get (by omega)) fun e5 _=>Ok.dec (fun _=>Ok.ret (fun h=>by cases h)) fun _=>tail))
end Go.Proofs.YtcjpeijiaojeiaaGreat
