/- Leases, and what acts become: they answer. -/
import Derived.Test.YtcjpeijiaojeiaaGreatDc
namespace Go.Proofs.YtcjpeijiaojeiaaGreat
open Go Go.Ev
set_option maxRecDepth 100000
/-- bounds of a lease -/
structure LsOk (U:Nat) (l:Lease):Prop where
  sl:l.slices.length≤10
  ids:∀ x∈l.ids,RG x
  used:l.used.length≤U
def lsum:List Lease→Int
  | []=>0
  | x::r=>rl x.ids+lsum r
theorem lsum_append:∀ l m:List Lease,lsum (l++m)=lsum l+lsum m
  | [],m=>by simp [lsum]
  | x::l,m=>by simp only [List.cons_append,lsum,lsum_append l m];omega
theorem rl_nonneg (l:List Range)(h:∀ x∈l,RG x):0≤rl l:=by have:=rl_len l h;omega
theorem lsum_mem:∀ {l:List Lease} {U:Nat},(∀ x∈l,LsOk U x)→0≤lsum l∧∀ x∈l,rl x.ids≤lsum l
  | [],_,_=>⟨Int.le_refl _,fun x hx=>by cases hx⟩
  | y::l,U,h=>by
    obtain ⟨h1,h2⟩:=lsum_mem (l:=l) (U:=U) fun x hx=>h x (by simp [hx])
    have h3:=rl_nonneg y.ids (h y (by simp)).ids
    refine ⟨by simp only [lsum];omega,fun x hx=>?_⟩
    simp only [lsum]
    rcases List.mem_cons.1 hx with rfl | hx
    · omega
    · have:=h2 x hx;omega
/-- bounds of a book -/
structure BkOk (U B:Nat) (b:Book):Prop where
  cn:b.counters.length≤10
  free:∀ x∈b.free,RG x
  ln:b.leases.length≤1000
  ls:∀ l∈b.leases,LsOk U l
  bd:b.bound.length≤B
  sum:rl b.free+lsum b.leases≤1000
theorem BkOk.fl {U B:Nat}{b:Book}(h:BkOk U B b):b.free.length≤1000∧rl b.free≤1000∧0≤rl b.free:=by
  have h1:=rl_len _ h.free
  have h2:=lsum_mem h.ls
  have h3:=h.sum
  omega
theorem BkOk.il {U B:Nat}{b:Book}(h:BkOk U B b){l:Lease}(hl:l∈b.leases):l.ids.length≤1000∧rl l.ids≤1000:=by
  have h1:=rl_len _ (h.ls l hl).ids
  have h2:=lsum_mem h.ls
  have h3:=h.sum
  have h4:=h2.2 l hl
  have h5:=rl_nonneg _ h.free
  omega
theorem t_at (b:Book)(v:Int)(hl:b.leases.length≤1000000):Ok (ref12_at b v) (fun r=>r < 0∨0≤r∧r < (b.leases.length:Int)∧∀ e,b.leases[r.toNat]?=some e→e.device=v):=by
  unfold ref12_at
  have hloop:Ok (L137_2 v 0 0 b) (Stp (fun _=>True) (fun y=>0≤y.1∧y.1 < (b.leases.length:Int)∧∀ e,b.leases[y.1.toNat]?=some e→e.device=v)):=by
    refine Ok.iter (fun x=>x.1=v∧x.2.2.2=b∧0≤x.2.2.1∧x.2.2.1≤(b.leases.length:Int)) (fun x=>b.leases.length - x.2.2.1.toNat) ?_ _ _ ⟨rfl,rfl,by dsimp only;omega,by dsimp only;omega⟩ (by dsimp only;omega)
    rintro ⟨v',n,i,b'⟩ ⟨h0,h1,h2,h3⟩
    dsimp only at h0 h1 h2 h3
    subst h0;subst h1
    unfold stp_L137_2 step_L137_2
    dsimp only
    refine Ok.dec (fun hi=>?_) (fun _=>Ok.inr1 trivial)
    have hw:w64 (i+1)=i+1:=w64_ok (by omega)
    refine Ok.need (by omega) (Ok.ob (Ok.get (by omega)) fun e he=>Ok.beq (fun hd=>Ok.inr2 ⟨h2,hi,fun e' he'=>?_⟩) (fun _=>Ok.inl ?_))
    · dsimp only at he'
      rw [he.2] at he'
      cases he'
      exact hd
    · dsimp only
      exact ⟨⟨rfl,rfl,by omega,by omega⟩,by omega⟩
  exact Ok.ob hloop fun y hy=>Ok.two hy (fun _ _=>Ok.ret (.inl (by omega))) (fun _ hb=>Ok.ret (.inr hb))
theorem fits_ok {n:Nat}(h:n≤1073741824):fits n=true:=decide_eq_true h
theorem t_copy (l:Lease)(h1:l.slices.length≤1000000)(h2:l.ids.length≤1000000)(h3:l.used.length≤1000000):ref12CopyOf l=some l:=by
  unfold ref12CopyOf
  simp only [List.nil_append]
  rw [fits_ok (n:=l.slices.length) (by omega),fits_ok (n:=l.ids.length) (by omega),fits_ok (n:=l.used.length) (by omega)]
  rfl
theorem t_Find {U B:Nat}(b:Book)(v e:Int)(h:BkOk U B b)(hU:U≤1000000):Ok (ref12Find b v e) (fun y=>y.2=true→∃ k:Int,ref12_at b v=some k∧0≤k∧k < (b.leases.length:Int)∧b.leases[k.toNat]?=some y.1∧y.1∈b.leases∧y.1.device=v):=by
  unfold ref12Find
  obtain ⟨r,hr,hr2⟩:=t_at b v (by have:=h.ln;omega)
  rw [hr,ob_some]
  refine Ok.dec (fun _=>Ok.ret (by simp)) (fun hneg=>?_)
  obtain ⟨r1,r2,r3⟩:=hr2.resolve_left hneg
  refine Ok.need r1 (Ok.ob (Ok.get (by omega)) fun l hl=>Ok.cond (fun _=>Ok.ret (by simp)) fun _=>Ok.need r1 (Ok.ob (Ok.get (by omega)) fun l' hl'=>?_))
  have hb:=h.ls l' hl'.1
  have hi:=h.il hl'.1
  rw [t_copy l' (by have:=hb.sl;omega) (by omega) (by have:=hb.used;omega),ob_some]
  exact Ok.ret fun _=>⟨r,rfl,r1,r2,hl'.2,hl'.1,r3 l' hl'.2⟩
theorem t_fit {U B:Nat}(d:Desk)(o:Op)(n:Int)(h:BkOk U B d.book)(hU:U≤1000000):Ok (l13_fit d o n) (fun y=>y.dots=o.dots):=by
  unfold l13_fit
  refine Ok.ob (t_Find d.book _ _ h hU) fun y hy=>?_
  refine Ok.cond (fun _=>Ok.cond (fun _=>Ok.ret rfl) (fun _=>Ok.ret rfl)) (fun hc=>?_)
  have h2:y.2=true:=by
    cases hy2:y.2 with
    | true=>rfl
    | false=>rw [hy2] at hc;revert hc;cases (n.tmod 4 == 0)<;>exact fun h=>by cases h
  obtain ⟨k,_,_,_,_,hm,_⟩:=hy h2
  have hl:=h.ls _ hm
  have hi:=h.il hm
  refine Ok.cond (fun hc5=>?_) (fun _=>?_)
  · have h0:0 < y.1.ids.length:=by
      by_cases h0:(y.1.ids.length:Int) > 0
      · omega
      · rw [decide_eq_false h0] at hc5;revert hc5;cases (o.kind == 5)<;>exact fun h=>by cases h
    have hx:∃ r t,y.1.ids=r::t:=by
      cases hl:y.1.ids with
      | nil=>rw [hl] at h0;simp at h0
      | cons r t=>exact ⟨r,t,rfl⟩
    obtain ⟨r,t,hrt⟩:=hx
    rw [hrt]
    have hrg:RG r:=hl.ids r (by rw [hrt];simp)
    have htk:(r::t).take 1=[r]:=rfl
    refine Ok.ob (Ok.get (by simp)) fun e _=>Ok.need (by simp only [List.length_cons];omega) ?_
    rw [htk]
    refine Ok.ob (t_ref11Len1 r hrg) fun q hq=>Ok.ob (t_within (by have:=hrg.2.1;omega) (by have:=hrg.2.2;have:=hrg.1;omega)) fun _ _=>Ok.cond (fun hc4=>?_) (fun _=>Ok.ret rfl)
    have h0s:0 < y.1.slices.length:=by
      by_cases h0:(y.1.slices.length:Int) > 0
      · omega
      · rw [decide_eq_false h0] at hc4;revert hc4;cases (o.kind == 4)<;>exact fun h=>by cases h
    exact Ok.ob (Ok.get h0s) fun _ _=>Ok.ret rfl
  · refine Ok.cond (fun hc4=>?_) (fun _=>Ok.ret rfl)
    have h0s:0 < y.1.slices.length:=by
      by_cases h0:(y.1.slices.length:Int) > 0
      · omega
      · rw [decide_eq_false h0] at hc4;revert hc4;cases (o.kind == 4)<;>exact fun h=>by cases h
    exact Ok.ob (Ok.get h0s) fun _ _=>Ok.ret rfl
/-- a command that is not too much -/
def CmOk (c:Cmd):Prop:=c.ops.length≤30∧(∀ o∈c.ops,o.dots.length≤100)∧c.wants.length≤30
theorem t_L28 {U B:Nat}(r0 r6:Int)(a:Act)(d:Desk)(c1 c2:Cmd)(h:BkOk U B d.book)(hU:U≤1000000)(hc:c2.ops=[])(hw:c2.wants.length≤30) :
    Ok (L28_12 r0 r6 0 a d c1 c2) (fun y=>CmOk y.2.2.2.2):=by
  refine Ok.iter (fun x=>x.2.2.2.2.1=d∧0≤x.2.2.1∧x.2.2.1≤6∧(x.2.2.2.2.2.2.ops.length:Int)≤x.2.2.1∧(∀ o∈x.2.2.2.2.2.2.ops,o.dots.length≤100)∧x.2.2.2.2.2.2.wants.length≤30) (fun x=>6 - x.2.2.1.toNat) ?_ _ _ ⟨rfl,by dsimp only;omega,by dsimp only;omega,by dsimp only;rw [hc];simp,by dsimp only;rw [hc];simp,hw⟩ (by dsimp only;omega)
  rintro ⟨i1,i2,i3,a',d',e1,e2⟩ ⟨h1,h2,h3,h4,h5,h6⟩
  dsimp only at h1 h2 h3 h4 h5 h6
  subst h1
  unfold stp_L28_12 step_L28_12
  dsimp only
  refine Ok.cond (fun hcc=>?_) (fun _=>Ok.inr ⟨by dsimp only;omega,h5,h6⟩)
  by_cases hi:i3 < (a'.ops.length:Int)
  · by_cases hi6:i3 < 6
    · clear hcc
      have hw:w64 (i3+1)=i3+1:=w64_ok (by omega)
      refine Ok.need (by omega) (Ok.ob (Ok.get (by omega)) fun e0 _=>Ok.ob (t_l9Good e0) fun q hq=>Ok.ob (t_within (by omega) (by omega)) fun _ _=>Ok.ob (t_fit d' _ _ h hU) fun z hz=>Ok.fit (by simp only [List.length_append,List.length_cons,List.length_nil,List.length_take,List.length_drop,List.length_set,List.nil_append];omega) (Ok.inl ?_))
      dsimp only
      refine ⟨⟨rfl,by omega,by omega,by rw [List.length_append,List.length_singleton];omega,fun o ho=>?_,h6⟩,by omega⟩
      rcases List.mem_append.1 ho with ho | ho
      · exact h5 o ho
      · rw [List.mem_singleton.1 ho,hz]
        dsimp only
        omega
    · rw [decide_eq_true hi,decide_eq_false hi6] at hcc;cases hcc
  · rw [decide_eq_false hi] at hcc;cases hcc
theorem t_ActCmd {U B:Nat}(a:Act)(d:Desk)(h:BkOk U B d.book)(hU:U≤1000000)(hlog:d.log.length≤1000000)(ha:a.wants.length≤1000000):Ok (l13ActCmd a d) CmOk:=by
  unfold l13ActCmd
  repeat' first
    | refine Ok.need (by omega) ?_
    | refine Ok.need2 (by omega) (by omega) ?_
    | refine Ok.fit (by simp only [List.length_append,List.length_cons,List.length_nil,List.length_take,List.length_drop,List.length_set,List.nil_append];omega) ?_
    | refine Ok.ob (Ok.get (by omega)) fun e he=>?_
    | refine Ok.need (by simp only [List.length_append,List.length_cons,List.length_nil,List.length_take,List.length_drop,List.length_set,List.nil_append];omega) ?_
    | refine Ok.ob (Ok.get (by simp only [List.length_append,List.length_cons,List.length_nil,List.length_take,List.length_drop,List.length_set,List.nil_append];omega)) fun e he=>?_
    | refine Ok.ob (t_within (by omega) (by omega)) fun y hy=>?_
    | refine Ok.ob (t_l12Wants _ ha) fun y hy=>?_
    | refine Ok.ob (t_ref13Included _ _ _ hlog) fun y hy=>?_
    | refine Ok.ob (t_L28 _ _ _ _ _ _ h hU rfl (by dsimp only;omega)) fun y hy=>?_
    | refine Ok.or (fun hc=>?_) (fun hc hc2=>?_)
    | refine Ok.dec (fun hc=>?_) (fun hc=>?_)
    | refine Ok.beq (fun hc=>?_) (fun hc=>?_)
    | refine Ok.bne (fun hc=>?_) (fun hc=>?_)
    | refine Ok.cond (fun hc=>?_) (fun hc=>?_)
    | refine Ok.inl ?_
    | refine Ok.inr2 ?_
    | refine Ok.inr1 ?_
    | refine Ok.inr ?_
    | refine Ok.ret ?_
  all_goals assumption
end Go.Proofs.YtcjpeijiaojeiaaGreat
