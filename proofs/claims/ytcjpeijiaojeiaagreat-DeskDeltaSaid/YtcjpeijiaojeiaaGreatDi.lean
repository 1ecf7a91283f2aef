/- Desks: they answer, within bounds. -/
import Derived.Test.YtcjpeijiaojeiaaGreatDh
namespace Go.Proofs.YtcjpeijiaojeiaaGreat
open Go Go.Ev
set_option maxRecDepth 100000
/-- bounds of a reply -/
structure RpOk (r:Reply):Prop where
  sl:r.lease.slices.length≤10
  id:r.lease.ids.length≤1000
  us:r.lease.used.length≤1000
/-- bounds of devices -/
structure DvOk (v:A6Device):Prop where
  h0:RpOk v.a0.reply
  h1:RpOk v.a1.reply
  h2:RpOk v.a2.reply
  h3:RpOk v.a3.reply
  h4:RpOk v.a4.reply
  h5:RpOk v.a5.reply
/-- bounds of a desk -/
structure DkOk (U B K N Z:Nat) (d:Desk):Prop where
  bk:BkOk U B d.book
  ln:d.book.leases.length≤N
  c0:CoOk K d.colls.a0
  c1:CoOk K d.colls.a1
  c2:CoOk K d.colls.a2
  lg:d.log.length≤2000
  op:∀ o∈d.log,0≤o.coll∧o.coll < 3∧o.dots.length≤100
  ls:d.lost.length≤Z
  dv:DvOk d.dev
theorem DkOk.mono {U B K N Z U' B' K' N' Z':Nat}{d:Desk}(h:DkOk U B K N Z d)(h1:U≤U')(h2:B≤B')(h3:K≤K')(h4:N≤N')(h5:Z≤Z'):DkOk U' B' K' N' Z' d :=
  ⟨h.bk.mono h1 h2,Nat.le_trans h.ln h4,h.c0.mono h3,h.c1.mono h3,h.c2.mono h3,h.lg,h.op,Nat.le_trans h.ls h5,h.dv⟩
theorem rp0 (e n:Int):RpOk (Reply.mk e n (Lease.mk 0 0 0 0 [] [] [])):=⟨Nat.zero_le _,Nat.zero_le _,Nat.zero_le _⟩
theorem co_sel {K:Nat}{c:Bool}{a b:Coll}(ha:CoOk K a)(hb:CoOk K b):CoOk K (Coll.sel c a b):=by
  cases c with
  | true=>exact ha
  | false=>exact hb
theorem co_mk {K:Nat}{c:Bool}{a b:Coll}(ha:CoOk K a)(hb:CoOk K b):CoOk K (Coll.mk (cond c a.v b.v) (cond c a.regs b.regs) (cond c a.elems b.elems) (cond c a.gone b.gone) (cond c a.sums b.sums) (cond c a.binds b.binds)):=co_sel (c:=c) ha hb
theorem rp_sel {c:Bool}{a b:Reply}(ha:RpOk a)(hb:RpOk b):RpOk (Reply.sel c a b):=by
  cases c with
  | true=>exact ha
  | false=>exact hb
theorem sel5 {α:Type}{P:α→Prop}{x1 x2 x3 x4 x5:α}{b1 b2 b3 b4:Bool}(h1:P x1)(h2:P x2)(h3:P x3)(h4:P x4)(h5:P x5):P (cond b1 x1 (cond b2 x2 (cond b3 x3 (cond b4 x4 x5)))):=by
  cases b1 with
  | true=>exact h1
  | false=>cases b2 with
    | true=>exact h2
    | false=>cases b3 with
      | true=>exact h3
      | false=>cases b4 with
        | true=>exact h4
        | false=>exact h5
theorem t_copyReply (r:Reply)(h:RpOk r):ref13_copyReply r=some r:=by
  unfold ref13_copyReply
  have h1:=h.sl
  have h2:=h.id
  have h3:=h.us
  simp only [List.nil_append]
  rw [fits_ok (n:=r.lease.slices.length) (by omega),fits_ok (n:=r.lease.ids.length) (by omega),fits_ok (n:=r.lease.used.length) (by omega)]
  rfl
theorem no_eq (e:Int):ref13_no e=some (Reply.mk e 0 (Lease.mk 0 0 0 0 [] [] [])):=rfl
theorem t_include {U B K N Z:Nat}(d:Desk)(o:Op)(h:DkOk U B K N Z d)(hU:U≤9000)(hK:K≤3900)(hd:o.dots.length≤100)(hc0:0≤o.coll)(hc3:o.coll < 3) :
    Ok (ref13_include d o) (fun y=>y.2=0→DkOk (U+1) B (K+1) N Z y.1):=by
  have hlg:=h.lg
  have tail:∀ bk':Book,BkOk (U+1) B bk'→bk'.leases.length≤N→∀ e1:Desk,∀ e2:Desk,
      Ok (cond (decide ((d.log.length:Int)≥2000)) (some (e1,11)) (cond (decide (0≤o.coll) && decide (o.coll < 3))
        (ob (ref10Apply (Coll.sel (decide (o.coll=0)) d.colls.a0 (Coll.mk (cond (decide (o.coll=1)) d.colls.a1.v d.colls.a2.v) (cond (decide (o.coll=1)) d.colls.a1.regs d.colls.a2.regs) (cond (decide (o.coll=1)) d.colls.a1.elems d.colls.a2.elems) (cond (decide (o.coll=1)) d.colls.a1.gone d.colls.a2.gone) (cond (decide (o.coll=1)) d.colls.a1.sums d.colls.a2.sums) (cond (decide (o.coll=1)) d.colls.a1.binds d.colls.a2.binds))) o) fun r4 =>
          cond (r4.2 != 0) (some (e2,r4.2)) (cond (decide (0≤o.coll) && decide (o.coll < 3)) (cond (fits (([]++o.dots).length)) (cond (fits (([]++d.log).length)) (cond (fits ((([]++d.log)++[(Op.mk o.dot o.coll o.ver o.kind o.key o.text o.n o.time ([]++o.dots))]).length))
            (some ((Desk.mk bk' (A3Coll.mk (Coll.sel (decide (o.coll=0)) r4.1 d.colls.a0) (Coll.sel (decide (o.coll=1)) r4.1 d.colls.a1) (Coll.sel (decide (o.coll=2)) r4.1 d.colls.a2)) (([]++d.log)++[(Op.mk o.dot o.coll o.ver o.kind o.key o.text o.n o.time ([]++o.dots))]) d.dev d.lost d.now),0)) none) none) none) none)) none)) (fun y=>y.2=0→DkOk (U+1) B (K+1) N Z y.1):=by
    intro bk' hb hbl e1 e2
    refine Ok.dec (fun _=>Ok.ret (fun hz=>absurd hz (by dsimp only;omega))) fun hlt=>Ok.need2 hc0 hc3 ?_
    refine Ok.ob (t_Apply _ o (co_sel h.c0 (co_mk h.c1 h.c2)) (by omega) hd) fun y hy=>Ok.bne (fun hne=>Ok.ret (fun hz=>absurd hz hne)) fun hz=>Ok.need2 hc0 hc3 ?_
    have hy:=hy hz
    have one:K≤K+1:=Nat.le_succ K
    simp only [List.nil_append]
    refine Ok.fit (by omega) (Ok.fit (by omega) (Ok.fit (by simp only [List.length_append,List.length_cons,List.length_nil,List.length_take,List.length_drop,List.length_set,List.nil_append]<;>omega) (Ok.ret fun _=>⟨hb,hbl,co_sel hy (h.c0.mono one),co_sel hy (h.c1.mono one),co_sel hy (h.c2.mono one),by dsimp only;simp only [List.length_append,List.length_cons,List.length_nil,List.length_take,List.length_drop,List.length_set,List.nil_append]<;>omega,mem_app1 h.op ⟨hc0,hc3,hd⟩,h.ls,h.dv⟩)))
  unfold ref13_include ref13_spends
  rw [ob_some]
  refine Ok.cond (fun _=>?_) (fun _=>tail d.book (h.bk.mono (Nat.le_succ U) (Nat.le_refl B)) h.ln d d)
  refine Ok.ob (t_Find2 d.book o.dot.device o.dot.epoch h.bk (by omega)) fun y hy=>Ok.cond (fun _=>Ok.ret (fun hz=>absurd hz (by dsimp only;omega))) fun hy2=>?_
  obtain ⟨k1,k2,k3,k4⟩:=hy (by cases hyy:y.2 with | true=>rfl | false=>rw [hyy] at hy2;cases hy2)
  have hl:=h.bk.ls _ k3
  have hil:=h.bk.il k3
  have hlu:=hl.used
  refine Ok.ob (t_Spend y.1 o hl (by omega) (by omega)) fun z hz=>Ok.bne (fun hne=>Ok.ret (fun hz=>absurd hz hne)) fun hz0=>?_
  obtain ⟨z1,z2,z3,z4⟩:=hz hz0
  have hz':LsOk (U+1) z.1:=⟨by rw [z3];exact hl.sl,by rw [z2];exact hl.ids,by omega⟩
  refine Ok.ob (t_Put d.book z.1 h.bk hz' (Nat.le_succ U) (by omega) (by rw [z2];omega) ?_) fun q hq=>?_
  · intro e h1 h2
    rw [z1,k4,k2] at h2
    cases h2
    rw [z2];exact Int.le_refl _
  · exact tail q.1 hq.1 (by rw [hq.2];exact h.ln) _ _
theorem t_merge {U B K N Z:Nat}(d:Desk)(c:Cmd)(h:DkOk U B K N Z d)(hU:U≤8000)(hK:K≤3800)(hc:CmOk c) :
    Ok (ref13_merge d c) (fun y=>DkOk (U+20) B (K+20) N Z y.1∧RpOk y.2):=by
  have hlg:=h.lg
  have hmono:DkOk (U+20) B (K+20) N Z d:=h.mono (by omega) (Nat.le_refl _) (by omega) (Nat.le_refl _) (Nat.le_refl _)
  unfold ref13_merge
  refine Ok.dec (fun _=>by rw [no_eq,ob_some];exact Ok.ret ⟨hmono,rp0 _ _⟩) fun h20=>Ok.ob (t_ref13Included d _ _ (by omega)) fun n _=>?_
  refine Ok.ob (P:=Stp (fun a=>DkOk (U+20) B (K+20) N Z a.2.2.2.2.2) (fun b=>b.2.2.2.1=d∧RpOk b.2.2.2.2.1)) ?_ fun y hy=>Ok.two hy (fun a ha=>Ok.ret ⟨ha,rp0 _ _⟩) (fun b hb=>Ok.ret ⟨by rw [hb.1];exact hmono,hb.2⟩)
  refine Ok.iter (fun x:Int×Int×Desk×Cmd×Desk×Reply×Desk=>x.2.2.1=d∧x.2.2.2.1=c∧0≤x.2.1∧x.2.1≤(c.ops.length:Int)∧DkOk (U+x.2.1.toNat) B (K+x.2.1.toNat) N Z x.2.2.2.2.2.2) (fun x=>c.ops.length - x.2.1.toNat) ?_ _ _ ⟨rfl,rfl,by dsimp only;omega,by dsimp only;omega,h⟩ (by dsimp only;omega)
  rintro ⟨n',i,d1,c1,d2,r,d3⟩ ⟨h1,h2,h3,h4,h5⟩
  dsimp only at h1 h2 h3 h4 h5
  subst h1;subst h2
  unfold stp_L59_6 step_L59_6
  dsimp only
  refine Ok.dec (fun hi=>?_) (fun _=>Ok.inr1 (h5.mono (by omega) (Nat.le_refl _) (by omega) (Nat.le_refl _) (Nat.le_refl _)))
  have hw:w64 (i+1)=i+1:=w64_ok (by omega)
  have ht:(i+1).toNat=i.toNat+1:=by omega
  refine Ok.need (by omega) (Ok.ob (Ok.get (by omega)) fun o ho=>?_)
  have hod:=hc.2.1 o ho.1
  refine Ok.ob (t_ref9Check o (by omega)) fun q hq=>Ok.bne (fun _=>by rw [no_eq,ob_some];exact Ok.inr2 ⟨rfl,rp0 _ _⟩) fun hq0=>?_
  obtain ⟨hc0,hc3⟩:=hq hq0
  refine Ok.cond (fun _=>by rw [no_eq,ob_some];exact Ok.inr2 ⟨rfl,rp0 _ _⟩) fun _=>Ok.dec (fun _=>Ok.inl ?_) fun _=>Ok.bne (fun _=>by rw [no_eq,ob_some];exact Ok.inr2 ⟨rfl,rp0 _ _⟩) fun _=>?_
  · dsimp only
    rw [hw,ht]
    exact ⟨⟨rfl,rfl,by omega,by omega,h5.mono (by omega) (Nat.le_refl _) (by omega) (Nat.le_refl _) (Nat.le_refl _)⟩,by omega⟩
  · refine Ok.ob (t_include d3 o h5 (by omega) (by omega) hod hc0 hc3) fun y hy=>Ok.bne (fun _=>by rw [no_eq,ob_some];exact Ok.inr2 ⟨rfl,rp0 _ _⟩) fun hy0=>Ok.inl ?_
    dsimp only
    rw [hw,ht]
    exact ⟨⟨rfl,rfl,by omega,by omega,hy hy0⟩,by omega⟩
section
variable {U B K N Z:Nat} (d:Desk) (c:Cmd) (h:DkOk U B K N Z d) (hU:U≤8000) (hB:B≤800000) (hN:N≤800) (hZ:Z≤800000) (h0:0≤c.device) (h6:c.device < 6)
include h hU hB hN hZ h0 h6
theorem t_reclaim:Ok (ref13_reclaim d c) (fun y=>DkOk U (B+U) K N Z y.1∧RpOk y.2):=by
  have _:_∧_∧_∧_∧_∧_:=⟨hU,hB,hN,hZ,h0,h6⟩
  have hlg:=h.lg
  have hm:DkOk U (B+U) K N Z d:=h.mono (Nat.le_refl _) (by omega) (Nat.le_refl _) (Nat.le_refl _) (Nat.le_refl _)
  unfold ref13_reclaim
  refine Ok.need2 h0 h6 (Ok.ob (t_Find2 d.book _ _ h.bk (by omega)) fun y _=>Ok.cond (fun _=>by rw [no_eq,ob_some];exact Ok.ret ⟨hm,rp0 _ _⟩) fun _=>Ok.dec (fun _=>by rw [no_eq,ob_some];exact Ok.ret ⟨hm,rp0 _ _⟩) fun _=>Ok.ob (t_ref13Included d _ _ (by omega)) fun _ _=>Ok.dec (fun _=>by rw [no_eq,ob_some];exact Ok.ret ⟨hm,rp0 _ _⟩) fun _=>Ok.dec (fun _=>by rw [no_eq,ob_some];exact Ok.ret ⟨hm,rp0 _ _⟩) fun _=>Ok.ob (t_Free d.book _ _ h.bk (by omega) (by omega)) fun z hz=>Ok.ret ⟨⟨hz.1,Nat.le_trans hz.2 h.ln,h.c0,h.c1,h.c2,h.lg,h.op,h.ls,h.dv⟩,rp0 _ _⟩)
theorem t_lose:Ok (ref13_lose d c) (fun y=>DkOk U (B+U) K N (Z+1) y.1∧RpOk y.2):=by
  have _:_∧_∧_∧_∧_∧_:=⟨hU,hB,hN,hZ,h0,h6⟩
  have hlg:=h.lg
  have hls:=h.ls
  have hm:DkOk U (B+U) K N (Z+1) d:=h.mono (Nat.le_refl _) (by omega) (Nat.le_refl _) (Nat.le_refl _) (Nat.le_succ _)
  unfold ref13_lose
  refine Ok.need2 h0 h6 (Ok.cond (fun _=>by rw [no_eq,ob_some];exact Ok.ret ⟨hm,rp0 _ _⟩) fun _=>Ok.ob (t_Lost d _ _ (by omega)) fun _ _=>Ok.cond (fun _=>by rw [no_eq,ob_some];exact Ok.ret ⟨hm,rp0 _ _⟩) fun _=>Ok.ob (t_Free d.book _ _ h.bk (by omega) (by omega)) fun z hz=>Ok.ob (t_ref13Included _ _ _ (by dsimp only;omega)) fun _ _=>?_)
  refine Ok.fit (by simp only [List.length_append,List.length_cons,List.length_nil,List.length_take,List.length_drop,List.length_set,List.nil_append]<;>omega) (Ok.fit (by simp only [List.length_append,List.length_cons,List.length_nil,List.length_take,List.length_drop,List.length_set,List.nil_append]<;>omega) (Ok.ret ⟨⟨hz.1,Nat.le_trans hz.2 h.ln,h.c0,h.c1,h.c2,h.lg,h.op,?_,h.dv⟩,rp0 _ _⟩))
  dsimp only
  simp only [List.length_append,List.length_cons,List.length_nil,List.length_take,List.length_drop,List.length_set,List.nil_append]<;>omega
theorem t_register:Ok (ref13_register d c) (fun y=>DkOk U B K N Z y.1∧RpOk y.2):=by
  have _:_∧_∧_∧_∧_∧_:=⟨hU,hB,hN,hZ,h0,h6⟩
  have hls:=h.ls
  have hv:=h.dv
  unfold ref13_register
  refine Ok.need2 h0 h6 (Ok.dec (fun _=>Ok.ob (t_Lost d _ _ (by omega)) fun _ _=>Ok.cond (fun _=>by rw [no_eq,ob_some];exact Ok.ret ⟨h,rp0 _ _⟩) fun _=>?_) fun _=>?_)
  all_goals refine Ok.dec (fun _=>by rw [no_eq,ob_some];exact Ok.ret ⟨h,rp0 _ _⟩) fun _=>Ok.need2 h0 h6 (Ok.ret ⟨⟨h.bk,h.ln,h.c0,h.c1,h.c2,h.lg,h.op,h.ls,⟨hv.h0,hv.h1,hv.h2,hv.h3,hv.h4,hv.h5⟩⟩,rp0 _ _⟩)
theorem t_checkout:Ok (ref13_checkout d c) (fun y=>DkOk U B K (N+1) Z y.1∧RpOk y.2):=by
  have _:_∧_∧_∧_∧_∧_:=⟨hU,hB,hN,hZ,h0,h6⟩
  have hln:=h.ln
  have hm:DkOk U B K (N+1) Z d:=h.mono (Nat.le_refl _) (Nat.le_refl _) (Nat.le_refl _) (Nat.le_succ _) (Nat.le_refl _)
  unfold ref13_checkout
  refine Ok.cond (fun _=>by rw [no_eq,ob_some];exact Ok.ret ⟨hm,rp0 _ _⟩) fun _=>Ok.ob (t_Grant d.book _ _ _ _ h.bk (by omega) (by omega)) fun y hy=>Ok.bne (fun _=>by rw [no_eq,ob_some];exact Ok.ret ⟨hm,rp0 _ _⟩) fun hz=>?_
  obtain ⟨k1,k2,k3,k4⟩:=hy hz
  exact Ok.ret ⟨⟨k1,by dsimp only;omega,h.c0,h.c1,h.c2,h.lg,h.op,h.ls,h.dv⟩,⟨k3.sl,k4,Nat.le_trans k3.used (Nat.zero_le _)⟩⟩
theorem t_closing:Ok (ref13_closing d c) (fun y=>DkOk U B K N Z y.1∧RpOk y.2):=by
  have _:_∧_∧_∧_∧_∧_:=⟨hU,hB,hN,hZ,h0,h6⟩
  have hlg:=h.lg
  unfold ref13_closing
  refine Ok.ob (t_Find2 d.book _ _ h.bk (by omega)) fun y hy=>Ok.cond (fun _=>by rw [no_eq,ob_some];exact Ok.ret ⟨h,rp0 _ _⟩) fun hy2=>Ok.ob (t_ref13Included d _ _ (by omega)) fun _ _=>Ok.cond (fun _=>by rw [no_eq,ob_some];exact Ok.ret ⟨h,rp0 _ _⟩) fun _=>?_
  obtain ⟨k1,k2,k3,k4⟩:=hy (by cases hyy:y.2 with | true=>rfl | false=>rw [hyy] at hy2;cases hy2)
  have hl:=h.bk.ls _ k3
  have hil:=h.bk.il k3
  refine Ok.ob (t_Put d.book _ h.bk (V:=U) ⟨hl.sl,hl.ids,hl.used⟩ (Nat.le_refl U) (by omega) (by dsimp only;omega) ?_) fun q hq=>Ok.ret ⟨⟨hq.1,by dsimp only;rw [hq.2];exact h.ln,h.c0,h.c1,h.c2,h.lg,h.op,h.ls,h.dv⟩,rp0 _ _⟩
  intro e h1 h2
  dsimp only at h1 h2
  rw [k4,k2] at h2
  cases h2
  exact Int.le_refl _
theorem t_request:Ok (ref13_request d c) (fun y=>DkOk U B K (N+1) Z y.1∧RpOk y.2):=by
  have hv:=h.dv
  have hls:=h.ls
  have hm:DkOk U B K (N+1) Z d:=h.mono (Nat.le_refl _) (Nat.le_refl _) (Nat.le_refl _) (Nat.le_succ _) (Nat.le_refl _)
  unfold ref13_request
  refine Ok.need2 h0 h6 (Ok.cond (fun _=>by rw [no_eq,ob_some];exact Ok.ret ⟨hm,rp0 _ _⟩) fun _=>Ok.beq (fun _=>?_) fun _=>Ok.dec (fun _=>by rw [no_eq,ob_some];exact Ok.ret ⟨hm,rp0 _ _⟩) fun _=>?_)
  · rw [t_copyReply _ (rp_sel hv.h0 ⟨sel5 (P:=fun l=>List.length l≤10) hv.h1.sl hv.h2.sl hv.h3.sl hv.h4.sl hv.h5.sl,sel5 (P:=fun l=>List.length l≤1000) hv.h1.id hv.h2.id hv.h3.id hv.h4.id hv.h5.id,sel5 (P:=fun l=>List.length l≤1000) hv.h1.us hv.h2.us hv.h3.us hv.h4.us hv.h5.us⟩),ob_some]
    exact Ok.ret ⟨hm,rp_sel hv.h0 ⟨sel5 (P:=fun l=>List.length l≤10) hv.h1.sl hv.h2.sl hv.h3.sl hv.h4.sl hv.h5.sl,sel5 (P:=fun l=>List.length l≤1000) hv.h1.id hv.h2.id hv.h3.id hv.h4.id hv.h5.id,sel5 (P:=fun l=>List.length l≤1000) hv.h1.us hv.h2.us hv.h3.us hv.h4.us hv.h5.us⟩⟩
  · have fin:∀ (e:Desk) (r:Reply),DkOk U B K (N+1) Z e→RpOk r→∀ (q:Int) (x0 x1 x2 x3 x4 x5 y0 y1 y2 y3 y4 y5:Int) (b0 b1 b2 b3 b4 b5:Bool),
        DkOk U B K (N+1) Z (Desk.mk e.book e.colls e.log (A6Device.mk (Device.mk x0 y0 (Reply.sel b0 r e.dev.a0.reply)) (Device.mk x1 y1 (Reply.sel b1 r e.dev.a1.reply)) (Device.mk x2 y2 (Reply.sel b2 r e.dev.a2.reply)) (Device.mk x3 y3 (Reply.sel b3 r e.dev.a3.reply)) (Device.mk x4 y4 (Reply.sel b4 r e.dev.a4.reply)) (Device.mk x5 y5 (Reply.sel b5 r e.dev.a5.reply))) e.lost e.now):=by
      intro e r he hr q x0 x1 x2 x3 x4 x5 y0 y1 y2 y3 y4 y5 b0 b1 b2 b3 b4 b5
      exact ⟨he.bk,he.ln,he.c0,he.c1,he.c2,he.lg,he.op,he.ls,⟨rp_sel hr he.dv.h0,rp_sel hr he.dv.h1,rp_sel hr he.dv.h2,rp_sel hr he.dv.h3,rp_sel hr he.dv.h4,rp_sel hr he.dv.h5⟩⟩
    refine Ok.beq (fun _=>?_) (fun _=>?_)
    · refine Ok.ob (t_register d c h hU hB hN hZ h0 h6) fun y hy=>?_
      rw [t_copyReply _ hy.2,ob_some]
      exact Ok.need2 h0 h6 (Ok.need2 h0 h6 (Ok.ret ⟨fin y.1 y.2 (hy.1.mono (Nat.le_refl _) (Nat.le_refl _) (Nat.le_refl _) (Nat.le_succ _) (Nat.le_refl _)) hy.2 0 _ _ _ _ _ _ _ _ _ _ _ _ _ _ _ _ _ _,hy.2⟩))
    · refine Ok.ob (t_current d c (by omega) h0 h6) fun e _=>Ok.bne (fun _=>?_) fun _=>?_
      · refine Ok.ob (t_current d c (by omega) h0 h6) fun e _=>?_
        rw [no_eq,ob_some,t_copyReply _ (rp0 _ _),ob_some]
        exact Ok.need2 h0 h6 (Ok.need2 h0 h6 (Ok.ret ⟨fin d _ hm (rp0 _ _) 0 _ _ _ _ _ _ _ _ _ _ _ _ _ _ _ _ _ _,rp0 _ _⟩))
      · refine Ok.beq (fun _=>?_) (fun _=>?_)
        · refine Ok.ob (t_checkout d c h hU hB hN hZ h0 h6) fun y hy=>?_
          rw [t_copyReply _ hy.2,ob_some]
          exact Ok.need2 h0 h6 (Ok.need2 h0 h6 (Ok.ret ⟨fin y.1 y.2 hy.1 hy.2 0 _ _ _ _ _ _ _ _ _ _ _ _ _ _ _ _ _ _,hy.2⟩))
        · refine Ok.ob (t_closing d c h hU hB hN hZ h0 h6) fun y hy=>?_
          rw [t_copyReply _ hy.2,ob_some]
          exact Ok.need2 h0 h6 (Ok.need2 h0 h6 (Ok.ret ⟨fin y.1 y.2 (hy.1.mono (Nat.le_refl _) (Nat.le_refl _) (Nat.le_refl _) (Nat.le_succ _) (Nat.le_refl _)) hy.2 0 _ _ _ _ _ _ _ _ _ _ _ _ _ _ _ _ _ _,hy.2⟩))
end
theorem t_Do {U B K N Z:Nat}(d:Desk)(c:Cmd)(h:DkOk U B K N Z d)(hU:U≤8000)(hB:B≤800000)(hK:K≤3800)(hN:N≤800)(hZ:Z≤800000)(hc:CmOk c) :
    Ok (ref13Do d c) (fun y=>DkOk (U+20) (B+U) (K+20) (N+1) (Z+1) y.1∧RpOk y.2):=by
  have hls:=h.ls
  have up:∀ {e:Desk} {U' B' K' N' Z':Nat},DkOk U' B' K' N' Z' e→U'≤U+20→B'≤B+U→K'≤K+20→N'≤N+1→Z'≤Z+1→DkOk (U+20) (B+U) (K+20) (N+1) (Z+1) e:=fun h h1 h2 h3 h4 h5=>h.mono h1 h2 h3 h4 h5
  have hm:=up h (by omega) (by omega) (by omega) (by omega) (by omega)
  unfold ref13Do
  refine Ok.cond (fun _=>by rw [no_eq,ob_some];exact Ok.ret ⟨hm,rp0 _ _⟩) fun _=>Ok.beq (fun _=>?_) fun _=>?_
  · refine Ok.cond (fun _=>by rw [no_eq,ob_some];exact Ok.ret ⟨hm,rp0 _ _⟩) fun _=>Ok.ret ⟨⟨hm.bk,hm.ln,hm.c0,hm.c1,hm.c2,hm.lg,hm.op,hm.ls,hm.dv⟩,rp0 _ _⟩
  · refine Ok.or (fun _=>by rw [no_eq,ob_some];exact Ok.ret ⟨hm,rp0 _ _⟩) fun hd0 hd6=>?_
    have h0:0≤c.device:=by omega
    have h6:c.device < 6:=by omega
    refine Ok.beq (fun _=>?_) fun _=>Ok.beq (fun _=>?_) fun _=>Ok.beq (fun _=>?_) fun _=>?_
    · refine Ok.ob (t_current d c (by omega) h0 h6) fun _ _=>Ok.bne (fun _=>Ok.ob (t_current d c (by omega) h0 h6) fun _ _=>by rw [no_eq,ob_some];exact Ok.ret ⟨hm,rp0 _ _⟩) fun _=>Ok.ob (t_merge d c h hU hK hc) fun y hy=>Ok.ret ⟨up hy.1 (by omega) (by omega) (by omega) (by omega) (by omega),hy.2⟩
    · exact Ok.ob (t_reclaim d c h hU hB hN hZ h0 h6) fun y hy=>Ok.ret ⟨up hy.1 (by omega) (by omega) (by omega) (by omega) (by omega),hy.2⟩
    · exact Ok.ob (t_lose d c h hU hB hN hZ h0 h6) fun y hy=>Ok.ret ⟨up hy.1 (by omega) (by omega) (by omega) (by omega) (by omega),hy.2⟩
    · exact Ok.ob (t_request d c h hU hB hN hZ h0 h6) fun y hy=>Ok.ret ⟨up hy.1 (by omega) (by omega) (by omega) (by omega) (by omega),hy.2⟩
end Go.Proofs.YtcjpeijiaojeiaaGreat
