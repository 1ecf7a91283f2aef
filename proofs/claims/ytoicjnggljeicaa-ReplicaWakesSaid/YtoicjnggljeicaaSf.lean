/- One act of a script of three replicas answers true, and keeps what always holds. -/
import Derived.Test.YtoicjnggljeicaaSe
namespace Go.Proofs.Ytoicjnggljeicaa
open Go Go.Ev
set_option maxRecDepth 100000
theorem entries_some (l1 l2:List Entry)(h1:l1.length≤1000000):∃ b,equalEntries l1 l2=some b:=by
  unfold equalEntries
  by_cases hl:l1.length=l2.length
  · rw [cnf (by omega)]
    have b:=psame_loop l1 l2 hl h1 l1.length 0 false (((l1.length:Int) - 0).toNat+2) (by omega) (by omega)
    have e:L34_4 l1 l2 false (l1.length:Int) 0=some (cond (eqL (l1.drop 0) (l2.drop 0)) (.inl false) (.inr false)):=b
    rw [e,ob_some]
    cases eqL (l1.drop 0) (l2.drop 0)<;>exact ⟨_,rfl⟩
  · rw [cnt_ (by omega)];exact ⟨_,rfl⟩
theorem same_some (n m:Node)(h1:n.log.length≤1000000):∃ b,same n m=some b:=by
  unfold same
  obtain ⟨b,hb⟩:=entries_some n.log m.log h1
  rw [hb,ob_some]
  cases (n.id_ == m.id_) with
  | false=>exact ⟨_,rfl⟩
  | true =>
  cases (n.term_ == m.term_) with
  | false=>exact ⟨_,rfl⟩
  | true =>
  cases (n.vote == m.vote) with
  | false=>exact ⟨_,rfl⟩
  | true =>
  cases (n.base == m.base) with
  | false=>exact ⟨_,rfl⟩
  | true =>
  cases (n.baseTerm == m.baseTerm) with
  | false=>exact ⟨_,rfl⟩
  | true =>
  cases (sEq n.snap m.snap) with
  | false=>exact ⟨_,rfl⟩
  | true=>exact ⟨_,rfl⟩
/-- three nodes and messages under way -/
def toA (N:Nat→Raft.AN):A3Node:=A3Node.mk (toN (N 0)) (toN (N 1)) (toN (N 2))
def toT (N:Nat→Raft.AN)(M:List Raft.AM):Three:=Three.mk (toA N) (M.map toM)
theorem gN_eq (N:Nat→Raft.AN){i:Nat}(h:i < 3):gN (toA N) (i:Int)=toN (N i):=by
  rcases i with _ | _ | _ | i
  · rfl
  · rfl
  · rfl
  · omega
theorem pN_eq (N:Nat→Raft.AN){i:Nat}(h:i < 3)(a:Raft.AN):pN (toA N) (i:Int) (toN a)=toA (Raft.up N i a):=by
  rcases i with _ | _ | _ | i
  · rfl
  · rfl
  · rfl
  · omega
theorem cmN_eq (N:Nat→Raft.AN){i:Nat}(h:i < 3):cmN (toA N) (i:Int)=((N i).commit:Int):=by
  rcases i with _ | _ | _ | i
  · rfl
  · rfl
  · rfl
  · omega
theorem ok3_eq {i:Nat}(h:i < 3):ok3 (i:Int)=true:=in3 h
theorem lay_eq (n:A3Node)(l:List Msg)(h:l.length≤1000):lay n l=some (true,Three.mk n (l.drop (l.length - 60))):=by
  unfold lay
  rw [fits_ok (by omega),cond_true]
  by_cases h60:l.length > 60
  · have hw:w64 ((l.length:Int) - 60)=((l.length - 60:Nat):Int):=by rw [w64_ok (by omega)];omega
    rw [cdt (by omega),hw,cdt (by omega),cdt (by omega),cdt (by omega),Int.toNat_natCast,Int.toNat_natCast,List.take_length]
  · rw [cdf (by omega),show l.length - 60=0 by omega,List.drop_zero]
structure Inv (N:Nat→Raft.AN) (M:List Raft.AM) (B:Nat):Prop where
  sys:Raft.Sys N M B
  few:M.length≤60
  wait:∀ j,j < 3→(N j).wait≤B
theorem sys_sub {N:Nat→Raft.AN}{M M':List Raft.AM}{B:Nat}(h:Raft.Sys N M B)(hM:∀ m∈M',m∈M):Raft.Sys N M' B:=by
  obtain ⟨g,a,b,c⟩:=h.ok
  exact ⟨g,a,b,fun m hm=>c m (hM m hm)⟩
theorem sys_more {N:Nat→Raft.AN}{M:List Raft.AM}{B:Nat}(h:Raft.Sys N M B):Raft.Sys N M (B+1):=by
  obtain ⟨g,a,b,c⟩:=h.ok
  exact ⟨g,a.more (Nat.le_succ B),b,fun m hm=>(c m hm).mono (.refl g) (Nat.le_succ B)⟩
theorem fin_step {N:Nat→Raft.AN}{M MS:List Raft.AM}{B i:Nat}{r:Raft.AN×List Raft.AM}(h:Inv N M B)(hB:B≤10000)(hi:i < 3)
    (hr:∀ g,Raft.GI g B→Raft.NI g i (N i)→(∀ m∈M,Raft.MI g B m)→Raft.Good g B i r) (hMS:∀ m∈MS,m∈M) (hml:MS.length≤60) (hrl:r.2.length≤2) (hw:r.1.wait≤B+1) :
    ∃ M',fin3 (toT N MS) (i:Int) (toN r.1) (r.2.map toM) (toN r.1) (r.2.map toM)=some (true,toT (Raft.up N i r.1) M')∧Inv (Raft.up N i r.1) M' (B+1):=by
  have hs1:Raft.Sys (Raft.up N i r.1) (M++r.2) (B+1):=Raft.Sys.step h.sys hi hr fun m hm=>List.mem_append.1 hm
  have hwait:∀ j,j < 3→(Raft.up N i r.1 j).wait≤B+1:=by
    intro j hj
    unfold Raft.up
    split
    · exact hw
    · have:=h.wait j hj;omega
  obtain ⟨nw,_,_,nl⟩:=sys_node hs1 (by omega) hi (hwait i hi)
  rw [Raft.up_same] at nw nl
  obtain ⟨ow,_,_,ol⟩:=sys_node h.sys (by omega) hi (h.wait i hi)
  have hnl:(toN r.1).log.length≤1000000:=by rw [n_log,toL_len,List.length_drop];omega
  have hol:(toN (N i)).log.length≤1000000:=by rw [n_log,toL_len,List.length_drop];omega
  have hms:=same_msgs (r.2.map toM) (by rw [List.length_map];omega) (fun m hm=>by
    obtain ⟨x,hx,rfl⟩:=List.mem_map.1 hm
    have:=toM_es x (sys_msg hs1 (by omega) (List.mem_append.2 (.inr hx))).1
    omega)
  obtain ⟨b,hb⟩:=same_some (toN r.1) (toN (N i)) hnl
  refine ⟨(MS++r.2).drop ((MS++r.2).length - 60),?_,⟨sys_sub hs1 fun m hm=>?_,?_,hwait⟩⟩
  · unfold fin3
    rw [toRef_eq _ hnl,ob_some,rsame_refl _ hnl,ob_some,Bool.not_true,cond_false,hms,ob_some,Bool.not_true,cond_false,ok3_eq hi,cond_true,
      show (toT N MS).n=toA N from rfl,gN_eq N hi,hb,ob_some,cond_true,toRef_eq _ hol,ob_some,rsame_eq _ _ hnl hol,hb,ob_some,
      show (!(b == b))=false by cases b<;>rfl,cond_false,cond_true,pN_eq N hi,show (toT N MS).m=MS.map toM from rfl,← List.map_append,lay_eq _ _ (by rw [List.length_map,List.length_append];omega),
      List.length_map,← List.map_drop]
    rfl
  · rcases List.mem_append.1 (List.mem_of_mem_drop hm) with hm | hm
    · exact List.mem_append.2 (.inl (hMS m hm))
    · exact List.mem_append.2 (.inr hm)
  · rw [List.length_drop];omega
theorem others_len (i:Nat):(Raft.others i).length=2:=by unfold Raft.others;split<;>rfl
theorem tick_len (a:Raft.AN):(Raft.tick a).2.length≤2∧(Raft.tick a).1.wait≤a.wait+1:=by
  unfold Raft.tick
  split
  · exact ⟨by rw [List.length_map,others_len];omega,Nat.le_succ _⟩
  · split
    · exact ⟨by unfold Raft.standA;rw [List.length_map,others_len];omega,Nat.zero_le _⟩
    · exact ⟨Nat.zero_le _,Nat.le_refl _⟩
theorem bump_wait (a:Raft.AN)(t:Nat):(Raft.bumpA a t).wait=a.wait:=by unfold Raft.bumpA;split<;>rfl
theorem took_len (a:Raft.AN)(m:Raft.AM):(took a m).2.length≤2∧(took a m).1.wait≤a.wait:=by
  cases m with
  | vote s d t idx lt =>
    simp only [took];unfold Raft.takeVote
    split<;>simp
  | voted s d t y =>
    simp only [took];unfold Raft.takeVoted
    split
    · split
      · simp
      · simp [others_len]
    · simp
  | add s d t idx lt es c =>
    simp only [took];unfold Raft.takeAdd
    split
    · simp
    · split
      · simp
      · split<;>simp
  | added s d t y idx =>
    simp only [took];unfold Raft.takeHeard
    split
    · split
      · simp
      · dsimp only
        split<;>simp
    · simp
  | snap s d t idx lt pre b =>
    simp only [took];unfold Raft.takeSnap
    split
    · simp
    · split<;>simp
theorem take_len (a:Raft.AN)(m:Raft.AM):(Raft.take a m).2.length≤2∧(Raft.take a m).1.wait≤a.wait:=by
  rw [take_took]
  have:=took_len (Raft.bumpA a m.term) m
  rw [bump_wait] at this
  exact this
theorem outK_eq (N:Nat→Raft.AN)(M:List Raft.AM)(hM:M.length≤60){q:Nat}(hq:q < M.length)(K:Msg→List Msg→Option (Bool×Three)) :
    outK (toT N M) (q:Int) K=K (toM M[q]) ((M.take q++M.drop (q+1)).map toM):=by
  have hl:(toT N M).m.length=M.length:=List.length_map ..
  have hw:w64 ((q:Int)+1)=((q+1:Nat):Int):=w64_ok (by omega)
  have e1:([]++((toT N M).m.take q))++(((toT N M).m.take (M.length:Int).toNat).drop (q+1))=(M.take q++M.drop (q+1)).map toM:=by
    rw [List.nil_append,Int.toNat_natCast,show (toT N M).m=M.map toM from rfl,List.take_of_length_le (l:=M.map toM) (i:=M.length) (by rw [List.length_map];omega),List.map_append,List.map_take,List.map_drop]
  unfold outK
  rw [hl,hw,Int.toNat_natCast,Int.toNat_natCast,cdt (by omega),cdt (by omega),show (toT N M).m[q]?=some (toM M[q]) by rw [show (toT N M).m=M.map toM from rfl,List.getElem?_map,List.getElem?_eq_getElem hq];rfl,ob_some,
    cdt (by omega),cdt (by omega),fits_ok (by rw [List.nil_append,List.length_take,hl];omega),cond_true,cdt (by omega),cdt (by omega),cdt (by omega),e1,
    fits_ok (by rw [List.length_map,List.length_append,List.length_take,List.length_drop];omega),cond_true]
/-- an act -/
theorem do_ok {N:Nat→Raft.AN}{M:List Raft.AM}{B:Nat}(h:Inv N M B)(hB:B≤10000)(ax:Act):∃ N' M',threeDo ax (toT N M)=some (true,toT N' M')∧Inv N' M' (B+1):=by
  have hx0:=Int.emod_nonneg ax.i (by omega:(3:Int)≠0)
  have hx1:=Int.emod_lt_of_pos ax.i (by omega:(0:Int) < 3)
  obtain ⟨i,hxi⟩:=Int.eq_ofNat_of_zero_le hx0
  have hi:i < 3:=by omega
  have h0:within ax.i 3=some (i:Int):=by rw [within_eq (by omega) (by omega),hxi]
  have hl:(toT N M).m.length=M.length:=List.length_map ..
  have hmx:max2 ((toT N M).m.length:Int) 1=((max M.length 1:Nat):Int):=by rw [hl];exact max2_nat M.length 1
  have hfew:=h.few
  have hq0:=Int.emod_nonneg ax.n (by omega:((max M.length 1:Nat):Int)≠0)
  have hq1:=Int.emod_lt_of_pos ax.n (by omega:(0:Int) < ((max M.length 1:Nat):Int))
  obtain ⟨q,hqi⟩:=Int.eq_ofNat_of_zero_le hq0
  have hn:within ax.n (max2 ((toT N M).m.length:Int) 1)=some (q:Int):=by rw [hmx,within_eq (by omega) (by omega),hqi]
  have hk0:=Int.emod_nonneg ax.kind (by omega:(16:Int)≠0)
  have hk1:=Int.emod_lt_of_pos ax.kind (by omega:(0:Int) < 16)
  have hk:within ax.kind 16=some (ax.kind % 16):=within_eq (by omega) (by omega)
  generalize ax.kind % 16=k at *
  obtain ⟨ow,hld,hid,ol⟩:=sys_node h.sys (by omega) hi (h.wait i hi)
  have hol:(toN (N i)).log.length≤1000000:=by rw [n_log,toL_len,List.length_drop];omega
  have hg:gN (toT N M).n (i:Int)=toN (N i):=gN_eq N hi
  have hstart:∀ z:Option (Bool×Three),(cond (ok3 (i:Int)) (ob (l15_toRef (gN (toT N M).n (i:Int))) fun _=>z) none)=z:=fun z=>by
    rw [ok3_eq hi,cond_true,hg,toRef_eq _ hol,ob_some]
  have nothing:∃ N' M',some (true,toT N M)=some (true,toT N' M')∧Inv N' M' (B+1):=⟨N,M,rfl,⟨sys_more h.sys,hfew,fun j hj=>Nat.le_succ_of_le (h.wait j hj)⟩⟩
  have hsame:∀ g,Raft.GI g B→Raft.NI g i (N i)→(∀ m∈M,Raft.MI g B m)→Raft.Good g B i (N i,[]):=fun g h1 h2 _=>Raft.Good.same h1 h2 (by simp)
  have hwi:=h.wait i hi
  have hcase:(k=0∨k=1∨k=2)∨(k=3∨k=4∨k=5∨k=6∨k=7∨k=8∨k=9)∨k=10∨k=11∨(k=12∨k=13)∨k=14∨k=15:=by omega
  rcases hcase with hc | hc | hc | hc | hc | hc | hc
  · rw [red_tick h0 hn hk hc,hstart]
    unfold bTick
    rw [hg,tick_eq _ ow hld,ob_some,toRef_eq _ hol,ob_some,rtick_eq _ ow hld,ob_some]
    have ht:=tick_len (N i)
    obtain ⟨M',k1,k2⟩:=fin_step (r:=Raft.tick (N i)) h hB hi (fun g h1 h2 _=>Raft.tick_ok h1 h2) (fun _ hm=>hm) hfew ht.1 (by omega)
    exact ⟨_,M',k1,k2⟩
  · rw [red_take h0 hn hk hc,hstart]
    unfold bTake
    rw [hl]
    by_cases h00:M.length=0
    · rw [cbt (by omega)];exact nothing
    · have hqM:q < M.length:=by omega
      rw [cbf (by omega),outK_eq N M hfew hqM]
      have hmem:M[q]∈M:=List.getElem_mem hqM
      generalize M[q]=m at *
      obtain ⟨wm,ms,md,mne,mt⟩:=sys_msg h.sys (by omega) hmem
      obtain ⟨dw,dld,did,dl⟩:=sys_node h.sys (by omega) md (h.wait _ md)
      have hdl:(toN (N m.dst)).log.length≤1000000:=by rw [n_log,toL_len,List.length_drop];omega
      have hes:=toM_es m wm
      have hgood:∀ g,Raft.GI g B→Raft.NI g m.dst (N m.dst)→(∀ m∈M,Raft.MI g B m)→Raft.Good g B m.dst (Raft.take (N m.dst) m):=fun g h1 h2 h3=>Raft.take_ok h1 h2 (h3 m hmem) rfl
      have hs1:Raft.Sys (Raft.up N m.dst (Raft.take (N m.dst) m).1) M (B+1):=Raft.Sys.step h.sys md hgood fun m hm=>.inl hm
      have htl:=take_len (N m.dst) m
      have hdw:=h.wait _ md
      have hres:(Raft.take (N m.dst) m).1.log.length≤200000:=by
        have:=(sys_node hs1 (by omega) md (by rw [Raft.up_same];omega)).2.2.2
        rw [Raft.up_same] at this
        omega
      unfold bTake1
      rw [m_to,ok3_eq md,cond_true,show (toT N M).n=toA N from rfl,gN_eq N md,take_eq _ dw dld m wm ms did.symm (by rw [did];exact mne) mt (by omega) hres,ob_some,cond_true,toRef_eq _ hdl,ob_some,
        toRefMsg_eq _ (by omega),ob_some,rtake_eq _ dw dld m wm ms did.symm (by rw [did];exact mne) mt (by omega),ob_some]
      obtain ⟨M',k1,k2⟩:=fin_step (MS:=M.take q++M.drop (q+1)) (r:=Raft.take (N m.dst) m) h hB md hgood
        (fun x hx=>by rcases List.mem_append.1 hx with hx | hx;exact List.mem_of_mem_take hx;exact List.mem_of_mem_drop hx)
        (by rw [List.length_append,List.length_take,List.length_drop];omega) htl.1 (by omega)
      exact ⟨_,M',k1,k2⟩
  · rw [red_lose h0 hn hk hc,hstart]
    unfold bLose
    rw [hl]
    by_cases h00:M.length > 0
    · have hqM:q < M.length:=by omega
      rw [cdt (by omega),outK_eq N M hfew hqM]
      refine ⟨N,M.take q++M.drop (q+1),rfl,⟨sys_sub (sys_more h.sys) fun x hx=>?_,?_,fun j hj=>Nat.le_succ_of_le (h.wait j hj)⟩⟩
      · rcases List.mem_append.1 hx with hx | hx
        · exact List.mem_of_mem_take hx
        · exact List.mem_of_mem_drop hx
      · rw [List.length_append,List.length_take,List.length_drop];omega
    · rw [cdf (by omega)];exact nothing
  · rw [red_twice h0 hn hk hc,hstart]
    unfold bTwice
    rw [hl]
    by_cases h00:M.length > 0
    · by_cases h60:M.length < 60
      · have hqM:q < M.length:=by omega
        rw [cdt (show (M.length:Int) > 0 by omega),decide_eq_true (show (M.length:Int) < 60 by omega),cond_true,cdt (by omega),cdt (by omega),Int.toNat_natCast,
          show (toT N M).m[q]?=some (toM M[q]) by rw [show (toT N M).m=M.map toM from rfl,List.getElem?_map,List.getElem?_eq_getElem hqM];rfl,ob_some,fits_ok (by rw [List.length_append,hl];simp;omega),cond_true]
        refine ⟨N,M++[M[q]],?_,⟨sys_sub (sys_more h.sys) fun x hx=>?_,by simp;omega,fun j hj=>Nat.le_succ_of_le (h.wait j hj)⟩⟩
        · unfold toT;rw [List.map_append];rfl
        · rcases List.mem_append.1 hx with hx | hx
          · exact hx
          · rw [List.mem_singleton.1 hx];exact List.getElem_mem hqM
      · rw [cdt (show (M.length:Int) > 0 by omega),decide_eq_false (show ¬ (M.length:Int) < 60 by omega),cond_false];exact nothing
    · rw [cdf (show ¬ (M.length:Int) > 0 by omega),cond_false];exact nothing
  · rw [red_prop h0 hn hk hc,hstart]
    unfold bProp
    rw [hg,propose_eq _ ow (by omega),ob_some,toRef_eq _ hol,ob_some,rpropose_eq _ ow (by omega),ob_some]
    rw [show (cond ((prop (N i) ax.cmd).2.1 != (prop (N i) ax.cmd).2.1) true ((prop (N i) ax.cmd).2.2 != (prop (N i) ax.cmd).2.2))=false by simp,cond_false]
    have hgood:∀ g,Raft.GI g B→Raft.NI g i (N i)→(∀ m∈M,Raft.MI g B m)→Raft.Good g B i ((prop (N i) ax.cmd).1,[]):=by
      intro g h1 h2 h3
      unfold prop
      split
      · rename_i hrole
        split
        · exact hsame g h1 h2 h3
        · exact Raft.propose_ok h1 h2 hrole ax.cmd
      · exact hsame g h1 h2 h3
    have hw:(prop (N i) ax.cmd).1.wait≤B+1:=by
      unfold prop
      split
      · split
        · show (N i).wait≤_;omega
        · show (N i).wait≤_;omega
      · show (N i).wait≤_;omega
    obtain ⟨M',k1,k2⟩:=fin_step (r:=((prop (N i) ax.cmd).1,[])) h hB hi hgood (fun _ hm=>hm) hfew (Nat.zero_le _) hw
    exact ⟨_,M',k1,k2⟩
  · rw [red_wake h0 hn hk hc,hstart]
    unfold bWake
    rw [hg,wake_eq _ ow,ob_some,toRef_eq _ hol,ob_some,rwake_eq _ ow,ob_some]
    obtain ⟨M',k1,k2⟩:=fin_step (r:=(Raft.wake (N i),[])) h hB hi (fun g h1 h2 _=>Raft.wake_ok h1 h2) (fun _ hm=>hm) hfew (Nat.zero_le _) (Nat.zero_le _)
    exact ⟨_,M',k1,k2⟩
  · rw [red_comp h0 hn hk hc,hstart]
    unfold bComp
    have hr0:=Int.emod_nonneg ax.n (by omega:(3:Int)≠0)
    have hr1:=Int.emod_lt_of_pos ax.n (by omega:(0:Int) < 3)
    have hcl:=ow.cl
    have hw:w64 (((N i).commit:Int) - ax.n % 3)=((N i).commit:Int) - ax.n % 3:=w64_ok (by omega)
    rw [within_eq (a:=ax.n) (n:=3) (by omega) (by omega),ob_some,hg,show cmN (toT N M).n (i:Int)=((N i).commit:Int) from cmN_eq N hi,hw]
    by_cases hle:((N i).commit:Int) - ax.n % 3≤((N i).base:Int)
    · rw [compact_no _ ow _ _ hle,ob_some,toRef_eq _ hol,ob_some,ob_some,hw,rcompact_no _ _ _ hle,ob_some]
      obtain ⟨M',k1,k2⟩:=fin_step (r:=(N i,[])) h hB hi hsame (fun _ hm=>hm) hfew (Nat.zero_le _) (Nat.le_succ_of_le hwi)
      exact ⟨_,M',k1,k2⟩
    · obtain ⟨idx,hidx⟩:=Int.eq_ofNat_of_zero_le (show 0≤((N i).commit:Int) - ax.n % 3 by omega)
      rw [hidx]
      rw [hidx] at hle
      rw [compact_eq _ ow idx _ (by omega) (by omega),ob_some,toRef_eq _ hol,ob_some,ob_some,hw,hidx,rcompact_eq _ ow idx _ (by omega) (by omega),ob_some]
      obtain ⟨M',k1,k2⟩:=fin_step (r:=(Raft.compact (N i) idx ax.cmd,[])) h hB hi (fun g h1 h2 _=>Raft.compact_ok h1 h2 (by omega) ax.cmd) (fun _ hm=>hm) hfew (Nat.zero_le _) (Nat.le_succ_of_le hwi)
      exact ⟨_,M',k1,k2⟩
end Go.Proofs.Ytoicjnggljeicaa
