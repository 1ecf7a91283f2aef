/- The document's replicas are Raft's nodes: votes, what is added. -/
import Derived.Test.YtoicjnggljeicaaRx
namespace Go.Proofs.Ytoicjnggljeicaa
open Go Go.Ev
set_option maxRecDepth 100000
abbrev N0:Node:=Node.mk 0 0 0 0 0 s_empty [] 0 0 0 (A3Bool.mk false false false) (A3Int.mk 0 0 0) (A3Int.mk 0 0 0)
theorem upTo_dec (lt idx:Nat)(L:Raft.Lg):(cond (decide ((lt:Int) > (Raft.lastT L:Int))) true (cond ((lt:Int) == (Raft.lastT L:Int)) (decide ((idx:Int)≥(L.length:Int))) false))=decide (lt > Raft.lastT L∨(lt=Raft.lastT L∧idx≥L.length)):=by
  by_cases h1:lt > Raft.lastT L
  · rw [cdt (by omega),decide_eq_true (.inl h1)]
  · rw [cdf (by omega)]
    by_cases h2:lt=Raft.lastT L
    · rw [cbt (by omega)]
      by_cases h3:idx≥L.length
      · rw [decide_eq_true (by omega),decide_eq_true (.inr ⟨h2,h3⟩)]
      · rw [decide_eq_false (by omega),decide_eq_false (by omega)]
    · rw [cbf (by omega),decide_eq_false (by omega)]
def rvoteK (a:Raft.AN)(s:Nat)(y:Bool):Option (Node×List Msg) :=
  cond y (some (toN { a with vote:=some s,wait:=0 },[Msg.mk 2 (a.id:Int) (s:Int) (a.term:Int) 0 0 0 y [] s_empty])) (some (toN a,[Msg.mk 2 (a.id:Int) (s:Int) (a.term:Int) 0 0 0 y [] s_empty]))
theorem rvote_red (a:Raft.AN)(s d t idx lt:Nat):ref15_vote (toN a) (toM (.vote s d t idx lt))=ob (ref15Last (toN a)) fun r=>rvoteK a s (voteY a s t (cond (decide ((lt:Int) > r.2)) true (cond ((lt:Int) == r.2) (decide ((idx:Int)≥r.1)) false))):=by kernel_rfl
theorem rvote_eq (a:Raft.AN)(h:Wf a)(s d t idx lt:Nat):ref15_vote (toN a) (toM (.vote s d t idx lt))=some (toN (Raft.takeVote a s t idx lt).1,(Raft.takeVote a s t idx lt).2.map toM):=by
  rw [rvote_red,rLast_eq h,ob_some]
  dsimp only
  rw [upTo_dec,voteY_eq]
  unfold rvoteK Raft.takeVote
  by_cases hP:t=a.term∧(a.vote=none∨a.vote=some s)∧(lt > Raft.lastT a.log∨(lt=Raft.lastT a.log∧idx≥a.log.length))
  · rw [decide_eq_true hP,cond_true,if_pos hP];rfl
  · rw [decide_eq_false hP,cond_false,if_neg hP];rfl
def cnt3 (v:A3Bool):Int:=cond v.a2 (w64 (cond v.a1 (w64 (cond v.a0 (w64 (0+1)) 0+1)) (cond v.a0 (w64 (0+1)) 0)+1)) (cond v.a1 (w64 (cond v.a0 (w64 (0+1)) 0+1)) (cond v.a0 (w64 (0+1)) 0))
theorem cnt_eq (n m:Node):L54_6 0 0 n m=some (cnt3 n.votes,n,m):=by kernel_rfl
theorem cnt3_lt (f:Nat→Bool):decide (cnt3 (a3b f) < 2)=decide (Raft.cnt f < 2):=by
  unfold cnt3 a3b Raft.cnt
  cases f 0<;>cases f 1<;>cases f 2<;>rfl
/-- who is elected -/
def elct (n:Node):Option (Node×List Msg) :=
  cond (fits n.log.length) (cond (fits (n.log++[Entry.mk n.term_ s_empty]).length) (ob (ref15Last { n with role:=2,log:=n.log++[Entry.mk n.term_ s_empty] }) fun r =>
    cond (ok3 n.id_) (ob (ref15_send { n with role:=2,log:=n.log++[Entry.mk n.term_ s_empty],next:=A3Int.mk r.1 r.1 r.1,match_:=A3Int.mk (cond (decide (n.id_=0)) r.1 0) (cond (decide (n.id_=1)) r.1 0) (cond (decide (n.id_=2)) r.1 0) }) fun l =>
      some ({ n with role:=2,log:=n.log++[Entry.mk n.term_ s_empty],next:=A3Int.mk r.1 r.1 r.1,match_:=A3Int.mk (cond (decide (n.id_=0)) r.1 0) (cond (decide (n.id_=1)) r.1 0) (cond (decide (n.id_=2)) r.1 0) },l)) none) none) none
theorem rvoted_red (a:Raft.AN)(s d t:Nat)(y:Bool):ref15_voted (toN a) (toM (.voted s d t y)) =
    cond (cond ((t:Int) != (a.term:Int)) true (cond ((a.role:Int) != 1) true (!y))) (some (toN a,[]))
      (cond (ok3 (s:Int)) (ob (L54_6 0 0 { toN a with votes:=A3Bool.mk (cond (decide ((s:Int)=0)) true (a.votes 0)) (cond (decide ((s:Int)=1)) true (a.votes 1)) (cond (decide ((s:Int)=2)) true (a.votes 2)) } N0) fun q =>
        cond (decide (q.1 < 2)) (some (q.2.1,[])) (elct q.2.1)) none):=by kernel_rfl
theorem led_wf {a:Raft.AN}(h:Wf a)(s:Nat)(hlen:a.log.length < 100000):Wf (led a s)∧Wf { led a s with next:=a.next,mat:=a.mat }∧Ld (led a s):=by
  have hwf:Wf (led a s):=⟨h.id,h.bc,by simp only [List.length_append,List.length_singleton];have:=h.cl;omega,by simp only [List.length_append,List.length_singleton];omega,h.term,h.wait,by simp⟩
  exact ⟨hwf,⟨hwf.id,hwf.bc,hwf.cl,hwf.len,hwf.term,hwf.wait,hwf.role⟩,fun j _=>⟨by simp,by simp,by simp only [Raft.up];split<;>omega⟩⟩
theorem elct_eq (a:Raft.AN)(h:Wf a)(s:Nat)(hlen:a.log.length < 100000):elct { toN a with votes:=a3b (Raft.up a.votes s true) }=some (toN (led a s),((Raft.others a.id).map (Raft.owe (led a s))).map toM):=by
  have hb:=base_le h
  have hlog:=h.log
  obtain ⟨hwf,hwf2,hld⟩:=led_wf h s hlen
  have hlast:=rLast_eq hwf2
  have hsend:=rsend_eq hwf hld
  have hlogL:(toN a).log++[Entry.mk (toN a).term_ s_empty]=toL ((led a s).log.drop a.base):=by
    rw [n_log,n_term,show [Entry.mk (a.term:Int) s_empty]=toL [(a.term,ByteArray.empty)] from rfl,toL_append,show (led a s).log=a.log++[(a.term,ByteArray.empty)] from rfl,List.drop_append_of_le_length hb]
  have hbt:(toN a).baseTerm=(Raft.tAt (led a s).log a.base:Int):=by
    rw [n_bt,show (led a s).log=a.log++[(a.term,ByteArray.empty)] from rfl,Raft.tAt_append hb]
  have hfl:fits ((toN a).log++[Entry.mk (toN a).term_ s_empty]).length=true:=fits_ok (by simp;omega)
  have e1:({ toN a with votes:=a3b (Raft.up a.votes s true),role:=2,log:=(toN a).log++[Entry.mk (toN a).term_ s_empty] }:Node)=toN { led a s with next:=a.next,mat:=a.mat }:=by
    rw [hlogL]
    rw [show (toN { led a s with next:=a.next,mat:=a.mat })={ toN a with votes:=a3b (Raft.up a.votes s true),role:=2,log:=toL ((led a s).log.drop a.base),baseTerm:=(Raft.tAt (led a s).log a.base:Int) } from rfl,← hbt]
  have hln:((led a s).log.length:Int)=((a.log.length+1:Nat):Int):=by simp
  have e2:({ toN a with votes:=a3b (Raft.up a.votes s true),role:=2,log:=(toN a).log++[Entry.mk (toN a).term_ s_empty],next:=A3Int.mk ((led a s).log.length:Int) ((led a s).log.length:Int) ((led a s).log.length:Int),match_:=A3Int.mk (cond (decide ((a.id:Int)=0)) ((led a s).log.length:Int) 0) (cond (decide ((a.id:Int)=1)) ((led a s).log.length:Int) 0) (cond (decide ((a.id:Int)=2)) ((led a s).log.length:Int) 0) }:Node)=toN (led a s):=by
    rw [hln,msel (a.log.length+1) h.id,hlogL]
    rw [show toN (led a s)={ toN a with votes:=a3b (Raft.up a.votes s true),role:=2,log:=toL ((led a s).log.drop a.base),baseTerm:=(Raft.tAt (led a s).log a.base:Int),next:=A3Int.mk ((a.log.length+1:Nat):Int) ((a.log.length+1:Nat):Int) ((a.log.length+1:Nat):Int),match_:=a3i (Raft.up (fun _=>0) a.id (a.log.length+1)) } from rfl,← hbt]
  unfold elct
  dsimp only
  rw [fits_ok (by omega),cond_true,hfl,cond_true]
  refine (congrArg (fun z=>ob z _) ((congrArg ref15Last e1).trans hlast)).trans ?_
  rw [ob_some,n_id,show ok3 (a.id:Int)=true from in3 h.id,cond_true]
  refine (congrArg (fun z=>ob z _) ((congrArg ref15_send e2).trans hsend)).trans ?_
  rw [ob_some]
  exact congrArg some (congrArg (fun z=>(z,((Raft.others a.id).map (Raft.owe (led a s))).map toM)) e2)
theorem rvoted_eq (a:Raft.AN)(h:Wf a)(s d t:Nat)(y:Bool)(hs:s < 3)(hlen:a.log.length < 100000):ref15_voted (toN a) (toM (.voted s d t y))=some (toN (Raft.takeVoted a s t y).1,(Raft.takeVoted a s t y).2.map toM):=by
  rw [rvoted_red]
  unfold Raft.takeVoted
  by_cases hg:t=a.term∧a.role=1∧y=true
  · obtain ⟨rfl,hr,rfl⟩:=hg
    rw [if_pos ⟨rfl,hr,rfl⟩,cnf rfl,cnf (by omega),Bool.not_true,cond_false,show ok3 (s:Int)=true from in3 hs,cond_true,vsel a.votes hs,cnt_eq,ob_some]
    dsimp only
    rw [cnt3_lt]
    by_cases hc:Raft.cnt (Raft.up a.votes s true) < 2
    · rw [cdt hc,if_pos hc]
      rfl
    · rw [cdf hc,if_neg hc]
      exact elct_eq a h s hlen
  · rw [if_neg hg]
    have:(cond ((t:Int) != (a.term:Int)) true (cond ((a.role:Int) != 1) true (!y)))=true:=by
      by_cases h1:t=a.term
      · rw [cnf (by omega)]
        by_cases h2:a.role=1
        · rw [cnf (by omega)]
          cases y with
          | false=>rfl
          | true=>exact absurd ⟨h1,h2,rfl⟩ hg
        · rw [cnt_ (by omega)]
      · rw [cnt_ (by omega)]
    rw [this,cond_true]
    rfl
end Go.Proofs.Ytoicjnggljeicaa
