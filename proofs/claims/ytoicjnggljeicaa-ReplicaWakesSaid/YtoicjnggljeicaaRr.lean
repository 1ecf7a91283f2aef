/- The program's replicas are Raft's nodes: votes. -/
import Derived.Test.YtoicjnggljeicaaRq
namespace Go.Proofs.Ytoicjnggljeicaa
open Go Go.Ev
set_option maxRecDepth 100000
theorem dect {p:Prop}[Decidable p](h:p):decide p=true:=decide_eq_true h
theorem decf {p:Prop}[Decidable p](h:¬ p):decide p=false:=decide_eq_false h
theorem cself {α:Type}(x:Bool)(y:α):cond x y y=y:=by cases x<;>rfl
def voteK (a:Raft.AN)(s:Nat)(yes:Bool):Option Worker :=
  cond yes (ob (send (s:Int) (Msg.mk 2 0 0 0 0 0 0 yes [] s_empty) (Worker.mk (toN { a with vote:=some s,wait:=0 }) [])) fun y=>some y) (ob (send (s:Int) (Msg.mk 2 0 0 0 0 0 0 yes [] s_empty) (Worker.mk (toN a) [])) fun y=>some y)
def voteY (a:Raft.AN)(s t:Nat)(U:Bool):Bool:=cond ((t:Int) == (a.term:Int)) (cond (vo a.vote == -1) U (cond (vo a.vote == (s:Int)) U false)) false
theorem vote_red (a:Raft.AN)(s d t idx lt:Nat):vote (toM (.vote s d t idx lt)) (Worker.mk (toN a) [])=ob (last_ (toN a)) fun r=>voteK a s (voteY a s t (cond (decide ((lt:Int) > r.2)) true (cond ((lt:Int) == r.2) (decide ((idx:Int)≥r.1)) false))):=by kernel_rfl
theorem voteY_eq (a:Raft.AN)(s t:Nat)(P:Prop)[Decidable P]:voteY a s t (decide P)=decide (t=a.term∧(a.vote=none∨a.vote=some s)∧P):=by
  unfold voteY
  by_cases ht:t=a.term
  · rw [cbt (by omega)]
    cases hv:a.vote with
    | none=>rw [cbt (by rfl)];simp [ht]
    | some c =>
      rw [cbf (by simp only [vo];omega)]
      by_cases hc:c=s
      · rw [cbt (by simp only [vo];omega)];simp [ht,hc]
      · rw [cbf (by simp only [vo];omega)];simp [hc]
  · rw [cbf (by omega)];simp [ht]
theorem vote_eq (a:Raft.AN)(h:Wf a)(s d t idx lt:Nat) :
    vote (toM (.vote s d t idx lt)) (Worker.mk (toN a) [])=some (Worker.mk (toN (Raft.takeVote a s t idx lt).1) ((Raft.takeVote a s t idx lt).2.map toM)):=by
  have hlast:=last_eq h
  have hs:∀ b x,send (s:Int) (Msg.mk 2 0 0 0 0 0 0 x [] s_empty) (Worker.mk (toN b) [])=some (Worker.mk (toN b) [Msg.mk 2 (b.id:Int) (s:Int) (b.term:Int) 0 0 0 x [] s_empty]):=fun b x=>send_eq _ _ _ _ (by simp)
  rw [vote_red,hlast,ob_some]
  have hU:(cond (decide ((lt:Int) > (Raft.lastT a.log:Int))) true (cond ((lt:Int) == (Raft.lastT a.log:Int)) (decide ((idx:Int)≥(a.log.length:Int))) false))=decide (lt > Raft.lastT a.log∨(lt=Raft.lastT a.log∧idx≥a.log.length)):=by
    by_cases h1:lt > Raft.lastT a.log
    · rw [cdt (by omega),decide_eq_true (.inl h1)]
    · rw [cdf (by omega)]
      by_cases h2:lt=Raft.lastT a.log
      · rw [cbt (by omega)]
        by_cases h3:idx≥a.log.length
        · rw [decide_eq_true (by omega),decide_eq_true (.inr ⟨h2,h3⟩)]
        · rw [decide_eq_false (by omega),decide_eq_false (by omega)]
      · rw [cbf (by omega),decide_eq_false (by omega)]
  dsimp only
  rw [hU]
  rw [voteY_eq]
  unfold voteK Raft.takeVote
  by_cases hP:t=a.term∧(a.vote=none∨a.vote=some s)∧(lt > Raft.lastT a.log∨(lt=Raft.lastT a.log∧idx≥a.log.length))
  · rw [decide_eq_true hP,cond_true,if_pos hP,hs,ob_some];rfl
  · rw [decide_eq_false hP,cond_false,if_neg hP,hs,ob_some];rfl
theorem vsel (f:Nat→Bool){s:Nat}(h:s < 3):A3Bool.mk (cond (decide ((s:Int)=0)) true (f 0)) (cond (decide ((s:Int)=1)) true (f 1)) (cond (decide ((s:Int)=2)) true (f 2))=a3b (Raft.up f s true):=by
  match s,h with
  | 0,_=>rfl
  | 1,_=>rfl
  | 2,_=>rfl
theorem msel {i:Nat}(k:Nat)(h:i < 3):A3Int.mk (cond (decide ((i:Int)=0)) (k:Int) 0) (cond (decide ((i:Int)=1)) (k:Int) 0) (cond (decide ((i:Int)=2)) (k:Int) 0)=a3i (Raft.up (fun _=>0) i k):=by
  match i,h with
  | 0,_=>rfl
  | 1,_=>rfl
  | 2,_=>rfl
theorem anddec {p q:Prop}[Decidable p][Decidable q]{α:Type}(hp:p)(hq:q)(x y:α):cond (decide p && decide q) x y=x:=by
  rw [decide_eq_true hp,decide_eq_true hq];rfl
/-- the leader that node a becomes -/
abbrev led (a:Raft.AN)(s:Nat):Raft.AN:={ a with votes:=Raft.up a.votes s true,role:=2,log:=a.log++[(a.term,ByteArray.empty)],next:=fun _=>a.log.length+1,mat:=Raft.up (fun _=>0) a.id (a.log.length+1) }
theorem base_le {a:Raft.AN}(h:Wf a):a.base≤a.log.length:=Nat.le_trans h.bc h.cl
def bothW (w:Worker):Option Worker :=
  cond (0 != w.node.id_) (ob (owe 0 w) fun y1=>cond (1 != y1.node.id_) (ob (owe 1 y1) fun y2=>cond (2 != y2.node.id_) (ob (owe 2 y2) fun y3=>some y3) (some y2)) (cond (2 != y1.node.id_) (ob (owe 2 y1) fun y4=>some y4) (some y1)))
    (cond (1 != w.node.id_) (ob (owe 1 w) fun y5=>cond (2 != y5.node.id_) (ob (owe 2 y5) fun y6=>some y6) (some y5)) (cond (2 != w.node.id_) (ob (owe 2 w) fun y7=>some y7) (some w)))
/-- who sends to both others -/
theorem both {a:Raft.AN}(h:Wf a)(hl:Ld a):bothW (Worker.mk (toN a) [])=some (Worker.mk (toN a) (((Raft.others a.id).map (Raft.owe a)).map toM)):=by
  unfold bothW
  rw [show (Worker.mk (toN a) []).node=toN a from rfl]
  rcases id_cases h with ⟨e,e0⟩ | ⟨e,e0⟩ | ⟨e,e0⟩
  · simp only [e0,n00,n10,n20,cond_true,cond_false,owe1 h hl _ (show ([]:List Msg).length≤900 by simp),ob_some,owe2 h hl _ (show ([]++[_]:List Msg).length≤900 by simp),e,Raft.others]
    rfl
  · simp only [e0,n01,n11,n21,cond_true,cond_false,owe0 h hl _ (show ([]:List Msg).length≤900 by simp),ob_some,owe2 h hl _ (show ([]++[_]:List Msg).length≤900 by simp),e,Raft.others]
    rfl
  · simp only [e0,n02,n12,n22,cond_true,cond_false,owe0 h hl _ (show ([]:List Msg).length≤900 by simp),ob_some,owe1 h hl _ (show ([]++[_]:List Msg).length≤900 by simp),e,Raft.others]
    rfl
theorem cnt_typed (v0 v1 v2:Bool):(decide ((cond v2 (w64 ((cond v1 (w64 ((cond v0 1 0)+1)) (cond v0 1 0))+1)) (cond v1 (w64 ((cond v0 1 0)+1)) (cond v0 1 0))) < 2))=decide ((if v0=true then 1 else 0)+(if v1=true then 1 else 0)+(if v2=true then 1 else 0) < 2):=by
  cases v0<;>cases v1<;>cases v2<;>rfl
/-- what becomes of votes -/
def votedK (a:Raft.AN)(V:A3Bool):Option Worker :=
  cond (decide ((cond V.a2 (w64 ((cond V.a1 (w64 ((cond V.a0 1 0)+1)) (cond V.a0 1 0))+1)) (cond V.a1 (w64 ((cond V.a0 1 0)+1)) (cond V.a0 1 0))) < 2))
    (some (Worker.mk { toN a with votes:=V } []))
    (cond (fits ((toN a).log++[Entry.mk (a.term:Int) s_empty]).length)
      (ob (last_ { toN a with votes:=V,role:=2,log:=(toN a).log++[Entry.mk (a.term:Int) s_empty] }) fun r =>
        cond (decide (0≤(a.id:Int)) && decide ((a.id:Int) < 3))
          (bothW (Worker.mk { toN a with votes:=V,role:=2,log:=(toN a).log++[Entry.mk (a.term:Int) s_empty],next:=A3Int.mk r.1 r.1 r.1,match_:=A3Int.mk (cond (decide ((a.id:Int)=0)) r.1 0) (cond (decide ((a.id:Int)=1)) r.1 0) (cond (decide ((a.id:Int)=2)) r.1 0) } [])) none) none)
theorem voted_red (a:Raft.AN)(s d t:Nat)(y:Bool):voted (toM (.voted s d t y)) (Worker.mk (toN a) []) =
    cond (cond ((t:Int) != (a.term:Int)) true (cond ((a.role:Int) != 1) true (!y))) (some (Worker.mk (toN a) []))
      (cond (decide (0≤(s:Int)) && decide ((s:Int) < 3)) (votedK a (A3Bool.mk (cond (decide ((s:Int)=0)) true (a.votes 0)) (cond (decide ((s:Int)=1)) true (a.votes 1)) (cond (decide ((s:Int)=2)) true (a.votes 2)))) none):=by kernel_rfl
theorem voted_eq (a:Raft.AN)(h:Wf a)(s d t:Nat)(y:Bool)(hs:s < 3)(hlen:a.log.length < 100000) :
    voted (toM (.voted s d t y)) (Worker.mk (toN a) [])=some (Worker.mk (toN (Raft.takeVoted a s t y).1) ((Raft.takeVoted a s t y).2.map toM)):=by
  have hb:=base_le h
  rw [voted_red]
  unfold Raft.takeVoted
  by_cases hg:t=a.term∧a.role=1∧y=true
  · obtain ⟨rfl,hr,rfl⟩:=hg
    rw [if_pos ⟨rfl,hr,rfl⟩,cnf rfl,cnf (by omega),Bool.not_true,cond_false,in3 hs,cond_true,vsel a.votes hs]
    unfold votedK
    rw [cnt_typed]
    have hcd:decide ((if (a3b (Raft.up a.votes s true)).a0=true then 1 else 0)+(if (a3b (Raft.up a.votes s true)).a1=true then 1 else 0)+(if (a3b (Raft.up a.votes s true)).a2=true then 1 else 0) < 2)=decide (Raft.cnt (Raft.up a.votes s true) < 2):=rfl
    rw [hcd]
    by_cases hc:Raft.cnt (Raft.up a.votes s true) < 2
    · rw [cdt hc,if_pos hc]
      rfl
    · rw [cdf hc,if_neg hc]
      have hld:Ld (led a s):=fun j _=>⟨by simp,by simp,by simp only [Raft.up];split<;>omega⟩
      have hwf:Wf (led a s):=⟨h.id,h.bc,by simp only [List.length_append,List.length_singleton];have:=h.cl;omega,by simp only [List.length_append,List.length_singleton];omega,h.term,h.wait,by simp⟩
      have hwf2:Wf { led a s with next:=a.next,mat:=a.mat }:=⟨hwf.id,hwf.bc,hwf.cl,hwf.len,hwf.term,hwf.wait,hwf.role⟩
      have hlast:=last_eq hwf2
      have hlogL:(toN a).log++[Entry.mk (a.term:Int) s_empty]=toL ((led a s).log.drop a.base):=by
        rw [n_log,show [Entry.mk (a.term:Int) s_empty]=toL [(a.term,ByteArray.empty)] from rfl,toL_append,show (led a s).log=a.log++[(a.term,ByteArray.empty)] from rfl,List.drop_append_of_le_length hb]
      have hbt:(toN a).baseTerm=(Raft.tAt (led a s).log a.base:Int):=by
        rw [n_bt,show (led a s).log=a.log++[(a.term,ByteArray.empty)] from rfl,Raft.tAt_append hb]
      have hfl:fits ((toN a).log++[Entry.mk (a.term:Int) s_empty]).length=true:=fits_ok (by have:=h.log;simp;omega)
      rw [hfl,cond_true]
      have e1:({ toN a with votes:=a3b (Raft.up a.votes s true),role:=2,log:=(toN a).log++[Entry.mk (a.term:Int) s_empty] }:Node)=toN { led a s with next:=a.next,mat:=a.mat }:=by
        rw [hlogL]
        rw [show (toN { led a s with next:=a.next,mat:=a.mat })={ toN a with votes:=a3b (Raft.up a.votes s true),role:=2,log:=toL ((led a s).log.drop a.base),baseTerm:=(Raft.tAt (led a s).log a.base:Int) } from rfl,← hbt]
      rw [e1,hlast,ob_some,in3 h.id,cond_true]
      dsimp only
      have hln:((led a s).log.length:Int)=((a.log.length+1:Nat):Int):=by simp
      rw [hln,msel (a.log.length+1) h.id]
      have e2:({ toN a with votes:=a3b (Raft.up a.votes s true),role:=2,log:=(toN a).log++[Entry.mk (a.term:Int) s_empty],next:=A3Int.mk ((a.log.length+1:Nat):Int) ((a.log.length+1:Nat):Int) ((a.log.length+1:Nat):Int),match_:=a3i (Raft.up (fun _=>0) a.id (a.log.length+1)) }:Node)=toN (led a s):=by
        rw [hlogL]
        rw [show toN (led a s)={ toN a with votes:=a3b (Raft.up a.votes s true),role:=2,log:=toL ((led a s).log.drop a.base),baseTerm:=(Raft.tAt (led a s).log a.base:Int),next:=A3Int.mk ((a.log.length+1:Nat):Int) ((a.log.length+1:Nat):Int) ((a.log.length+1:Nat):Int),match_:=a3i (Raft.up (fun _=>0) a.id (a.log.length+1)) } from rfl,← hbt]
      exact (congrArg (fun n=>bothW (Worker.mk n [])) e2).trans (both hwf hld)
  · rw [if_neg hg]
    have:(cond ((t:Int) != (a.term:Int)) true (cond ((a.role:Int) != 1) true (!y)))=true:=by
      by_cases h1:t=a.term
      · rw [cnf (by omega)]
        by_cases h2:a.role=1
        · rw [cnf (by omega)]
          cases y with
          | false=>rfl
          | true=>exact absurd ⟨h1,h2,rfl⟩ hg
        · rw [cnt_ (by omega)]
      · rw [cnt_ (by omega)]
    rw [this,cond_true]
    rfl
end Go.Proofs.Ytoicjnggljeicaa
