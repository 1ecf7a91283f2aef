/- The program's replicas are Raft's nodes: ticks, votes, what is added. -/
import Derived.Test.YtoicjnggljeicaaRp
namespace Go.Proofs.Ytoicjnggljeicaa
open Go Go.Ev
set_option maxRecDepth 100000
section
variable (a:Raft.AN)
theorem mk_same:Node.mk (toN a).id_ (toN a).term_ (toN a).vote (toN a).base (toN a).baseTerm (toN a).snap (toN a).log (toN a).role (toN a).commit (toN a).wait (toN a).votes (toN a).next (toN a).match_=toN a:=rfl
theorem mk_rest:Node.mk (toN a).id_ (toN a).term_ (toN a).vote (toN a).base (toN a).baseTerm (toN a).snap (toN a).log 0 (toN a).commit 0 (toN a).votes (toN a).next (toN a).match_=toN { a with role:=0,wait:=0 }:=rfl
theorem mk_wait (n:Nat):Node.mk (toN a).id_ (toN a).term_ (toN a).vote (toN a).base (toN a).baseTerm (toN a).snap (toN a).log (toN a).role (toN a).commit (n:Int) (toN a).votes (toN a).next (toN a).match_=toN { a with wait:=n }:=rfl
end
theorem n00:((0:Int) != 0)=false:=rfl
theorem n01:((0:Int) != 1)=true:=rfl
theorem n02:((0:Int) != 2)=true:=rfl
theorem n10:((1:Int) != 0)=true:=rfl
theorem n11:((1:Int) != 1)=false:=rfl
theorem n12:((1:Int) != 2)=true:=rfl
theorem n20:((2:Int) != 0)=true:=rfl
theorem n21:((2:Int) != 1)=true:=rfl
theorem n22:((2:Int) != 2)=false:=rfl
theorem Wf.log {a:Raft.AN}(h:Wf a):(toN a).log.length≤1000000:=by
  have:=h.len
  rw [n_log,toL_len,List.length_drop];omega
/-- what a leader may send from -/
def Ld (a:Raft.AN):Prop:=∀ j,j < 3→1≤a.next j∧a.next j≤a.log.length+1∧a.mat j≤200000
theorem owe0 {a:Raft.AN}(h:Wf a)(hl:Ld a)(out:List Msg)(ho:out.length≤900):owe 0 (Worker.mk (toN a) out)=some (Worker.mk (toN a) (out++[toM (Raft.owe a 0)])):=owe_eq h (to:=0) (by omega) (hl 0 (by omega)).1 (hl 0 (by omega)).2.1 out ho
theorem owe1 {a:Raft.AN}(h:Wf a)(hl:Ld a)(out:List Msg)(ho:out.length≤900):owe 1 (Worker.mk (toN a) out)=some (Worker.mk (toN a) (out++[toM (Raft.owe a 1)])):=owe_eq h (to:=1) (by omega) (hl 1 (by omega)).1 (hl 1 (by omega)).2.1 out ho
theorem owe2 {a:Raft.AN}(h:Wf a)(hl:Ld a)(out:List Msg)(ho:out.length≤900):owe 2 (Worker.mk (toN a) out)=some (Worker.mk (toN a) (out++[toM (Raft.owe a 2)])):=owe_eq h (to:=2) (by omega) (hl 2 (by omega)).1 (hl 2 (by omega)).2.1 out ho
theorem id_cases {a:Raft.AN}(h:Wf a):(a.id=0∧(toN a).id_=0)∨(a.id=1∧(toN a).id_=1)∨(a.id=2∧(toN a).id_=2):=by
  have:=h.id
  have:a.id=0∨a.id=1∨a.id=2:=by omega
  rcases this with e | e | e
  · exact .inl ⟨e,by rw [n_id,e];rfl⟩
  · exact .inr (.inl ⟨e,by rw [n_id,e];rfl⟩)
  · exact .inr (.inr ⟨e,by rw [n_id,e];rfl⟩)
/-- who stands -/
def stN (a:Raft.AN):Node:=Node.mk (a.id:Int) (w64 ((a.term:Int)+1)) (a.id:Int) (a.base:Int) (Raft.tAt a.log a.base:Int) a.snap (toL (a.log.drop a.base)) 1 (a.commit:Int) 0 (a3b fun j=>j == a.id) (a3i a.next) (a3i a.mat)
abbrev ask (r:Int×Int):Msg:=Msg.mk 1 0 0 0 r.1 r.2 0 false [] s_empty
theorem stand_red0 (a:Raft.AN):stand (Worker.mk (toN { a with id:=0 }) [])=ob (last_ (stN { a with id:=0 })) fun r=>ob (send 1 (ask r) (Worker.mk (stN { a with id:=0 }) [])) fun y=>cond (2 != y.node.id_) (ob (send 2 (ask r) y) fun z=>some z) (some y):=by kernel_rfl
theorem stand_red1 (a:Raft.AN):stand (Worker.mk (toN { a with id:=1 }) [])=ob (last_ (stN { a with id:=1 })) fun r=>ob (send 0 (ask r) (Worker.mk (stN { a with id:=1 }) [])) fun y=>cond (1 != y.node.id_) (ob (send 1 (ask r) y) fun z=>cond (2 != z.node.id_) (ob (send 2 (ask r) z) fun u=>some u) (some z)) (cond (2 != y.node.id_) (ob (send 2 (ask r) y) fun z=>some z) (some y)):=by kernel_rfl
theorem stand_red2 (a:Raft.AN):stand (Worker.mk (toN { a with id:=2 }) [])=ob (last_ (stN { a with id:=2 })) fun r=>ob (send 0 (ask r) (Worker.mk (stN { a with id:=2 }) [])) fun y=>cond (1 != y.node.id_) (ob (send 1 (ask r) y) fun z=>cond (2 != z.node.id_) (ob (send 2 (ask r) z) fun u=>some u) (some z)) (cond (2 != y.node.id_) (ob (send 2 (ask r) y) fun z=>some z) (some y)):=by kernel_rfl
theorem with_id {a:Raft.AN}{n:Nat}(h:a.id=n):a={ a with id:=n }:=by cases a;simp only at h;subst h;rfl
theorem Wf.standA {a:Raft.AN}(h:Wf a)(ht:a.term < 1073741824):Wf (Raft.standA a).1:=⟨h.id,h.bc,h.cl,h.len,by simp only [Raft.standA];omega,by simp [Raft.standA],by simp [Raft.standA]⟩
theorem standA_eq (a:Raft.AN)(h:Wf a)(ht:a.term < 1073741824)(n:Nat):stand (Worker.mk (toN { a with wait:=n }) [])=some (Worker.mk (toN (Raft.standA a).1) ((Raft.standA a).2.map toM)):=by
  have hwf:=h.standA ht
  have hlast:=last_eq hwf
  have hw:w64 ((a.term:Int)+1)=((a.term+1:Nat):Int):=by rw [w64_ok (by omega)];omega
  have hnode:stN { a with wait:=n }=toN (Raft.standA a).1:=by unfold stN;simp only [hw];rfl
  have hls:((Raft.standA a).1.log.length:Int)=(a.log.length:Int):=rfl
  have hlt:(Raft.lastT (Raft.standA a).1.log:Int)=(Raft.lastT a.log:Int):=rfl
  have hs:∀ to out,out.length≤1000→send to (ask ((a.log.length:Int),(Raft.lastT a.log:Int))) (Worker.mk (toN (Raft.standA a).1) out)=some (Worker.mk (toN (Raft.standA a).1) (out++[Msg.mk 1 (a.id:Int) to ((a.term+1:Nat):Int) (a.log.length:Int) (Raft.lastT a.log:Int) 0 false [] s_empty])):=fun to out ho=>send_eq to _ _ out ho
  have hidn:(toN (Raft.standA a).1).id_=(a.id:Int):=rfl
  rw [hls,hlt] at hlast
  have hid3:a.id=0∨a.id=1∨a.id=2:=by have:=h.id;omega
  rcases hid3 with e | e | e
  · have e2:({ a with wait:=n }:Raft.AN)={ ({ a with wait:=n }:Raft.AN) with id:=0 }:=with_id e
    have e0:(toN (Raft.standA a).1).id_=0:=by rw [hidn,e];rfl
    rw [e2,stand_red0,← e2,hnode,hlast,ob_some,hs _ _ (by simp),ob_some]
    simp only [e0,n20,cond_true]
    rw [hs _ _ (by simp),ob_some]
    simp only [Raft.standA,e,Raft.others,List.map_cons,List.map_nil,toM]
    rfl
  · have e2:({ a with wait:=n }:Raft.AN)={ ({ a with wait:=n }:Raft.AN) with id:=1 }:=with_id e
    have e0:(toN (Raft.standA a).1).id_=1:=by rw [hidn,e];rfl
    rw [e2,stand_red1,← e2,hnode,hlast,ob_some,hs _ _ (by simp),ob_some]
    simp only [e0,n11,n21,cond_true,cond_false]
    rw [hs _ _ (by simp),ob_some]
    simp only [Raft.standA,e,Raft.others,List.map_cons,List.map_nil,toM]
    rfl
  · have e2:({ a with wait:=n }:Raft.AN)={ ({ a with wait:=n }:Raft.AN) with id:=2 }:=with_id e
    have e0:(toN (Raft.standA a).1).id_=2:=by rw [hidn,e];rfl
    rw [e2,stand_red2,← e2,hnode,hlast,ob_some,hs _ _ (by simp),ob_some]
    simp only [e0,n12,n22,cond_true,cond_false]
    rw [hs _ _ (by simp),ob_some]
    simp only [e0,n22,cond_false]
    simp only [Raft.standA,e,Raft.others,List.map_cons,List.map_nil,toM]
    rfl
theorem tick_eq (a:Raft.AN)(h:Wf a)(hl:a.role=2→Ld a):tick (toN a)=some (toN (Raft.tick a).1,(Raft.tick a).2.map toM):=by
  have hlog:=h.log
  have ho:own (toN a).log=some (toN a).log:=own_eq _ (by omega)
  have hw:w64 ((a.wait:Int)+1)=((a.wait+1:Nat):Int):=by have:=h.wait;rw [w64_ok (by omega)];omega
  unfold tick
  rw [ho,ob_some]
  simp only [mk_same]
  by_cases hr:a.role=2
  · have hld:=hl hr
    rw [cbt (by rw [n_role,hr];rfl)]
    have ht:Raft.tick a=(a,(Raft.others a.id).map (Raft.owe a)):=by unfold Raft.tick;rw [if_pos hr]
    rw [ht]
    rcases id_cases h with ⟨e,e0⟩ | ⟨e,e0⟩ | ⟨e,e0⟩
    · simp only [e0,n00,n10,n20,cond_true,cond_false,owe1 h hld _ (show ([]:List Msg).length≤900 by simp),ob_some,owe2 h hld _ (show ([]++[_]:List Msg).length≤900 by simp),ho,e,Raft.others]
      rw [← e0,mk_same]
      rfl
    · simp only [e0,n01,n11,n21,cond_true,cond_false,owe0 h hld _ (show ([]:List Msg).length≤900 by simp),ob_some,owe2 h hld _ (show ([]++[_]:List Msg).length≤900 by simp),ho,e,Raft.others]
      rw [← e0,mk_same]
      rfl
    · simp only [e0,n02,n12,n22,cond_true,cond_false,owe0 h hld _ (show ([]:List Msg).length≤900 by simp),ob_some,owe1 h hld _ (show ([]++[_]:List Msg).length≤900 by simp),ho,e,Raft.others]
      rw [← e0,mk_same]
      rfl
  · rw [cbf (by rw [n_role];omega)]
    simp only [n_wait,hw,mk_wait]
    have hid:=h.id
    have hlim:w64 (5+w64 (3 * (toN a).id_))=((5+3 * a.id:Nat):Int):=by
      rw [n_id,w64_ok (n:=3 * (a.id:Int)) (by omega),w64_ok (by omega)];omega
    rw [hlim,n_term]
    unfold Raft.tick
    rw [if_neg hr]
    by_cases hs:a.wait+1≥5+3 * a.id∧a.term < Raft.most
    · rw [if_pos hs]
      rw [cdt (by omega),decide_eq_true (show (a.term:Int) < 1073741824 by have:=hs.2;simp only [Raft.most] at this;omega),cond_true,standA_eq a h hs.2,ob_some]
      have hwf:=h.standA hs.2
      simp only
      rw [own_eq _ (by have:=hwf.log;omega),ob_some,mk_same]
    · rw [if_neg hs]
      have hg:(cond (decide (((a.wait+1:Nat):Int)≥((5+3 * a.id:Nat):Int))) (decide ((a.term:Int) < 1073741824)) false)=false:=by
        by_cases h1:a.wait+1≥5+3 * a.id
        · rw [cdt (by omega)]
          exact decide_eq_false (fun h2=>hs ⟨h1,by simp only [Raft.most];omega⟩)
        · rw [cdf (by omega)]
      rw [hg,cond_false,ho,ob_some]
      rfl
end Go.Proofs.Ytoicjnggljeicaa
