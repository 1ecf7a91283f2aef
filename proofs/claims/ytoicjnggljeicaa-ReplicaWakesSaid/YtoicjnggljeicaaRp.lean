/- The program's replicas are Raft's nodes: their data, their indices, what they send. -/
import Derived.Test.YtoicjnggljeicaaPa
import Derived.Test.YtoicjnggljeicaaRm
namespace Go.Proofs.Ytoicjnggljeicaa
open Go Go.Ev
set_option maxRecDepth 100000
theorem cdt {α:Type}{p:Prop}[Decidable p](h:p)(a b:α):cond (decide p) a b=a:=by rw [decide_eq_true h];rfl
theorem cdf {α:Type}{p:Prop}[Decidable p](h:¬ p)(a b:α):cond (decide p) a b=b:=by rw [decide_eq_false h];rfl
theorem cbt {α:Type}{x y:Int}(h:x=y)(a b:α):cond (x == y) a b=a:=by subst h;simp
theorem cbf {α:Type}{x y:Int}(h:x≠y)(a b:α):cond (x == y) a b=b:=by rw [beq_eq_false_iff_ne.2 h];rfl
theorem cnt_ {α:Type}{x y:Int}(h:x≠y)(a b:α):cond (x != y) a b=a:=by rw [bne,beq_eq_false_iff_ne.2 h];rfl
theorem cnf {α:Type}{x y:Int}(h:x=y)(a b:α):cond (x != y) a b=b:=by subst h;simp
theorem fits_ok {n:Nat}(h:n≤1073741824):fits n=true:=decide_eq_true h
theorem w64_ok {n:Int}(h : -9223372036854775808≤n∧n < 9223372036854775808):w64 n=n:=w64_id h.1 h.2
theorem iter_go {X Y:Type}{stp:X→Option (X⊕Y)}{n:Nat}{x x':X}(h:stp x=some (.inl x')):iterO stp (n+1) x=iterO stp n x':=by simp only [iterO,h,ob_some,two]
theorem iter_end {X Y:Type}{stp:X→Option (X⊕Y)}{n:Nat}{x:X}{y:Y}(h:stp x=some (.inr y)):iterO stp (n+1) x=some y:=by simp only [iterO,h,ob_some,two]
def toE (e:Raft.E):Entry:=Entry.mk (e.1:Int) e.2
def toL (L:Raft.Lg):List Entry:=L.map toE
def vo:Option Nat→Int
  | none => -1
  | some c=>(c:Int)
def a3b (f:Nat→Bool):A3Bool:=A3Bool.mk (f 0) (f 1) (f 2)
def a3i (f:Nat→Nat):A3Int:=A3Int.mk (f 0:Int) (f 1:Int) (f 2:Int)
def toN (a:Raft.AN):Node:=Node.mk (a.id:Int) (a.term:Int) (vo a.vote) (a.base:Int) (Raft.tAt a.log a.base:Int) a.snap (toL (a.log.drop a.base)) (a.role:Int) (a.commit:Int) (a.wait:Int) (a3b a.votes) (a3i a.next) (a3i a.mat)
def toM:Raft.AM→Msg
  | .vote s d t idx lt=>Msg.mk 1 (s:Int) (d:Int) (t:Int) (idx:Int) (lt:Int) 0 false [] s_empty
  | .voted s d t y=>Msg.mk 2 (s:Int) (d:Int) (t:Int) 0 0 0 y [] s_empty
  | .add s d t idx lt es c=>Msg.mk 3 (s:Int) (d:Int) (t:Int) (idx:Int) (lt:Int) (c:Int) false (toL es) s_empty
  | .added s d t y idx=>Msg.mk 4 (s:Int) (d:Int) (t:Int) (idx:Int) 0 0 y [] s_empty
  | .snap s d t idx lt _ b=>Msg.mk 5 (s:Int) (d:Int) (t:Int) (idx:Int) (lt:Int) 0 false [] b
section
variable (a:Raft.AN)
theorem n_id:(toN a).id_=(a.id:Int):=rfl
theorem n_term:(toN a).term_=(a.term:Int):=rfl
theorem n_vote:(toN a).vote=vo a.vote:=rfl
theorem n_base:(toN a).base=(a.base:Int):=rfl
theorem n_bt:(toN a).baseTerm=(Raft.tAt a.log a.base:Int):=rfl
theorem n_snap:(toN a).snap=a.snap:=rfl
theorem n_log:(toN a).log=toL (a.log.drop a.base):=rfl
theorem n_role:(toN a).role=(a.role:Int):=rfl
theorem n_commit:(toN a).commit=(a.commit:Int):=rfl
theorem n_wait:(toN a).wait=(a.wait:Int):=rfl
theorem n_votes:(toN a).votes=a3b a.votes:=rfl
theorem n_next:(toN a).next=a3i a.next:=rfl
theorem n_mat:(toN a).match_=a3i a.mat:=rfl
end
/-- bounds of a node -/
structure Wf (a:Raft.AN):Prop where
  id:a.id < 3
  bc:a.base≤a.commit
  cl:a.commit≤a.log.length
  len:a.log.length≤100000
  term:a.term≤1073741824
  wait:a.wait≤100000
  role:a.role≤2
theorem toL_len (L:Raft.Lg):(toL L).length=L.length:=by simp [toL]
theorem toL_take (L:Raft.Lg)(n:Nat):(toL L).take n=toL (L.take n):=by simp [toL,List.map_take]
theorem toL_drop (L:Raft.Lg)(n:Nat):(toL L).drop n=toL (L.drop n):=by simp [toL,List.map_drop]
theorem toL_get (L:Raft.Lg)(n:Nat):(toL L)[n]?=L[n]?.map toE:=by simp [toL]
theorem toL_append (L M:Raft.Lg):toL L++toL M=toL (L++M):=by simp [toL]
/-- the entry at an index behind the base -/
theorem log_get (L:Raft.Lg)(b k:Nat)(h:b+k < L.length):∃ e,(toL (L.drop b))[k]?=some (toE e)∧L[b+k]?=some e∧Raft.tAt L (b+k+1)=e.1:=by
  refine ⟨L[b+k],?_,List.getElem?_eq_getElem h,?_⟩
  · rw [toL_get,List.getElem?_drop,List.getElem?_eq_getElem h];rfl
  · simp only [Raft.tAt];rw [List.getElem?_eq_getElem h]
theorem own_eq (l:List Entry)(h:l.length≤1073741824):own l=some l:=by
  unfold own
  rw [cdt (by omega),Int.toNat_natCast,fits_ok h,cond_true]
  simp
theorem sel3 (f:Nat→Nat){to:Nat}(h:to < 3):cond (decide ((to:Int)=0)) (a3i f).a0 (cond (decide ((to:Int)=1)) (a3i f).a1 (a3i f).a2)=(f to:Int):=by
  match to,h with
  | 0,_=>rfl
  | 1,_=>rfl
  | 2,_=>rfl
theorem in3 {to:Nat}(h:to < 3):(decide (0≤(to:Int)) && decide ((to:Int) < 3))=true:=by
  rw [decide_eq_true (show (0:Int)≤to by omega),decide_eq_true (show (to:Int) < 3 by omega)];rfl
theorem last_eq {a:Raft.AN}(h:Wf a):last_ (toN a)=some ((a.log.length:Int),(Raft.lastT a.log:Int)):=by
  have h1:=h.bc
  have h2:=h.cl
  have h3:=h.len
  have hl:((toN a).log.length:Int)=(a.log.length:Int) - (a.base:Int):=by simp only [toN,toL_len,List.length_drop];omega
  have hw:w64 ((a.base:Int)+((a.log.length:Int) - (a.base:Int)))=(a.log.length:Int):=by rw [w64_ok (by omega)];omega
  unfold last_
  simp only [hl,show (toN a).base=(a.base:Int) from rfl,hw]
  rw [w64_ok (n:=(a.log.length:Int) - (a.base:Int)) (by omega),w64_ok (by omega)]
  by_cases hz:a.log.length=a.base
  · rw [cdf (by omega),cond_false]
    rw [show (toN a).baseTerm=(Raft.tAt a.log a.base:Int) from rfl,Raft.lastT,hz]
  · rw [cdt (by omega),cdt (by omega),cdt (by omega)]
    obtain ⟨e,he,_,ht⟩:=log_get a.log a.base (a.log.length - a.base - 1) (by omega)
    rw [show ((a.log.length:Int) - (a.base:Int) - 1).toNat=a.log.length - a.base - 1 by omega,show (toN a).log=toL (a.log.drop a.base) from rfl,he,ob_some]
    rw [Raft.lastT,← show a.base+(a.log.length - a.base - 1)+1=a.log.length by omega,ht]
    rw [show a.base+(a.log.length - a.base - 1)+1=a.log.length by omega]
    rfl
theorem send_eq (to:Int)(m:Msg)(n:Node)(out:List Msg)(h:out.length≤1000):send to m (Worker.mk n out)=some (Worker.mk n (out++[Msg.mk m.kind n.id_ to n.term_ m.index m.logTerm m.commit m.yes m.entries m.snap])):=by
  unfold send
  rw [fits_ok (by simp;omega),cond_true]
theorem min2_eq {x y:Int}(h:x≤y):min2 x y=x:=by unfold min2;rw [if_neg (by omega)]
theorem owe_eq {a:Raft.AN}(h:Wf a){to:Nat}(ht:to < 3)(h1:1≤a.next to)(h2:a.next to≤a.log.length+1)(out:List Msg)(ho:out.length≤900) :
    owe (to:Int) (Worker.mk (toN a) out)=some (Worker.mk (toN a) (out++[toM (Raft.owe a to)])):=by
  have hb:=h.bc
  have hc:=h.cl
  have hl:=h.len
  unfold owe
  rw [in3 ht,cond_true]
  simp only [n_next,sel3 a.next ht,n_base,n_log,cond_true]
  by_cases hs:a.next to≤a.base
  · rw [cdt (by omega),send_eq _ _ _ _ (by omega),ob_some]
    unfold Raft.owe
    rw [if_pos hs]
    rfl
  · obtain ⟨k,hk⟩:∃ k,a.next to=a.base+k+1:=⟨a.next to - a.base - 1,by omega⟩
    have hlen:((toL (a.log.drop a.base)).length:Int)=((a.log.length - a.base:Nat):Int):=by rw [toL_len,List.length_drop]
    have hw1:w64 ((a.next to:Int) - 1)=((a.base+k:Nat):Int):=by rw [w64_ok (by omega)];omega
    have hw2:w64 (((a.base+k:Nat):Int) - (a.base:Int))=(k:Int):=by rw [w64_ok (by omega)];omega
    have hw3:w64 ((k:Int) - 1)=(k:Int) - 1:=w64_ok (by omega)
    rw [cdf (by omega)]
    simp only [hw1,hw2,hw3,hlen,min2_eq (show (k:Int)≤((a.log.length - a.base:Nat):Int) by omega),Int.toNat_natCast]
    rw [cdt (by omega),cdt (by omega),cdt (by omega)]
    have hrest:((toL (a.log.drop a.base)).take (a.log.length - a.base)).drop k=toL (a.log.drop (a.base+k)):=by
      rw [List.take_of_length_le (by rw [toL_len,List.length_drop];exact Nat.le_refl _),toL_drop,List.drop_drop]
    have hrl:(toL (a.log.drop (a.base+k))).length=a.log.length - (a.base+k):=by rw [toL_len,List.length_drop]
    have hmn:min2 (((a.log.length - (a.base+k):Nat)):Int) 8=((min (a.log.length - (a.base+k)) 8:Nat):Int):=by unfold min2;split<;>omega
    have hes:(toL (a.log.drop (a.base+k))).take (min (a.log.length - (a.base+k)) 8)=toL ((a.log.drop (a.base+k)).take 8):=by
      rw [toL_take]
      congr 1
      rw [List.take_eq_take_iff,List.length_drop]
      omega
    have hesl:(toL ((a.log.drop (a.base+k)).take 8)).length≤8:=by rw [toL_len,List.length_take];omega
    simp only [hrest,hrl,hmn,Int.toNat_natCast,hes]
    have hfin:∀ tt:Int,tt=(Raft.tAt a.log (a.base+k):Int)→(ob (own (toL ((a.log.drop (a.base+k)).take 8))) fun r2=>ob (send (to:Int) (Msg.mk 3 0 0 0 ((a.base+k:Nat):Int) tt (toN a).commit false r2 s_empty) (Worker.mk (toN a) out)) fun y3=>some y3)=some (Worker.mk (toN a) (out++[toM (Raft.owe a to)])):=by
      intro tt htt
      rw [own_eq _ (by omega),ob_some,send_eq _ _ _ _ (by omega),ob_some,htt]
      unfold Raft.owe
      rw [if_neg hs,hk,Nat.add_sub_cancel]
      rfl
    by_cases h0:k=0
    · subst h0
      rw [cdf (by omega),cond_false,cdt (by omega),cdt (by omega)]
      exact hfin _ rfl
    · rw [cdt (by omega),decide_eq_true (by omega),cond_true,cdt (by omega)]
      obtain ⟨e,he,_,hte⟩:=log_get a.log a.base (k - 1) (by omega)
      rw [show ((k:Int) - 1).toNat=k - 1 by omega,he,ob_some,cdt (by omega),cdt (by omega)]
      refine hfin _ ?_
      rw [← show a.base+(k - 1)+1=a.base+k by omega,hte]
      rfl
end Go.Proofs.Ytoicjnggljeicaa
