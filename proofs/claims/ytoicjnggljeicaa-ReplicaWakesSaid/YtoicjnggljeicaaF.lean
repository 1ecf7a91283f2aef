/- By program (gen.py): the functions in their typed form. -/
import Derived.Test.YtoicjnggljeicaaF0
namespace Go.Proofs.Ytoicjnggljeicaa
open Go Go.Ev
set_option maxRecDepth 1000000
noncomputable section
def ref15_added (n1:Node)(m1:Msg):Option (Node×(List Msg)) :=
 cond (cond (m1.term_ != n1.term_) true (n1.role != 2))
 (some (n1,[]))
 (ob (ref15Last n1) fun r0 =>
 cond (!m1.yes)
 (cond (decide (0≤m1.from_) && decide (m1.from_ < 3))
 (cond (decide (0≤m1.from_) && decide (m1.from_ < 3))
 (cond (decide (0≤m1.from_) && decide (m1.from_ < 3))
 (cond (decide (0≤m1.from_) && decide (m1.from_ < 3))
 (cond (decide ((cond (decide (m1.from_=0)) (cond (decide (m1.from_=0)) (max2 (max2 (min2 (w64 ((cond (decide (m1.from_=0)) n1.next.a0 (cond (decide (m1.from_=1)) n1.next.a1 n1.next.a2)) - 1)) (w64 (m1.index+1))) 1) (w64 ((cond (decide (m1.from_=0)) n1.match_.a0 (cond (decide (m1.from_=1)) n1.match_.a1 n1.match_.a2))+1))) n1.next.a0) (cond (decide (m1.from_=1)) (cond (decide (m1.from_=1)) (max2 (max2 (min2 (w64 ((cond (decide (m1.from_=0)) n1.next.a0 (cond (decide (m1.from_=1)) n1.next.a1 n1.next.a2)) - 1)) (w64 (m1.index+1))) 1) (w64 ((cond (decide (m1.from_=0)) n1.match_.a0 (cond (decide (m1.from_=1)) n1.match_.a1 n1.match_.a2))+1))) n1.next.a1) (cond (decide (m1.from_=2)) (max2 (max2 (min2 (w64 ((cond (decide (m1.from_=0)) n1.next.a0 (cond (decide (m1.from_=1)) n1.next.a1 n1.next.a2)) - 1)) (w64 (m1.index+1))) 1) (w64 ((cond (decide (m1.from_=0)) n1.match_.a0 (cond (decide (m1.from_=1)) n1.match_.a1 n1.match_.a2))+1))) n1.next.a2)))≤r0.1))
 (ob (ref15_owes (Node.mk n1.id_ n1.term_ n1.vote n1.base n1.baseTerm n1.snap n1.log n1.role n1.commit n1.wait n1.votes (A3Int.mk (cond (decide (m1.from_=0)) (max2 (max2 (min2 (w64 ((cond (decide (m1.from_=0)) n1.next.a0 (cond (decide (m1.from_=1)) n1.next.a1 n1.next.a2)) - 1)) (w64 (m1.index+1))) 1) (w64 ((cond (decide (m1.from_=0)) n1.match_.a0 (cond (decide (m1.from_=1)) n1.match_.a1 n1.match_.a2))+1))) n1.next.a0) (cond (decide (m1.from_=1)) (max2 (max2 (min2 (w64 ((cond (decide (m1.from_=0)) n1.next.a0 (cond (decide (m1.from_=1)) n1.next.a1 n1.next.a2)) - 1)) (w64 (m1.index+1))) 1) (w64 ((cond (decide (m1.from_=0)) n1.match_.a0 (cond (decide (m1.from_=1)) n1.match_.a1 n1.match_.a2))+1))) n1.next.a1) (cond (decide (m1.from_=2)) (max2 (max2 (min2 (w64 ((cond (decide (m1.from_=0)) n1.next.a0 (cond (decide (m1.from_=1)) n1.next.a1 n1.next.a2)) - 1)) (w64 (m1.index+1))) 1) (w64 ((cond (decide (m1.from_=0)) n1.match_.a0 (cond (decide (m1.from_=1)) n1.match_.a1 n1.match_.a2))+1))) n1.next.a2)) n1.match_) m1.from_) fun r1 =>
 some ((Node.mk n1.id_ n1.term_ n1.vote n1.base n1.baseTerm n1.snap n1.log n1.role n1.commit n1.wait n1.votes (A3Int.mk (cond (decide (m1.from_=0)) (max2 (max2 (min2 (w64 ((cond (decide (m1.from_=0)) n1.next.a0 (cond (decide (m1.from_=1)) n1.next.a1 n1.next.a2)) - 1)) (w64 (m1.index+1))) 1) (w64 ((cond (decide (m1.from_=0)) n1.match_.a0 (cond (decide (m1.from_=1)) n1.match_.a1 n1.match_.a2))+1))) n1.next.a0) (cond (decide (m1.from_=1)) (max2 (max2 (min2 (w64 ((cond (decide (m1.from_=0)) n1.next.a0 (cond (decide (m1.from_=1)) n1.next.a1 n1.next.a2)) - 1)) (w64 (m1.index+1))) 1) (w64 ((cond (decide (m1.from_=0)) n1.match_.a0 (cond (decide (m1.from_=1)) n1.match_.a1 n1.match_.a2))+1))) n1.next.a1) (cond (decide (m1.from_=2)) (max2 (max2 (min2 (w64 ((cond (decide (m1.from_=0)) n1.next.a0 (cond (decide (m1.from_=1)) n1.next.a1 n1.next.a2)) - 1)) (w64 (m1.index+1))) 1) (w64 ((cond (decide (m1.from_=0)) n1.match_.a0 (cond (decide (m1.from_=1)) n1.match_.a1 n1.match_.a2))+1))) n1.next.a2)) n1.match_),[r1]))
 (some ((Node.mk n1.id_ n1.term_ n1.vote n1.base n1.baseTerm n1.snap n1.log n1.role n1.commit n1.wait n1.votes (A3Int.mk (cond (decide (m1.from_=0)) (max2 (max2 (min2 (w64 ((cond (decide (m1.from_=0)) n1.next.a0 (cond (decide (m1.from_=1)) n1.next.a1 n1.next.a2)) - 1)) (w64 (m1.index+1))) 1) (w64 ((cond (decide (m1.from_=0)) n1.match_.a0 (cond (decide (m1.from_=1)) n1.match_.a1 n1.match_.a2))+1))) n1.next.a0) (cond (decide (m1.from_=1)) (max2 (max2 (min2 (w64 ((cond (decide (m1.from_=0)) n1.next.a0 (cond (decide (m1.from_=1)) n1.next.a1 n1.next.a2)) - 1)) (w64 (m1.index+1))) 1) (w64 ((cond (decide (m1.from_=0)) n1.match_.a0 (cond (decide (m1.from_=1)) n1.match_.a1 n1.match_.a2))+1))) n1.next.a1) (cond (decide (m1.from_=2)) (max2 (max2 (min2 (w64 ((cond (decide (m1.from_=0)) n1.next.a0 (cond (decide (m1.from_=1)) n1.next.a1 n1.next.a2)) - 1)) (w64 (m1.index+1))) 1) (w64 ((cond (decide (m1.from_=0)) n1.match_.a0 (cond (decide (m1.from_=1)) n1.match_.a1 n1.match_.a2))+1))) n1.next.a2)) n1.match_),[])))
 none)
 none)
 none)
 none)
 (cond (decide (0≤m1.from_) && decide (m1.from_ < 3))
 (cond (decide (0≤m1.from_) && decide (m1.from_ < 3))
 (cond (decide (0≤m1.from_) && decide (m1.from_ < 3))
 (cond (decide (0≤m1.from_) && decide (m1.from_ < 3))
 (ob (L56_12 r0.1 (Node.mk n1.id_ n1.term_ n1.vote n1.base n1.baseTerm n1.snap n1.log n1.role n1.commit n1.wait n1.votes (A3Int.mk (cond (decide (m1.from_=0)) (w64 ((cond (decide (m1.from_=0)) (cond (decide (m1.from_=0)) (max2 (cond (decide (m1.from_=0)) n1.match_.a0 (cond (decide (m1.from_=1)) n1.match_.a1 n1.match_.a2)) m1.index) n1.match_.a0) (cond (decide (m1.from_=1)) (cond (decide (m1.from_=1)) (max2 (cond (decide (m1.from_=0)) n1.match_.a0 (cond (decide (m1.from_=1)) n1.match_.a1 n1.match_.a2)) m1.index) n1.match_.a1) (cond (decide (m1.from_=2)) (max2 (cond (decide (m1.from_=0)) n1.match_.a0 (cond (decide (m1.from_=1)) n1.match_.a1 n1.match_.a2)) m1.index) n1.match_.a2)))+1)) n1.next.a0) (cond (decide (m1.from_=1)) (w64 ((cond (decide (m1.from_=0)) (cond (decide (m1.from_=0)) (max2 (cond (decide (m1.from_=0)) n1.match_.a0 (cond (decide (m1.from_=1)) n1.match_.a1 n1.match_.a2)) m1.index) n1.match_.a0) (cond (decide (m1.from_=1)) (cond (decide (m1.from_=1)) (max2 (cond (decide (m1.from_=0)) n1.match_.a0 (cond (decide (m1.from_=1)) n1.match_.a1 n1.match_.a2)) m1.index) n1.match_.a1) (cond (decide (m1.from_=2)) (max2 (cond (decide (m1.from_=0)) n1.match_.a0 (cond (decide (m1.from_=1)) n1.match_.a1 n1.match_.a2)) m1.index) n1.match_.a2)))+1)) n1.next.a1) (cond (decide (m1.from_=2)) (w64 ((cond (decide (m1.from_=0)) (cond (decide (m1.from_=0)) (max2 (cond (decide (m1.from_=0)) n1.match_.a0 (cond (decide (m1.from_=1)) n1.match_.a1 n1.match_.a2)) m1.index) n1.match_.a0) (cond (decide (m1.from_=1)) (cond (decide (m1.from_=1)) (max2 (cond (decide (m1.from_=0)) n1.match_.a0 (cond (decide (m1.from_=1)) n1.match_.a1 n1.match_.a2)) m1.index) n1.match_.a1) (cond (decide (m1.from_=2)) (max2 (cond (decide (m1.from_=0)) n1.match_.a0 (cond (decide (m1.from_=1)) n1.match_.a1 n1.match_.a2)) m1.index) n1.match_.a2)))+1)) n1.next.a2)) (A3Int.mk (cond (decide (m1.from_=0)) (max2 (cond (decide (m1.from_=0)) n1.match_.a0 (cond (decide (m1.from_=1)) n1.match_.a1 n1.match_.a2)) m1.index) n1.match_.a0) (cond (decide (m1.from_=1)) (max2 (cond (decide (m1.from_=0)) n1.match_.a0 (cond (decide (m1.from_=1)) n1.match_.a1 n1.match_.a2)) m1.index) n1.match_.a1) (cond (decide (m1.from_=2)) (max2 (cond (decide (m1.from_=0)) n1.match_.a0 (cond (decide (m1.from_=1)) n1.match_.a1 n1.match_.a2)) m1.index) n1.match_.a2))) (Node.mk 0 0 0 0 0 s_empty [] 0 0 0 (A3Bool.mk false false false) (A3Int.mk 0 0 0) (A3Int.mk 0 0 0))) fun y2 =>
 some (y2.1,[]))
 none)
 none)
 none)
 none))
def un_ref15_added (p:Node×Msg):Option (Node×(List Msg)):=ref15_added p.1 p.2
def df_ref15_added:DFn TL:=DFn.of (DA.cons (DT.agg dc_Node) (DA.one (DT.agg dc_Msg))) un_ref15_added (DA.cons (DT.agg dc_Node) (DA.one (DT.one di_lMsg)))
theorem run_ref15_added:DRun [(51,df_ref15Last),(61,df_ref15_owes)] [(156012,sl_L56_12),(156016,sl_L56_16)] (envOf tab sl sh [(56,fd56)] [(51,.pure),(61,.keep)]) 56 (DA.cons (DT.agg dc_Node) (DA.one (DT.agg dc_Msg))) un_ref15_added (DA.cons (DT.agg dc_Node) (DA.one (DT.one di_lMsg))):=fun _=>by kernel_rfl
theorem ok_ref15_added:DOK PR 56 .keep df_ref15_added:=dok run_ref15_added (envOK_of base (aC (st56.okl rfl (aC (lC ok_L56_12 rfl) (aC (lC ok_L56_16 rfl) aN))) aN) (aC (oD ok_ref15Last rfl) (aC (oD ok_ref15_owes rfl) aN))) (.inl rfl) st56.enters
def ref15_snap (n1:Node)(m1:Msg):Option (Node×(List Msg)) :=
 cond (decide (m1.term_ < n1.term_))
 (some (n1,[(Msg.mk 4 n1.id_ m1.from_ n1.term_ 0 0 0 false [] s_empty)]))
 (cond (decide (m1.index > n1.commit))
 (ob (ref15TermAt (Node.mk n1.id_ n1.term_ n1.vote n1.base n1.baseTerm n1.snap n1.log 0 n1.commit 0 n1.votes n1.next n1.match_) m1.index) fun r0 =>
 cond (r0 == m1.logTerm)
 (cond (decide (0≤(w64 (m1.index - n1.base))))
 (cond (decide ((w64 (m1.index - n1.base))≤(n1.log.length:Int)))
 (cond (decide ((n1.log.length:Int)≤(n1.log.length:Int)))
 (cond (fits (([]++((n1.log.take (((n1.log.length:Int)).toNat)).drop (((w64 (m1.index - n1.base))).toNat))).length))
 (some ((Node.mk n1.id_ n1.term_ n1.vote m1.index m1.logTerm m1.snap ([]++((n1.log.take (((n1.log.length:Int)).toNat)).drop (((w64 (m1.index - n1.base))).toNat))) 0 m1.index 0 n1.votes n1.next n1.match_),[(Msg.mk 4 n1.id_ m1.from_ n1.term_ (max2 m1.index n1.commit) 0 0 true [] s_empty)]))
 none)
 none)
 none)
 none)
 (some ((Node.mk n1.id_ n1.term_ n1.vote m1.index m1.logTerm m1.snap [] 0 m1.index 0 n1.votes n1.next n1.match_),[(Msg.mk 4 n1.id_ m1.from_ n1.term_ (max2 m1.index n1.commit) 0 0 true [] s_empty)])))
 (some ((Node.mk n1.id_ n1.term_ n1.vote n1.base n1.baseTerm n1.snap n1.log 0 n1.commit 0 n1.votes n1.next n1.match_),[(Msg.mk 4 n1.id_ m1.from_ n1.term_ (max2 m1.index n1.commit) 0 0 true [] s_empty)])))
def un_ref15_snap (p:Node×Msg):Option (Node×(List Msg)):=ref15_snap p.1 p.2
def df_ref15_snap:DFn TL:=DFn.of (DA.cons (DT.agg dc_Node) (DA.one (DT.agg dc_Msg))) un_ref15_snap (DA.cons (DT.agg dc_Node) (DA.one (DT.one di_lMsg)))
theorem run_ref15_snap:DRun [(58,df_ref15TermAt)] [] (envOf tab sl sh [(57,fd57)] [(58,.pure)]) 57 (DA.cons (DT.agg dc_Node) (DA.one (DT.agg dc_Msg))) un_ref15_snap (DA.cons (DT.agg dc_Node) (DA.one (DT.one di_lMsg))):=fun _=>by kernel_rfl
theorem ok_ref15_snap:DOK PR 57 .keep df_ref15_snap:=dok run_ref15_snap (envOK_of base (aC (st57.okl rfl aN) aN) (aC (oD ok_ref15TermAt rfl) aN)) (.inl rfl) st57.enters
def ref15Take (n1:Node)(m1:Msg):Option (Node×(List Msg)) :=
 cond (cond (decide (m1.from_ < 0)) true (cond (decide (m1.from_ > 2)) true (cond (m1.from_ == n1.id_) true (cond (m1.to_ != n1.id_) true (cond (decide (m1.kind < 1)) true (cond (decide (m1.kind > 5)) true (cond (decide (m1.term_ < 0)) true (decide (m1.term_ > 1073741824)))))))))
 (some (n1,[]))
 (cond (decide (m1.term_ > n1.term_))
 (cond (m1.kind == 1)
 (ob (ref15_vote (Node.mk n1.id_ m1.term_ (-1) n1.base n1.baseTerm n1.snap n1.log 0 n1.commit n1.wait (A3Bool.mk false false false) n1.next n1.match_) m1) fun r0 =>
 some (r0.1,r0.2))
 (cond (m1.kind == 2)
 (ob (ref15_voted (Node.mk n1.id_ m1.term_ (-1) n1.base n1.baseTerm n1.snap n1.log 0 n1.commit n1.wait (A3Bool.mk false false false) n1.next n1.match_) m1) fun r1 =>
 some (r1.1,r1.2))
 (cond (m1.kind == 3)
 (ob (ref15_add (Node.mk n1.id_ m1.term_ (-1) n1.base n1.baseTerm n1.snap n1.log 0 n1.commit n1.wait (A3Bool.mk false false false) n1.next n1.match_) m1) fun r2 =>
 some (r2.1,r2.2))
 (cond (m1.kind == 4)
 (ob (ref15_added (Node.mk n1.id_ m1.term_ (-1) n1.base n1.baseTerm n1.snap n1.log 0 n1.commit n1.wait (A3Bool.mk false false false) n1.next n1.match_) m1) fun r3 =>
 some (r3.1,r3.2))
 (ob (ref15_snap (Node.mk n1.id_ m1.term_ (-1) n1.base n1.baseTerm n1.snap n1.log 0 n1.commit n1.wait (A3Bool.mk false false false) n1.next n1.match_) m1) fun r4 =>
 some (r4.1,r4.2))))))
 (cond (m1.kind == 1)
 (ob (ref15_vote n1 m1) fun r5 =>
 some (r5.1,r5.2))
 (cond (m1.kind == 2)
 (ob (ref15_voted n1 m1) fun r6 =>
 some (r6.1,r6.2))
 (cond (m1.kind == 3)
 (ob (ref15_add n1 m1) fun r7 =>
 some (r7.1,r7.2))
 (cond (m1.kind == 4)
 (ob (ref15_added n1 m1) fun r8 =>
 some (r8.1,r8.2))
 (ob (ref15_snap n1 m1) fun r9 =>
 some (r9.1,r9.2)))))))
def un_ref15Take (p:Node×Msg):Option (Node×(List Msg)):=ref15Take p.1 p.2
def df_ref15Take:DFn TL:=DFn.of (DA.cons (DT.agg dc_Node) (DA.one (DT.agg dc_Msg))) un_ref15Take (DA.cons (DT.agg dc_Node) (DA.one (DT.one di_lMsg)))
theorem run_ref15Take:DRun [(53,df_ref15_vote),(54,df_ref15_voted),(55,df_ref15_add),(56,df_ref15_added),(57,df_ref15_snap)] [] (envOf tab sl sh [(39,fd39)] [(53,.keep),(54,.keep),(55,.keep),(56,.keep),(57,.keep)]) 39 (DA.cons (DT.agg dc_Node) (DA.one (DT.agg dc_Msg))) un_ref15Take (DA.cons (DT.agg dc_Node) (DA.one (DT.one di_lMsg))):=fun _=>by kernel_rfl
theorem ok_ref15Take:DOK PR 39 .keep df_ref15Take:=dok run_ref15Take (envOK_of base (aC (st39.okl rfl aN) aN) (aC (oD ok_ref15_vote rfl) (aC (oD ok_ref15_voted rfl) (aC (oD ok_ref15_add rfl) (aC (oD ok_ref15_added rfl) (aC (oD ok_ref15_snap rfl) aN)))))) (.inl rfl) st39.enters
def ref15Propose (n1:Node)(s1:ByteArray):Option (Node×Int×Int) :=
 cond (n1.role != 2)
 (some (n1,0,21))
 (cond (sEq s1 s_empty)
 (some (n1,0,1))
 (cond (fits (([]++n1.log).length))
 (cond (fits ((([]++n1.log)++[(Entry.mk n1.term_ s1)]).length))
 (ob (ref15Last (Node.mk n1.id_ n1.term_ n1.vote n1.base n1.baseTerm n1.snap (([]++n1.log)++[(Entry.mk n1.term_ s1)]) n1.role n1.commit n1.wait n1.votes n1.next n1.match_)) fun r0 =>
 cond (decide (0≤n1.id_) && decide (n1.id_ < 3))
 (some ((Node.mk n1.id_ n1.term_ n1.vote n1.base n1.baseTerm n1.snap (([]++n1.log)++[(Entry.mk n1.term_ s1)]) n1.role n1.commit n1.wait n1.votes n1.next (A3Int.mk (cond (decide (n1.id_=0)) r0.1 n1.match_.a0) (cond (decide (n1.id_=1)) r0.1 n1.match_.a1) (cond (decide (n1.id_=2)) r0.1 n1.match_.a2))),r0.1,0))
 none)
 none)
 none))
def un_ref15Propose (p:Node×ByteArray):Option (Node×Int×Int):=ref15Propose p.1 p.2
def df_ref15Propose:DFn TL:=DFn.of (DA.cons (DT.agg dc_Node) (DA.one (DT.one DI.str))) un_ref15Propose (DA.cons (DT.agg dc_Node) (DA.cons dI (DA.one dI)))
theorem run_ref15Propose:DRun [(51,df_ref15Last)] [] (envOf tab sl sh [(41,fd41)] [(51,.pure)]) 41 (DA.cons (DT.agg dc_Node) (DA.one (DT.one DI.str))) un_ref15Propose (DA.cons (DT.agg dc_Node) (DA.cons dI (DA.one dI))):=fun _=>by kernel_rfl
theorem ok_ref15Propose:DOK PR 41 .keep df_ref15Propose:=dok run_ref15Propose (envOK_of base (aC (st41.okl rfl aN) aN) (aC (oD ok_ref15Last rfl) aN)) (.inl rfl) st41.enters
def ref15Wake (n1:Node):Option Node :=
 cond (fits (([]++n1.log).length))
 (some (Node.mk n1.id_ n1.term_ n1.vote n1.base n1.baseTerm n1.snap ([]++n1.log) 0 n1.commit 0 (A3Bool.mk false false false) (A3Int.mk 0 0 0) (A3Int.mk 0 0 0)))
 none
def un_ref15Wake (p:Node):Option Node:=ref15Wake p
def df_ref15Wake:DFn TL:=DFn.of (DA.one (DT.agg dc_Node)) un_ref15Wake (DA.one (DT.agg dc_Node))
theorem run_ref15Wake:DRun [] [] (envOf tab sl sh [(42,fd42)] []) 42 (DA.one (DT.agg dc_Node)) un_ref15Wake (DA.one (DT.agg dc_Node)):=fun _=>by kernel_rfl
theorem ok_ref15Wake:DOK PR 42 .keep df_ref15Wake:=dok run_ref15Wake (envOK_of base (aC (st42.okl rfl aN) aN) aN) (.inl rfl) st42.enters
def ref15Compact (n1:Node)(i1:Int)(s1:ByteArray):Option (Node×Int) :=
 cond (cond (decide (i1≤n1.base)) true (decide (i1 > n1.commit)))
 (some (n1,1))
 (ob (ref15TermAt n1 i1) fun r0 =>
 cond (decide (0≤(w64 (i1 - n1.base))))
 (cond (decide ((w64 (i1 - n1.base))≤(n1.log.length:Int)))
 (cond (decide ((n1.log.length:Int)≤(n1.log.length:Int)))
 (cond (fits (([]++((n1.log.take (((n1.log.length:Int)).toNat)).drop (((w64 (i1 - n1.base))).toNat))).length))
 (some ((Node.mk n1.id_ n1.term_ n1.vote i1 r0 s1 ([]++((n1.log.take (((n1.log.length:Int)).toNat)).drop (((w64 (i1 - n1.base))).toNat))) n1.role n1.commit n1.wait n1.votes n1.next n1.match_),0))
 none)
 none)
 none)
 none)
def un_ref15Compact (p:Node×Int×ByteArray):Option (Node×Int):=ref15Compact p.1 p.2.1 p.2.2
def df_ref15Compact:DFn TL:=DFn.of (DA.cons (DT.agg dc_Node) (DA.cons dI (DA.one (DT.one DI.str)))) un_ref15Compact (DA.cons (DT.agg dc_Node) (DA.one dI))
theorem run_ref15Compact:DRun [(58,df_ref15TermAt)] [] (envOf tab sl sh [(43,fd43)] [(58,.pure)]) 43 (DA.cons (DT.agg dc_Node) (DA.cons dI (DA.one (DT.one DI.str)))) un_ref15Compact (DA.cons (DT.agg dc_Node) (DA.one dI)):=fun _=>by kernel_rfl
theorem ok_ref15Compact:DOK PR 43 .keep df_ref15Compact:=dok run_ref15Compact (envOK_of base (aC (st43.okl rfl aN) aN) (aC (oD ok_ref15TermAt rfl) aN)) (.inl rfl) st43.enters
abbrev tY9:=(List Entry)×(List Entry)×Bool×Int
def step_L59_4 (l1:List Entry)(l2:List Entry)(b1:Bool)(i1:Int):Option ((tY9)⊕(((Bool)⊕(Bool)))) :=
 cond (decide (i1 < (l1.length:Int)))
 (cond (decide (0≤i1))
 (ob (l1[i1.toNat]?) fun e0 =>
 cond (decide (0≤i1))
 (ob (l2[i1.toNat]?) fun e1 =>
 cond (!(cond (e0.term_ == e1.term_) (cond (sEq e0.cmd e1.cmd) true false) false))
 (some (.inr (.inr false)))
 (some (.inl (l1,l2,b1,(w64 (i1+1))))))
 none)
 none)
 (some (.inr (.inl b1)))
def stp_L59_4 (p:tY9):Option ((tY9)⊕(((Bool)⊕(Bool)))):=step_L59_4 p.1 p.2.1 p.2.2.1 p.2.2.2
def L59_4 (l1:List Entry)(l2:List Entry)(b1:Bool)(i1:Int):Option (((Bool)⊕(Bool))):=iterO stp_L59_4 (((l1.length:Int) - i1).toNat+2) (l1,l2,b1,i1)
def ch_L59_4:kT (tY9):=kO (kS 0 (kC (kF j_lEntry) (kC (kF j_lEntry) (kC kB (kC kI kN)))) kN) (fun ((z0,z1,z2,z3,_),_)=>(z0,z1,z2,z3)) (fun (x:tY9)=>((x.1,(x.2.1,(x.2.2.1,(x.2.2.2,())))),())) (fun _=>rfl)
def sl_L59_4:SFn TL:=SFn.two ch_L59_4.dec (fun p=>L59_4 p.1 p.2.1 p.2.2.1 p.2.2.2) (.exit 0) .ret co0_L34_4.enc co0_L34_4.enc
def v_L59_4:Env:=envOf tab sl sh [] []
theorem v_L59_4_ok:EnvOK PR (mkD cZ sZ) v_L59_4:=envOK_of base aN aN
theorem run_L59_4 (x:tY9):Out.run (mkO cZ sZ) (evRound v_L59_4 12 20 fd59.an q_L59_4 (loopIn (loopsOf fd59.body) 4) (ch_L59_4.enc x)) (back2 ch_L59_4 co0_L34_4 co0_L34_4 (.exit 0) .ret)=stp_L59_4 x:=by kernel_rfl
theorem ok_L59_4:LoopOK PR (oneS sl_L59_4) nt59 q_L59_4 (loopIn (loopsOf fd59.body) 4) :=
  loop_two v_L59_4_ok (loops:=12) (k:=20) (an:=fd59.an) (by kernel_rfl) (FnSt.subl rfl st59.keys (aC (.inl (by kernel_rfl)) aN)) ch_L59_4 co0_L34_4 co0_L34_4 (.exit 0) .ret rfl rfl stp_L59_4 _ run_L59_4 (fun x y h=>⟨_,h⟩) (fun _=>below_iff.1 rfl)
def ref15_entries (l1:List Entry)(l2:List Entry):Option Bool :=
 cond ((l1.length:Int) != (l2.length:Int))
 (some false)
 (ob (L59_4 l1 l2 false 0) fun y0 =>
 two y0 (fun _ =>
 some true) (fun b2 =>
 some b2))
def un_ref15_entries (p:(List Entry)×(List Entry)):Option Bool:=ref15_entries p.1 p.2
def df_ref15_entries:DFn TL:=DFn.of (DA.cons (DT.one di_lEntry) (DA.one (DT.one di_lEntry))) un_ref15_entries (DA.one dB)
theorem run_ref15_entries:DRun [] [(159004,sl_L59_4)] (envOf tab sl sh [(59,fd59)] []) 59 (DA.cons (DT.one di_lEntry) (DA.one (DT.one di_lEntry))) un_ref15_entries (DA.one dB):=fun _=>by kernel_rfl
theorem ok_ref15_entries:DOK PR 59 .pure df_ref15_entries:=dok run_ref15_entries (envOK_of base (aC (st59.okl rfl (aC (lC ok_L59_4 rfl) aN)) aN) aN) (.inr rfl) st59.enters
def ref15Same (n1:Node)(n2:Node):Option Bool :=
 cond (n1.id_ == n2.id_)
 (cond (n1.term_ == n2.term_)
 (cond (n1.vote == n2.vote)
 (cond (n1.base == n2.base)
 (cond (n1.baseTerm == n2.baseTerm)
 (cond (sEq n1.snap n2.snap)
 (ob (ref15_entries n1.log n2.log) fun r0 =>
 some (cond r0 (cond (n1.role == n2.role) (cond (n1.commit == n2.commit) (cond (n1.wait == n2.wait) (cond (cond (n1.votes.a0 == n2.votes.a0) (cond (n1.votes.a1 == n2.votes.a1) (cond (n1.votes.a2 == n2.votes.a2) true false) false) false) (cond (cond (n1.next.a0 == n2.next.a0) (cond (n1.next.a1 == n2.next.a1) (cond (n1.next.a2 == n2.next.a2) true false) false) false) (cond (n1.match_.a0 == n2.match_.a0) (cond (n1.match_.a1 == n2.match_.a1) (cond (n1.match_.a2 == n2.match_.a2) true false) false) false) false) false) false) false) false) false))
 (some false))
 (some false))
 (some false))
 (some false))
 (some false))
 (some false)
def un_ref15Same (p:Node×Node):Option Bool:=ref15Same p.1 p.2
def df_ref15Same:DFn TL:=DFn.of (DA.cons (DT.agg dc_Node) (DA.one (DT.agg dc_Node))) un_ref15Same (DA.one dB)
theorem run_ref15Same:DRun [(59,df_ref15_entries)] [] (envOf tab sl sh [(44,fd44)] [(59,.pure)]) 44 (DA.cons (DT.agg dc_Node) (DA.one (DT.agg dc_Node))) un_ref15Same (DA.one dB):=fun _=>by kernel_rfl
theorem ok_ref15Same:DOK PR 44 .pure df_ref15Same:=dok run_ref15Same (envOK_of base (aC (st44.okl rfl aN) aN) (aC (oD ok_ref15_entries rfl) aN)) (.inr rfl) st44.enters
def ref15SameMsg (m1:Msg)(m2:Msg):Option Bool :=
 cond (m1.kind == m2.kind)
 (cond (m1.from_ == m2.from_)
 (cond (m1.to_ == m2.to_)
 (cond (m1.term_ == m2.term_)
 (cond (m1.index == m2.index)
 (cond (m1.logTerm == m2.logTerm)
 (cond (m1.commit == m2.commit)
 (cond (m1.yes == m2.yes)
 (ob (ref15_entries m1.entries m2.entries) fun r0 =>
 some (cond r0 (sEq m1.snap m2.snap) false))
 (some false))
 (some false))
 (some false))
 (some false))
 (some false))
 (some false))
 (some false))
 (some false)
def un_ref15SameMsg (p:Msg×Msg):Option Bool:=ref15SameMsg p.1 p.2
def df_ref15SameMsg:DFn TL:=DFn.of (DA.cons (DT.agg dc_Msg) (DA.one (DT.agg dc_Msg))) un_ref15SameMsg (DA.one dB)
theorem run_ref15SameMsg:DRun [(59,df_ref15_entries)] [] (envOf tab sl sh [(60,fd60)] [(59,.pure)]) 60 (DA.cons (DT.agg dc_Msg) (DA.one (DT.agg dc_Msg))) un_ref15SameMsg (DA.one dB):=fun _=>by kernel_rfl
theorem ok_ref15SameMsg:DOK PR 60 .pure df_ref15SameMsg:=dok run_ref15SameMsg (envOK_of base (aC (st60.okl rfl aN) aN) (aC (oD ok_ref15_entries rfl) aN)) (.inr rfl) st60.enters
abbrev tY10:=(List Msg)×(List Msg)×Bool×Int
def step_L45_4 (l1:List Msg)(l2:List Msg)(b1:Bool)(i1:Int):Option ((tY10)⊕(((Bool)⊕(Bool)))) :=
 cond (decide (i1 < (l1.length:Int)))
 (cond (decide (0≤i1))
 (ob (l1[i1.toNat]?) fun e0 =>
 ob (l15_toRefMsg e0) fun r1 =>
 cond (decide (0≤i1))
 (ob (l2[i1.toNat]?) fun e2 =>
 ob (ref15SameMsg r1 e2) fun r3 =>
 cond (!r3)
 (some (.inr (.inr false)))
 (some (.inl (l1,l2,b1,(w64 (i1+1))))))
 none)
 none)
 (some (.inr (.inl b1)))
def stp_L45_4 (p:tY10):Option ((tY10)⊕(((Bool)⊕(Bool)))):=step_L45_4 p.1 p.2.1 p.2.2.1 p.2.2.2
def L45_4 (l1:List Msg)(l2:List Msg)(b1:Bool)(i1:Int):Option (((Bool)⊕(Bool))):=iterO stp_L45_4 (((l1.length:Int) - i1).toNat+2) (l1,l2,b1,i1)
def ch_L45_4:kT (tY10):=kO (kS 0 (kC (kF j_lMsg) (kC (kF j_lMsg) (kC kB (kC kI kN)))) kN) (fun ((z0,z1,z2,z3,_),_)=>(z0,z1,z2,z3)) (fun (x:tY10)=>((x.1,(x.2.1,(x.2.2.1,(x.2.2.2,())))),())) (fun _=>rfl)
def sl_L45_4:SFn TL:=SFn.two ch_L45_4.dec (fun p=>L45_4 p.1 p.2.1 p.2.2.1 p.2.2.2) (.exit 0) .ret co0_L34_4.enc co0_L34_4.enc
def cs_lL45_4:cL:=[(40,df_l15_toRefMsg),(60,df_ref15SameMsg)]
def v_L45_4:Env:=envOf tab sl sh [] [(40,.keep),(60,.pure)]
theorem v_L45_4_ok:EnvOK PR (mkD cs_lL45_4 sZ) v_L45_4:=envOK_of base aN (aC (oD ok_l15_toRefMsg rfl) (aC (oD ok_ref15SameMsg rfl) aN))
theorem run_L45_4 (x:tY10):Out.run (mkO cs_lL45_4 sZ) (evRound v_L45_4 12 20 fd45.an q_L45_4 (loopIn (loopsOf fd45.body) 4) (ch_L45_4.enc x)) (back2 ch_L45_4 co0_L34_4 co0_L34_4 (.exit 0) .ret)=stp_L45_4 x:=by kernel_rfl
theorem ok_L45_4:LoopOK PR (oneS sl_L45_4) nt45 q_L45_4 (loopIn (loopsOf fd45.body) 4) :=
  loop_two v_L45_4_ok (loops:=12) (k:=20) (an:=fd45.an) (by kernel_rfl) (FnSt.subl rfl st45.keys (aC (.inl (by kernel_rfl)) aN)) ch_L45_4 co0_L34_4 co0_L34_4 (.exit 0) .ret rfl rfl stp_L45_4 _ run_L45_4 (fun x y h=>⟨_,h⟩) (fun _=>below_iff.1 rfl)
def l15_sameMsgs (l1:List Msg)(l2:List Msg):Option Bool :=
 cond ((l1.length:Int) != (l2.length:Int))
 (some false)
 (ob (L45_4 l1 l2 false 0) fun y0 =>
 two y0 (fun _ =>
 some true) (fun b2 =>
 some b2))
def un_l15_sameMsgs (p:(List Msg)×(List Msg)):Option Bool:=l15_sameMsgs p.1 p.2
def df_l15_sameMsgs:DFn TL:=DFn.of (DA.cons (DT.one di_lMsg) (DA.one (DT.one di_lMsg))) un_l15_sameMsgs (DA.one dB)
theorem run_l15_sameMsgs:DRun [] [(145004,sl_L45_4)] (envOf tab sl sh [(45,fd45)] []) 45 (DA.cons (DT.one di_lMsg) (DA.one (DT.one di_lMsg))) un_l15_sameMsgs (DA.one dB):=fun _=>by kernel_rfl
theorem ok_l15_sameMsgs:DOK PR 45 .pure df_l15_sameMsgs:=dok run_l15_sameMsgs (envOK_of base (aC (st45.okl rfl (aC (lC ok_L45_4 rfl) aN)) aN) aN) (.inr rfl) st45.enters
def threeDo (ax1:Act)(t1:Three):Option (Bool×Three) :=
 ob (within ax1.i 3) fun r0 =>
 cond (decide (0≤r0) && decide (r0 < 3))
 (ob (l15_toRef (Node.sel (decide (r0=0)) t1.n.a0 (Node.mk (cond (decide (r0=1)) t1.n.a1.id_ t1.n.a2.id_) (cond (decide (r0=1)) t1.n.a1.term_ t1.n.a2.term_) (cond (decide (r0=1)) t1.n.a1.vote t1.n.a2.vote) (cond (decide (r0=1)) t1.n.a1.base t1.n.a2.base) (cond (decide (r0=1)) t1.n.a1.baseTerm t1.n.a2.baseTerm) (cond (decide (r0=1)) t1.n.a1.snap t1.n.a2.snap) (cond (decide (r0=1)) t1.n.a1.log t1.n.a2.log) (cond (decide (r0=1)) t1.n.a1.role t1.n.a2.role) (cond (decide (r0=1)) t1.n.a1.commit t1.n.a2.commit) (cond (decide (r0=1)) t1.n.a1.wait t1.n.a2.wait) (A3Bool.mk (cond (decide (r0=1)) t1.n.a1.votes.a0 t1.n.a2.votes.a0) (cond (decide (r0=1)) t1.n.a1.votes.a1 t1.n.a2.votes.a1) (cond (decide (r0=1)) t1.n.a1.votes.a2 t1.n.a2.votes.a2)) (A3Int.mk (cond (decide (r0=1)) t1.n.a1.next.a0 t1.n.a2.next.a0) (cond (decide (r0=1)) t1.n.a1.next.a1 t1.n.a2.next.a1) (cond (decide (r0=1)) t1.n.a1.next.a2 t1.n.a2.next.a2)) (A3Int.mk (cond (decide (r0=1)) t1.n.a1.match_.a0 t1.n.a2.match_.a0) (cond (decide (r0=1)) t1.n.a1.match_.a1 t1.n.a2.match_.a1) (cond (decide (r0=1)) t1.n.a1.match_.a2 t1.n.a2.match_.a2))))) fun r1 =>
 ob (within ax1.n (max2 (t1.m.length:Int) 1)) fun r2 =>
 ob (within ax1.kind 16) fun r3 =>
 cond (cond (r3 == 0) (r3 == 0) (cond (r3 == 1) (r3 == 1) (r3 == 2)))
 (ob (tick (Node.sel (decide (r0=0)) t1.n.a0 (Node.mk (cond (decide (r0=1)) t1.n.a1.id_ t1.n.a2.id_) (cond (decide (r0=1)) t1.n.a1.term_ t1.n.a2.term_) (cond (decide (r0=1)) t1.n.a1.vote t1.n.a2.vote) (cond (decide (r0=1)) t1.n.a1.base t1.n.a2.base) (cond (decide (r0=1)) t1.n.a1.baseTerm t1.n.a2.baseTerm) (cond (decide (r0=1)) t1.n.a1.snap t1.n.a2.snap) (cond (decide (r0=1)) t1.n.a1.log t1.n.a2.log) (cond (decide (r0=1)) t1.n.a1.role t1.n.a2.role) (cond (decide (r0=1)) t1.n.a1.commit t1.n.a2.commit) (cond (decide (r0=1)) t1.n.a1.wait t1.n.a2.wait) (A3Bool.mk (cond (decide (r0=1)) t1.n.a1.votes.a0 t1.n.a2.votes.a0) (cond (decide (r0=1)) t1.n.a1.votes.a1 t1.n.a2.votes.a1) (cond (decide (r0=1)) t1.n.a1.votes.a2 t1.n.a2.votes.a2)) (A3Int.mk (cond (decide (r0=1)) t1.n.a1.next.a0 t1.n.a2.next.a0) (cond (decide (r0=1)) t1.n.a1.next.a1 t1.n.a2.next.a1) (cond (decide (r0=1)) t1.n.a1.next.a2 t1.n.a2.next.a2)) (A3Int.mk (cond (decide (r0=1)) t1.n.a1.match_.a0 t1.n.a2.match_.a0) (cond (decide (r0=1)) t1.n.a1.match_.a1 t1.n.a2.match_.a1) (cond (decide (r0=1)) t1.n.a1.match_.a2 t1.n.a2.match_.a2))))) fun r4 =>
 ob (l15_toRef (Node.sel (decide (r0=0)) t1.n.a0 (Node.mk (cond (decide (r0=1)) t1.n.a1.id_ t1.n.a2.id_) (cond (decide (r0=1)) t1.n.a1.term_ t1.n.a2.term_) (cond (decide (r0=1)) t1.n.a1.vote t1.n.a2.vote) (cond (decide (r0=1)) t1.n.a1.base t1.n.a2.base) (cond (decide (r0=1)) t1.n.a1.baseTerm t1.n.a2.baseTerm) (cond (decide (r0=1)) t1.n.a1.snap t1.n.a2.snap) (cond (decide (r0=1)) t1.n.a1.log t1.n.a2.log) (cond (decide (r0=1)) t1.n.a1.role t1.n.a2.role) (cond (decide (r0=1)) t1.n.a1.commit t1.n.a2.commit) (cond (decide (r0=1)) t1.n.a1.wait t1.n.a2.wait) (A3Bool.mk (cond (decide (r0=1)) t1.n.a1.votes.a0 t1.n.a2.votes.a0) (cond (decide (r0=1)) t1.n.a1.votes.a1 t1.n.a2.votes.a1) (cond (decide (r0=1)) t1.n.a1.votes.a2 t1.n.a2.votes.a2)) (A3Int.mk (cond (decide (r0=1)) t1.n.a1.next.a0 t1.n.a2.next.a0) (cond (decide (r0=1)) t1.n.a1.next.a1 t1.n.a2.next.a1) (cond (decide (r0=1)) t1.n.a1.next.a2 t1.n.a2.next.a2)) (A3Int.mk (cond (decide (r0=1)) t1.n.a1.match_.a0 t1.n.a2.match_.a0) (cond (decide (r0=1)) t1.n.a1.match_.a1 t1.n.a2.match_.a1) (cond (decide (r0=1)) t1.n.a1.match_.a2 t1.n.a2.match_.a2))))) fun r5 =>
 ob (ref15Tick r5) fun r6 =>
 ob (l15_toRef r4.1) fun r25 =>
 ob (ref15Same r25 r6.1) fun r26 =>
 cond (!r26)
 (some (false,t1))
 (ob (l15_sameMsgs r4.2 r6.2) fun r27 =>
 cond (!r27)
 (some (false,t1))
 (cond (decide (0≤r0) && decide (r0 < 3))
 (ob (same r4.1 (Node.sel (decide (r0=0)) t1.n.a0 (Node.mk (cond (decide (r0=1)) t1.n.a1.id_ t1.n.a2.id_) (cond (decide (r0=1)) t1.n.a1.term_ t1.n.a2.term_) (cond (decide (r0=1)) t1.n.a1.vote t1.n.a2.vote) (cond (decide (r0=1)) t1.n.a1.base t1.n.a2.base) (cond (decide (r0=1)) t1.n.a1.baseTerm t1.n.a2.baseTerm) (cond (decide (r0=1)) t1.n.a1.snap t1.n.a2.snap) (cond (decide (r0=1)) t1.n.a1.log t1.n.a2.log) (cond (decide (r0=1)) t1.n.a1.role t1.n.a2.role) (cond (decide (r0=1)) t1.n.a1.commit t1.n.a2.commit) (cond (decide (r0=1)) t1.n.a1.wait t1.n.a2.wait) (A3Bool.mk (cond (decide (r0=1)) t1.n.a1.votes.a0 t1.n.a2.votes.a0) (cond (decide (r0=1)) t1.n.a1.votes.a1 t1.n.a2.votes.a1) (cond (decide (r0=1)) t1.n.a1.votes.a2 t1.n.a2.votes.a2)) (A3Int.mk (cond (decide (r0=1)) t1.n.a1.next.a0 t1.n.a2.next.a0) (cond (decide (r0=1)) t1.n.a1.next.a1 t1.n.a2.next.a1) (cond (decide (r0=1)) t1.n.a1.next.a2 t1.n.a2.next.a2)) (A3Int.mk (cond (decide (r0=1)) t1.n.a1.match_.a0 t1.n.a2.match_.a0) (cond (decide (r0=1)) t1.n.a1.match_.a1 t1.n.a2.match_.a1) (cond (decide (r0=1)) t1.n.a1.match_.a2 t1.n.a2.match_.a2))))) fun r28 =>
 cond (decide (0≤r0) && decide (r0 < 3))
 (ob (l15_toRef (Node.sel (decide (r0=0)) t1.n.a0 (Node.mk (cond (decide (r0=1)) t1.n.a1.id_ t1.n.a2.id_) (cond (decide (r0=1)) t1.n.a1.term_ t1.n.a2.term_) (cond (decide (r0=1)) t1.n.a1.vote t1.n.a2.vote) (cond (decide (r0=1)) t1.n.a1.base t1.n.a2.base) (cond (decide (r0=1)) t1.n.a1.baseTerm t1.n.a2.baseTerm) (cond (decide (r0=1)) t1.n.a1.snap t1.n.a2.snap) (cond (decide (r0=1)) t1.n.a1.log t1.n.a2.log) (cond (decide (r0=1)) t1.n.a1.role t1.n.a2.role) (cond (decide (r0=1)) t1.n.a1.commit t1.n.a2.commit) (cond (decide (r0=1)) t1.n.a1.wait t1.n.a2.wait) (A3Bool.mk (cond (decide (r0=1)) t1.n.a1.votes.a0 t1.n.a2.votes.a0) (cond (decide (r0=1)) t1.n.a1.votes.a1 t1.n.a2.votes.a1) (cond (decide (r0=1)) t1.n.a1.votes.a2 t1.n.a2.votes.a2)) (A3Int.mk (cond (decide (r0=1)) t1.n.a1.next.a0 t1.n.a2.next.a0) (cond (decide (r0=1)) t1.n.a1.next.a1 t1.n.a2.next.a1) (cond (decide (r0=1)) t1.n.a1.next.a2 t1.n.a2.next.a2)) (A3Int.mk (cond (decide (r0=1)) t1.n.a1.match_.a0 t1.n.a2.match_.a0) (cond (decide (r0=1)) t1.n.a1.match_.a1 t1.n.a2.match_.a1) (cond (decide (r0=1)) t1.n.a1.match_.a2 t1.n.a2.match_.a2))))) fun r29 =>
 ob (ref15Same r6.1 r29) fun r30 =>
 cond (!(r28 == r30))
 (some (false,t1))
 (cond (decide (0≤r0) && decide (r0 < 3))
 (cond (fits ((t1.m++r4.2).length))
 (cond (decide (((t1.m++r4.2).length:Int) > 60))
 (cond (decide (0≤(w64 (((t1.m++r4.2).length:Int) - 60))))
 (cond (decide ((w64 (((t1.m++r4.2).length:Int) - 60))≤((t1.m++r4.2).length:Int)))
 (cond (decide (((t1.m++r4.2).length:Int)≤((t1.m++r4.2).length:Int)))
 (some (true,(Three.mk (A3Node.mk (Node.sel (decide (r0=0)) r4.1 t1.n.a0) (Node.sel (decide (r0=1)) r4.1 t1.n.a1) (Node.sel (decide (r0=2)) r4.1 t1.n.a2)) (((t1.m++r4.2).take ((((t1.m++r4.2).length:Int)).toNat)).drop (((w64 (((t1.m++r4.2).length:Int) - 60))).toNat)))))
 none)
 none)
 none)
 (some (true,(Three.mk (A3Node.mk (Node.sel (decide (r0=0)) r4.1 t1.n.a0) (Node.sel (decide (r0=1)) r4.1 t1.n.a1) (Node.sel (decide (r0=2)) r4.1 t1.n.a2)) (t1.m++r4.2)))))
 none)
 none))
 none)
 none)))
 (cond (cond (r3 == 3) (r3 == 3) (cond (r3 == 4) (r3 == 4) (cond (r3 == 5) (r3 == 5) (cond (r3 == 6) (r3 == 6) (cond (r3 == 7) (r3 == 7) (cond (r3 == 8) (r3 == 8) (r3 == 9)))))))
 (cond ((t1.m.length:Int) == 0)
 (some (true,t1))
 (cond (decide (0≤r2))
 (cond (decide (r2 < (t1.m.length:Int)))
 (ob (t1.m[r2.toNat]?) fun e7 =>
 cond (decide (0≤r2))
 (cond (decide (r2≤(t1.m.length:Int)))
 (cond (fits (([]++(t1.m.take r2.toNat)).length))
 (cond (decide (0≤(w64 (r2+1))))
 (cond (decide ((w64 (r2+1))≤(t1.m.length:Int)))
 (cond (decide ((t1.m.length:Int)≤(t1.m.length:Int)))
 (cond (fits ((([]++(t1.m.take r2.toNat))++((t1.m.take (((t1.m.length:Int)).toNat)).drop (((w64 (r2+1))).toNat))).length))
 (cond (decide (0≤e7.to_) && decide (e7.to_ < 3))
 (ob (take (Node.sel (decide (e7.to_=0)) t1.n.a0 (Node.mk (cond (decide (e7.to_=1)) t1.n.a1.id_ t1.n.a2.id_) (cond (decide (e7.to_=1)) t1.n.a1.term_ t1.n.a2.term_) (cond (decide (e7.to_=1)) t1.n.a1.vote t1.n.a2.vote) (cond (decide (e7.to_=1)) t1.n.a1.base t1.n.a2.base) (cond (decide (e7.to_=1)) t1.n.a1.baseTerm t1.n.a2.baseTerm) (cond (decide (e7.to_=1)) t1.n.a1.snap t1.n.a2.snap) (cond (decide (e7.to_=1)) t1.n.a1.log t1.n.a2.log) (cond (decide (e7.to_=1)) t1.n.a1.role t1.n.a2.role) (cond (decide (e7.to_=1)) t1.n.a1.commit t1.n.a2.commit) (cond (decide (e7.to_=1)) t1.n.a1.wait t1.n.a2.wait) (A3Bool.mk (cond (decide (e7.to_=1)) t1.n.a1.votes.a0 t1.n.a2.votes.a0) (cond (decide (e7.to_=1)) t1.n.a1.votes.a1 t1.n.a2.votes.a1) (cond (decide (e7.to_=1)) t1.n.a1.votes.a2 t1.n.a2.votes.a2)) (A3Int.mk (cond (decide (e7.to_=1)) t1.n.a1.next.a0 t1.n.a2.next.a0) (cond (decide (e7.to_=1)) t1.n.a1.next.a1 t1.n.a2.next.a1) (cond (decide (e7.to_=1)) t1.n.a1.next.a2 t1.n.a2.next.a2)) (A3Int.mk (cond (decide (e7.to_=1)) t1.n.a1.match_.a0 t1.n.a2.match_.a0) (cond (decide (e7.to_=1)) t1.n.a1.match_.a1 t1.n.a2.match_.a1) (cond (decide (e7.to_=1)) t1.n.a1.match_.a2 t1.n.a2.match_.a2)))) e7) fun r8 =>
 cond (decide (0≤e7.to_) && decide (e7.to_ < 3))
 (ob (l15_toRef (Node.sel (decide (e7.to_=0)) t1.n.a0 (Node.mk (cond (decide (e7.to_=1)) t1.n.a1.id_ t1.n.a2.id_) (cond (decide (e7.to_=1)) t1.n.a1.term_ t1.n.a2.term_) (cond (decide (e7.to_=1)) t1.n.a1.vote t1.n.a2.vote) (cond (decide (e7.to_=1)) t1.n.a1.base t1.n.a2.base) (cond (decide (e7.to_=1)) t1.n.a1.baseTerm t1.n.a2.baseTerm) (cond (decide (e7.to_=1)) t1.n.a1.snap t1.n.a2.snap) (cond (decide (e7.to_=1)) t1.n.a1.log t1.n.a2.log) (cond (decide (e7.to_=1)) t1.n.a1.role t1.n.a2.role) (cond (decide (e7.to_=1)) t1.n.a1.commit t1.n.a2.commit) (cond (decide (e7.to_=1)) t1.n.a1.wait t1.n.a2.wait) (A3Bool.mk (cond (decide (e7.to_=1)) t1.n.a1.votes.a0 t1.n.a2.votes.a0) (cond (decide (e7.to_=1)) t1.n.a1.votes.a1 t1.n.a2.votes.a1) (cond (decide (e7.to_=1)) t1.n.a1.votes.a2 t1.n.a2.votes.a2)) (A3Int.mk (cond (decide (e7.to_=1)) t1.n.a1.next.a0 t1.n.a2.next.a0) (cond (decide (e7.to_=1)) t1.n.a1.next.a1 t1.n.a2.next.a1) (cond (decide (e7.to_=1)) t1.n.a1.next.a2 t1.n.a2.next.a2)) (A3Int.mk (cond (decide (e7.to_=1)) t1.n.a1.match_.a0 t1.n.a2.match_.a0) (cond (decide (e7.to_=1)) t1.n.a1.match_.a1 t1.n.a2.match_.a1) (cond (decide (e7.to_=1)) t1.n.a1.match_.a2 t1.n.a2.match_.a2))))) fun r9 =>
 ob (l15_toRefMsg e7) fun r10 =>
 ob (ref15Take r9 r10) fun r11 =>
 ob (l15_toRef r8.1) fun r31 =>
 ob (ref15Same r31 r11.1) fun r32 =>
 cond (!r32)
 (some (false,(Three.mk t1.n (([]++(t1.m.take r2.toNat))++((t1.m.take (((t1.m.length:Int)).toNat)).drop (((w64 (r2+1))).toNat))))))
 (ob (l15_sameMsgs r8.2 r11.2) fun r33 =>
 cond (!r33)
 (some (false,(Three.mk t1.n (([]++(t1.m.take r2.toNat))++((t1.m.take (((t1.m.length:Int)).toNat)).drop (((w64 (r2+1))).toNat))))))
 (cond (decide (0≤e7.to_) && decide (e7.to_ < 3))
 (ob (same r8.1 (Node.sel (decide (e7.to_=0)) t1.n.a0 (Node.mk (cond (decide (e7.to_=1)) t1.n.a1.id_ t1.n.a2.id_) (cond (decide (e7.to_=1)) t1.n.a1.term_ t1.n.a2.term_) (cond (decide (e7.to_=1)) t1.n.a1.vote t1.n.a2.vote) (cond (decide (e7.to_=1)) t1.n.a1.base t1.n.a2.base) (cond (decide (e7.to_=1)) t1.n.a1.baseTerm t1.n.a2.baseTerm) (cond (decide (e7.to_=1)) t1.n.a1.snap t1.n.a2.snap) (cond (decide (e7.to_=1)) t1.n.a1.log t1.n.a2.log) (cond (decide (e7.to_=1)) t1.n.a1.role t1.n.a2.role) (cond (decide (e7.to_=1)) t1.n.a1.commit t1.n.a2.commit) (cond (decide (e7.to_=1)) t1.n.a1.wait t1.n.a2.wait) (A3Bool.mk (cond (decide (e7.to_=1)) t1.n.a1.votes.a0 t1.n.a2.votes.a0) (cond (decide (e7.to_=1)) t1.n.a1.votes.a1 t1.n.a2.votes.a1) (cond (decide (e7.to_=1)) t1.n.a1.votes.a2 t1.n.a2.votes.a2)) (A3Int.mk (cond (decide (e7.to_=1)) t1.n.a1.next.a0 t1.n.a2.next.a0) (cond (decide (e7.to_=1)) t1.n.a1.next.a1 t1.n.a2.next.a1) (cond (decide (e7.to_=1)) t1.n.a1.next.a2 t1.n.a2.next.a2)) (A3Int.mk (cond (decide (e7.to_=1)) t1.n.a1.match_.a0 t1.n.a2.match_.a0) (cond (decide (e7.to_=1)) t1.n.a1.match_.a1 t1.n.a2.match_.a1) (cond (decide (e7.to_=1)) t1.n.a1.match_.a2 t1.n.a2.match_.a2))))) fun r34 =>
 cond (decide (0≤e7.to_) && decide (e7.to_ < 3))
 (ob (l15_toRef (Node.sel (decide (e7.to_=0)) t1.n.a0 (Node.mk (cond (decide (e7.to_=1)) t1.n.a1.id_ t1.n.a2.id_) (cond (decide (e7.to_=1)) t1.n.a1.term_ t1.n.a2.term_) (cond (decide (e7.to_=1)) t1.n.a1.vote t1.n.a2.vote) (cond (decide (e7.to_=1)) t1.n.a1.base t1.n.a2.base) (cond (decide (e7.to_=1)) t1.n.a1.baseTerm t1.n.a2.baseTerm) (cond (decide (e7.to_=1)) t1.n.a1.snap t1.n.a2.snap) (cond (decide (e7.to_=1)) t1.n.a1.log t1.n.a2.log) (cond (decide (e7.to_=1)) t1.n.a1.role t1.n.a2.role) (cond (decide (e7.to_=1)) t1.n.a1.commit t1.n.a2.commit) (cond (decide (e7.to_=1)) t1.n.a1.wait t1.n.a2.wait) (A3Bool.mk (cond (decide (e7.to_=1)) t1.n.a1.votes.a0 t1.n.a2.votes.a0) (cond (decide (e7.to_=1)) t1.n.a1.votes.a1 t1.n.a2.votes.a1) (cond (decide (e7.to_=1)) t1.n.a1.votes.a2 t1.n.a2.votes.a2)) (A3Int.mk (cond (decide (e7.to_=1)) t1.n.a1.next.a0 t1.n.a2.next.a0) (cond (decide (e7.to_=1)) t1.n.a1.next.a1 t1.n.a2.next.a1) (cond (decide (e7.to_=1)) t1.n.a1.next.a2 t1.n.a2.next.a2)) (A3Int.mk (cond (decide (e7.to_=1)) t1.n.a1.match_.a0 t1.n.a2.match_.a0) (cond (decide (e7.to_=1)) t1.n.a1.match_.a1 t1.n.a2.match_.a1) (cond (decide (e7.to_=1)) t1.n.a1.match_.a2 t1.n.a2.match_.a2))))) fun r35 =>
 ob (ref15Same r11.1 r35) fun r36 =>
 cond (!(r34 == r36))
 (some (false,(Three.mk t1.n (([]++(t1.m.take r2.toNat))++((t1.m.take (((t1.m.length:Int)).toNat)).drop (((w64 (r2+1))).toNat))))))
 (cond (decide (0≤e7.to_) && decide (e7.to_ < 3))
 (cond (fits (((([]++(t1.m.take r2.toNat))++((t1.m.take (((t1.m.length:Int)).toNat)).drop (((w64 (r2+1))).toNat)))++r8.2).length))
 (cond (decide ((((([]++(t1.m.take r2.toNat))++((t1.m.take (((t1.m.length:Int)).toNat)).drop (((w64 (r2+1))).toNat)))++r8.2).length:Int) > 60))
 (cond (decide (0≤(w64 ((((([]++(t1.m.take r2.toNat))++((t1.m.take (((t1.m.length:Int)).toNat)).drop (((w64 (r2+1))).toNat)))++r8.2).length:Int) - 60))))
 (cond (decide ((w64 ((((([]++(t1.m.take r2.toNat))++((t1.m.take (((t1.m.length:Int)).toNat)).drop (((w64 (r2+1))).toNat)))++r8.2).length:Int) - 60))≤(((([]++(t1.m.take r2.toNat))++((t1.m.take (((t1.m.length:Int)).toNat)).drop (((w64 (r2+1))).toNat)))++r8.2).length:Int)))
 (cond (decide ((((([]++(t1.m.take r2.toNat))++((t1.m.take (((t1.m.length:Int)).toNat)).drop (((w64 (r2+1))).toNat)))++r8.2).length:Int)≤(((([]++(t1.m.take r2.toNat))++((t1.m.take (((t1.m.length:Int)).toNat)).drop (((w64 (r2+1))).toNat)))++r8.2).length:Int)))
 (some (true,(Three.mk (A3Node.mk (Node.sel (decide (e7.to_=0)) r8.1 t1.n.a0) (Node.sel (decide (e7.to_=1)) r8.1 t1.n.a1) (Node.sel (decide (e7.to_=2)) r8.1 t1.n.a2)) ((((([]++(t1.m.take r2.toNat))++((t1.m.take (((t1.m.length:Int)).toNat)).drop (((w64 (r2+1))).toNat)))++r8.2).take (((((([]++(t1.m.take r2.toNat))++((t1.m.take (((t1.m.length:Int)).toNat)).drop (((w64 (r2+1))).toNat)))++r8.2).length:Int)).toNat)).drop (((w64 ((((([]++(t1.m.take r2.toNat))++((t1.m.take (((t1.m.length:Int)).toNat)).drop (((w64 (r2+1))).toNat)))++r8.2).length:Int) - 60))).toNat)))))
 none)
 none)
 none)
 (some (true,(Three.mk (A3Node.mk (Node.sel (decide (e7.to_=0)) r8.1 t1.n.a0) (Node.sel (decide (e7.to_=1)) r8.1 t1.n.a1) (Node.sel (decide (e7.to_=2)) r8.1 t1.n.a2)) ((([]++(t1.m.take r2.toNat))++((t1.m.take (((t1.m.length:Int)).toNat)).drop (((w64 (r2+1))).toNat)))++r8.2)))))
 none)
 none))
 none)
 none)))
 none)
 none)
 none)
 none)
 none)
 none)
 none)
 none)
 none)
 none)
 none))
 (cond (r3 == 10)
 (cond (decide ((t1.m.length:Int) > 0))
 (cond (decide (0≤r2))
 (cond (decide (r2 < (t1.m.length:Int)))
 (ob (t1.m[r2.toNat]?) fun _ =>
 cond (decide (0≤r2))
 (cond (decide (r2≤(t1.m.length:Int)))
 (cond (fits (([]++(t1.m.take r2.toNat)).length))
 (cond (decide (0≤(w64 (r2+1))))
 (cond (decide ((w64 (r2+1))≤(t1.m.length:Int)))
 (cond (decide ((t1.m.length:Int)≤(t1.m.length:Int)))
 (cond (fits ((([]++(t1.m.take r2.toNat))++((t1.m.take (((t1.m.length:Int)).toNat)).drop (((w64 (r2+1))).toNat))).length))
 (some (true,(Three.mk t1.n (([]++(t1.m.take r2.toNat))++((t1.m.take (((t1.m.length:Int)).toNat)).drop (((w64 (r2+1))).toNat))))))
 none)
 none)
 none)
 none)
 none)
 none)
 none)
 none)
 none)
 (some (true,t1)))
 (cond (r3 == 11)
 (cond (cond (decide ((t1.m.length:Int) > 0)) (decide ((t1.m.length:Int) < 60)) false)
 (cond (decide (0≤r2))
 (cond (decide (r2 < (t1.m.length:Int)))
 (ob (t1.m[r2.toNat]?) fun e13 =>
 cond (fits ((t1.m++[e13]).length))
 (some (true,(Three.mk t1.n (t1.m++[e13]))))
 none)
 none)
 none)
 (some (true,t1)))
 (cond (cond (r3 == 12) (r3 == 12) (r3 == 13))
 (ob (propose (Node.sel (decide (r0=0)) t1.n.a0 (Node.mk (cond (decide (r0=1)) t1.n.a1.id_ t1.n.a2.id_) (cond (decide (r0=1)) t1.n.a1.term_ t1.n.a2.term_) (cond (decide (r0=1)) t1.n.a1.vote t1.n.a2.vote) (cond (decide (r0=1)) t1.n.a1.base t1.n.a2.base) (cond (decide (r0=1)) t1.n.a1.baseTerm t1.n.a2.baseTerm) (cond (decide (r0=1)) t1.n.a1.snap t1.n.a2.snap) (cond (decide (r0=1)) t1.n.a1.log t1.n.a2.log) (cond (decide (r0=1)) t1.n.a1.role t1.n.a2.role) (cond (decide (r0=1)) t1.n.a1.commit t1.n.a2.commit) (cond (decide (r0=1)) t1.n.a1.wait t1.n.a2.wait) (A3Bool.mk (cond (decide (r0=1)) t1.n.a1.votes.a0 t1.n.a2.votes.a0) (cond (decide (r0=1)) t1.n.a1.votes.a1 t1.n.a2.votes.a1) (cond (decide (r0=1)) t1.n.a1.votes.a2 t1.n.a2.votes.a2)) (A3Int.mk (cond (decide (r0=1)) t1.n.a1.next.a0 t1.n.a2.next.a0) (cond (decide (r0=1)) t1.n.a1.next.a1 t1.n.a2.next.a1) (cond (decide (r0=1)) t1.n.a1.next.a2 t1.n.a2.next.a2)) (A3Int.mk (cond (decide (r0=1)) t1.n.a1.match_.a0 t1.n.a2.match_.a0) (cond (decide (r0=1)) t1.n.a1.match_.a1 t1.n.a2.match_.a1) (cond (decide (r0=1)) t1.n.a1.match_.a2 t1.n.a2.match_.a2)))) ax1.cmd) fun r14 =>
 ob (l15_toRef (Node.sel (decide (r0=0)) t1.n.a0 (Node.mk (cond (decide (r0=1)) t1.n.a1.id_ t1.n.a2.id_) (cond (decide (r0=1)) t1.n.a1.term_ t1.n.a2.term_) (cond (decide (r0=1)) t1.n.a1.vote t1.n.a2.vote) (cond (decide (r0=1)) t1.n.a1.base t1.n.a2.base) (cond (decide (r0=1)) t1.n.a1.baseTerm t1.n.a2.baseTerm) (cond (decide (r0=1)) t1.n.a1.snap t1.n.a2.snap) (cond (decide (r0=1)) t1.n.a1.log t1.n.a2.log) (cond (decide (r0=1)) t1.n.a1.role t1.n.a2.role) (cond (decide (r0=1)) t1.n.a1.commit t1.n.a2.commit) (cond (decide (r0=1)) t1.n.a1.wait t1.n.a2.wait) (A3Bool.mk (cond (decide (r0=1)) t1.n.a1.votes.a0 t1.n.a2.votes.a0) (cond (decide (r0=1)) t1.n.a1.votes.a1 t1.n.a2.votes.a1) (cond (decide (r0=1)) t1.n.a1.votes.a2 t1.n.a2.votes.a2)) (A3Int.mk (cond (decide (r0=1)) t1.n.a1.next.a0 t1.n.a2.next.a0) (cond (decide (r0=1)) t1.n.a1.next.a1 t1.n.a2.next.a1) (cond (decide (r0=1)) t1.n.a1.next.a2 t1.n.a2.next.a2)) (A3Int.mk (cond (decide (r0=1)) t1.n.a1.match_.a0 t1.n.a2.match_.a0) (cond (decide (r0=1)) t1.n.a1.match_.a1 t1.n.a2.match_.a1) (cond (decide (r0=1)) t1.n.a1.match_.a2 t1.n.a2.match_.a2))))) fun r15 =>
 ob (ref15Propose r15 ax1.cmd) fun r16 =>
 cond (cond (r14.2.1 != r16.2.1) true (r14.2.2 != r16.2.2))
 (some (false,t1))
 (ob (l15_toRef r14.1) fun r37 =>
 ob (ref15Same r37 r16.1) fun r38 =>
 cond (!r38)
 (some (false,t1))
 (ob (l15_sameMsgs [] []) fun r39 =>
 cond (!r39)
 (some (false,t1))
 (cond (decide (0≤r0) && decide (r0 < 3))
 (ob (same r14.1 (Node.sel (decide (r0=0)) t1.n.a0 (Node.mk (cond (decide (r0=1)) t1.n.a1.id_ t1.n.a2.id_) (cond (decide (r0=1)) t1.n.a1.term_ t1.n.a2.term_) (cond (decide (r0=1)) t1.n.a1.vote t1.n.a2.vote) (cond (decide (r0=1)) t1.n.a1.base t1.n.a2.base) (cond (decide (r0=1)) t1.n.a1.baseTerm t1.n.a2.baseTerm) (cond (decide (r0=1)) t1.n.a1.snap t1.n.a2.snap) (cond (decide (r0=1)) t1.n.a1.log t1.n.a2.log) (cond (decide (r0=1)) t1.n.a1.role t1.n.a2.role) (cond (decide (r0=1)) t1.n.a1.commit t1.n.a2.commit) (cond (decide (r0=1)) t1.n.a1.wait t1.n.a2.wait) (A3Bool.mk (cond (decide (r0=1)) t1.n.a1.votes.a0 t1.n.a2.votes.a0) (cond (decide (r0=1)) t1.n.a1.votes.a1 t1.n.a2.votes.a1) (cond (decide (r0=1)) t1.n.a1.votes.a2 t1.n.a2.votes.a2)) (A3Int.mk (cond (decide (r0=1)) t1.n.a1.next.a0 t1.n.a2.next.a0) (cond (decide (r0=1)) t1.n.a1.next.a1 t1.n.a2.next.a1) (cond (decide (r0=1)) t1.n.a1.next.a2 t1.n.a2.next.a2)) (A3Int.mk (cond (decide (r0=1)) t1.n.a1.match_.a0 t1.n.a2.match_.a0) (cond (decide (r0=1)) t1.n.a1.match_.a1 t1.n.a2.match_.a1) (cond (decide (r0=1)) t1.n.a1.match_.a2 t1.n.a2.match_.a2))))) fun r40 =>
 cond (decide (0≤r0) && decide (r0 < 3))
 (ob (l15_toRef (Node.sel (decide (r0=0)) t1.n.a0 (Node.mk (cond (decide (r0=1)) t1.n.a1.id_ t1.n.a2.id_) (cond (decide (r0=1)) t1.n.a1.term_ t1.n.a2.term_) (cond (decide (r0=1)) t1.n.a1.vote t1.n.a2.vote) (cond (decide (r0=1)) t1.n.a1.base t1.n.a2.base) (cond (decide (r0=1)) t1.n.a1.baseTerm t1.n.a2.baseTerm) (cond (decide (r0=1)) t1.n.a1.snap t1.n.a2.snap) (cond (decide (r0=1)) t1.n.a1.log t1.n.a2.log) (cond (decide (r0=1)) t1.n.a1.role t1.n.a2.role) (cond (decide (r0=1)) t1.n.a1.commit t1.n.a2.commit) (cond (decide (r0=1)) t1.n.a1.wait t1.n.a2.wait) (A3Bool.mk (cond (decide (r0=1)) t1.n.a1.votes.a0 t1.n.a2.votes.a0) (cond (decide (r0=1)) t1.n.a1.votes.a1 t1.n.a2.votes.a1) (cond (decide (r0=1)) t1.n.a1.votes.a2 t1.n.a2.votes.a2)) (A3Int.mk (cond (decide (r0=1)) t1.n.a1.next.a0 t1.n.a2.next.a0) (cond (decide (r0=1)) t1.n.a1.next.a1 t1.n.a2.next.a1) (cond (decide (r0=1)) t1.n.a1.next.a2 t1.n.a2.next.a2)) (A3Int.mk (cond (decide (r0=1)) t1.n.a1.match_.a0 t1.n.a2.match_.a0) (cond (decide (r0=1)) t1.n.a1.match_.a1 t1.n.a2.match_.a1) (cond (decide (r0=1)) t1.n.a1.match_.a2 t1.n.a2.match_.a2))))) fun r41 =>
 ob (ref15Same r16.1 r41) fun r42 =>
 cond (!(r40 == r42))
 (some (false,t1))
 (cond (decide (0≤r0) && decide (r0 < 3))
 (cond (fits ((t1.m++[]).length))
 (cond (decide (((t1.m++[]).length:Int) > 60))
 (cond (decide (0≤(w64 (((t1.m++[]).length:Int) - 60))))
 (cond (decide ((w64 (((t1.m++[]).length:Int) - 60))≤((t1.m++[]).length:Int)))
 (cond (decide (((t1.m++[]).length:Int)≤((t1.m++[]).length:Int)))
 (some (true,(Three.mk (A3Node.mk (Node.sel (decide (r0=0)) r14.1 t1.n.a0) (Node.sel (decide (r0=1)) r14.1 t1.n.a1) (Node.sel (decide (r0=2)) r14.1 t1.n.a2)) (((t1.m++[]).take ((((t1.m++[]).length:Int)).toNat)).drop (((w64 (((t1.m++[]).length:Int) - 60))).toNat)))))
 none)
 none)
 none)
 (some (true,(Three.mk (A3Node.mk (Node.sel (decide (r0=0)) r14.1 t1.n.a0) (Node.sel (decide (r0=1)) r14.1 t1.n.a1) (Node.sel (decide (r0=2)) r14.1 t1.n.a2)) (t1.m++[])))))
 none)
 none))
 none)
 none))))
 (cond (r3 == 14)
 (ob (wake (Node.sel (decide (r0=0)) t1.n.a0 (Node.mk (cond (decide (r0=1)) t1.n.a1.id_ t1.n.a2.id_) (cond (decide (r0=1)) t1.n.a1.term_ t1.n.a2.term_) (cond (decide (r0=1)) t1.n.a1.vote t1.n.a2.vote) (cond (decide (r0=1)) t1.n.a1.base t1.n.a2.base) (cond (decide (r0=1)) t1.n.a1.baseTerm t1.n.a2.baseTerm) (cond (decide (r0=1)) t1.n.a1.snap t1.n.a2.snap) (cond (decide (r0=1)) t1.n.a1.log t1.n.a2.log) (cond (decide (r0=1)) t1.n.a1.role t1.n.a2.role) (cond (decide (r0=1)) t1.n.a1.commit t1.n.a2.commit) (cond (decide (r0=1)) t1.n.a1.wait t1.n.a2.wait) (A3Bool.mk (cond (decide (r0=1)) t1.n.a1.votes.a0 t1.n.a2.votes.a0) (cond (decide (r0=1)) t1.n.a1.votes.a1 t1.n.a2.votes.a1) (cond (decide (r0=1)) t1.n.a1.votes.a2 t1.n.a2.votes.a2)) (A3Int.mk (cond (decide (r0=1)) t1.n.a1.next.a0 t1.n.a2.next.a0) (cond (decide (r0=1)) t1.n.a1.next.a1 t1.n.a2.next.a1) (cond (decide (r0=1)) t1.n.a1.next.a2 t1.n.a2.next.a2)) (A3Int.mk (cond (decide (r0=1)) t1.n.a1.match_.a0 t1.n.a2.match_.a0) (cond (decide (r0=1)) t1.n.a1.match_.a1 t1.n.a2.match_.a1) (cond (decide (r0=1)) t1.n.a1.match_.a2 t1.n.a2.match_.a2))))) fun r17 =>
 ob (l15_toRef (Node.sel (decide (r0=0)) t1.n.a0 (Node.mk (cond (decide (r0=1)) t1.n.a1.id_ t1.n.a2.id_) (cond (decide (r0=1)) t1.n.a1.term_ t1.n.a2.term_) (cond (decide (r0=1)) t1.n.a1.vote t1.n.a2.vote) (cond (decide (r0=1)) t1.n.a1.base t1.n.a2.base) (cond (decide (r0=1)) t1.n.a1.baseTerm t1.n.a2.baseTerm) (cond (decide (r0=1)) t1.n.a1.snap t1.n.a2.snap) (cond (decide (r0=1)) t1.n.a1.log t1.n.a2.log) (cond (decide (r0=1)) t1.n.a1.role t1.n.a2.role) (cond (decide (r0=1)) t1.n.a1.commit t1.n.a2.commit) (cond (decide (r0=1)) t1.n.a1.wait t1.n.a2.wait) (A3Bool.mk (cond (decide (r0=1)) t1.n.a1.votes.a0 t1.n.a2.votes.a0) (cond (decide (r0=1)) t1.n.a1.votes.a1 t1.n.a2.votes.a1) (cond (decide (r0=1)) t1.n.a1.votes.a2 t1.n.a2.votes.a2)) (A3Int.mk (cond (decide (r0=1)) t1.n.a1.next.a0 t1.n.a2.next.a0) (cond (decide (r0=1)) t1.n.a1.next.a1 t1.n.a2.next.a1) (cond (decide (r0=1)) t1.n.a1.next.a2 t1.n.a2.next.a2)) (A3Int.mk (cond (decide (r0=1)) t1.n.a1.match_.a0 t1.n.a2.match_.a0) (cond (decide (r0=1)) t1.n.a1.match_.a1 t1.n.a2.match_.a1) (cond (decide (r0=1)) t1.n.a1.match_.a2 t1.n.a2.match_.a2))))) fun r18 =>
 ob (ref15Wake r18) fun r19 =>
 ob (l15_toRef r17) fun r43 =>
 ob (ref15Same r43 r19) fun r44 =>
 cond (!r44)
 (some (false,t1))
 (ob (l15_sameMsgs [] []) fun r45 =>
 cond (!r45)
 (some (false,t1))
 (cond (decide (0≤r0) && decide (r0 < 3))
 (ob (same r17 (Node.sel (decide (r0=0)) t1.n.a0 (Node.mk (cond (decide (r0=1)) t1.n.a1.id_ t1.n.a2.id_) (cond (decide (r0=1)) t1.n.a1.term_ t1.n.a2.term_) (cond (decide (r0=1)) t1.n.a1.vote t1.n.a2.vote) (cond (decide (r0=1)) t1.n.a1.base t1.n.a2.base) (cond (decide (r0=1)) t1.n.a1.baseTerm t1.n.a2.baseTerm) (cond (decide (r0=1)) t1.n.a1.snap t1.n.a2.snap) (cond (decide (r0=1)) t1.n.a1.log t1.n.a2.log) (cond (decide (r0=1)) t1.n.a1.role t1.n.a2.role) (cond (decide (r0=1)) t1.n.a1.commit t1.n.a2.commit) (cond (decide (r0=1)) t1.n.a1.wait t1.n.a2.wait) (A3Bool.mk (cond (decide (r0=1)) t1.n.a1.votes.a0 t1.n.a2.votes.a0) (cond (decide (r0=1)) t1.n.a1.votes.a1 t1.n.a2.votes.a1) (cond (decide (r0=1)) t1.n.a1.votes.a2 t1.n.a2.votes.a2)) (A3Int.mk (cond (decide (r0=1)) t1.n.a1.next.a0 t1.n.a2.next.a0) (cond (decide (r0=1)) t1.n.a1.next.a1 t1.n.a2.next.a1) (cond (decide (r0=1)) t1.n.a1.next.a2 t1.n.a2.next.a2)) (A3Int.mk (cond (decide (r0=1)) t1.n.a1.match_.a0 t1.n.a2.match_.a0) (cond (decide (r0=1)) t1.n.a1.match_.a1 t1.n.a2.match_.a1) (cond (decide (r0=1)) t1.n.a1.match_.a2 t1.n.a2.match_.a2))))) fun r46 =>
 cond (decide (0≤r0) && decide (r0 < 3))
 (ob (l15_toRef (Node.sel (decide (r0=0)) t1.n.a0 (Node.mk (cond (decide (r0=1)) t1.n.a1.id_ t1.n.a2.id_) (cond (decide (r0=1)) t1.n.a1.term_ t1.n.a2.term_) (cond (decide (r0=1)) t1.n.a1.vote t1.n.a2.vote) (cond (decide (r0=1)) t1.n.a1.base t1.n.a2.base) (cond (decide (r0=1)) t1.n.a1.baseTerm t1.n.a2.baseTerm) (cond (decide (r0=1)) t1.n.a1.snap t1.n.a2.snap) (cond (decide (r0=1)) t1.n.a1.log t1.n.a2.log) (cond (decide (r0=1)) t1.n.a1.role t1.n.a2.role) (cond (decide (r0=1)) t1.n.a1.commit t1.n.a2.commit) (cond (decide (r0=1)) t1.n.a1.wait t1.n.a2.wait) (A3Bool.mk (cond (decide (r0=1)) t1.n.a1.votes.a0 t1.n.a2.votes.a0) (cond (decide (r0=1)) t1.n.a1.votes.a1 t1.n.a2.votes.a1) (cond (decide (r0=1)) t1.n.a1.votes.a2 t1.n.a2.votes.a2)) (A3Int.mk (cond (decide (r0=1)) t1.n.a1.next.a0 t1.n.a2.next.a0) (cond (decide (r0=1)) t1.n.a1.next.a1 t1.n.a2.next.a1) (cond (decide (r0=1)) t1.n.a1.next.a2 t1.n.a2.next.a2)) (A3Int.mk (cond (decide (r0=1)) t1.n.a1.match_.a0 t1.n.a2.match_.a0) (cond (decide (r0=1)) t1.n.a1.match_.a1 t1.n.a2.match_.a1) (cond (decide (r0=1)) t1.n.a1.match_.a2 t1.n.a2.match_.a2))))) fun r47 =>
 ob (ref15Same r19 r47) fun r48 =>
 cond (!(r46 == r48))
 (some (false,t1))
 (cond (decide (0≤r0) && decide (r0 < 3))
 (cond (fits ((t1.m++[]).length))
 (cond (decide (((t1.m++[]).length:Int) > 60))
 (cond (decide (0≤(w64 (((t1.m++[]).length:Int) - 60))))
 (cond (decide ((w64 (((t1.m++[]).length:Int) - 60))≤((t1.m++[]).length:Int)))
 (cond (decide (((t1.m++[]).length:Int)≤((t1.m++[]).length:Int)))
 (some (true,(Three.mk (A3Node.mk (Node.sel (decide (r0=0)) r17 t1.n.a0) (Node.sel (decide (r0=1)) r17 t1.n.a1) (Node.sel (decide (r0=2)) r17 t1.n.a2)) (((t1.m++[]).take ((((t1.m++[]).length:Int)).toNat)).drop (((w64 (((t1.m++[]).length:Int) - 60))).toNat)))))
 none)
 none)
 none)
 (some (true,(Three.mk (A3Node.mk (Node.sel (decide (r0=0)) r17 t1.n.a0) (Node.sel (decide (r0=1)) r17 t1.n.a1) (Node.sel (decide (r0=2)) r17 t1.n.a2)) (t1.m++[])))))
 none)
 none))
 none)
 none)))
 (cond (r3 == 15)
 (ob (within ax1.n 3) fun r20 =>
 ob (compact (Node.sel (decide (r0=0)) t1.n.a0 (Node.mk (cond (decide (r0=1)) t1.n.a1.id_ t1.n.a2.id_) (cond (decide (r0=1)) t1.n.a1.term_ t1.n.a2.term_) (cond (decide (r0=1)) t1.n.a1.vote t1.n.a2.vote) (cond (decide (r0=1)) t1.n.a1.base t1.n.a2.base) (cond (decide (r0=1)) t1.n.a1.baseTerm t1.n.a2.baseTerm) (cond (decide (r0=1)) t1.n.a1.snap t1.n.a2.snap) (cond (decide (r0=1)) t1.n.a1.log t1.n.a2.log) (cond (decide (r0=1)) t1.n.a1.role t1.n.a2.role) (cond (decide (r0=1)) t1.n.a1.commit t1.n.a2.commit) (cond (decide (r0=1)) t1.n.a1.wait t1.n.a2.wait) (A3Bool.mk (cond (decide (r0=1)) t1.n.a1.votes.a0 t1.n.a2.votes.a0) (cond (decide (r0=1)) t1.n.a1.votes.a1 t1.n.a2.votes.a1) (cond (decide (r0=1)) t1.n.a1.votes.a2 t1.n.a2.votes.a2)) (A3Int.mk (cond (decide (r0=1)) t1.n.a1.next.a0 t1.n.a2.next.a0) (cond (decide (r0=1)) t1.n.a1.next.a1 t1.n.a2.next.a1) (cond (decide (r0=1)) t1.n.a1.next.a2 t1.n.a2.next.a2)) (A3Int.mk (cond (decide (r0=1)) t1.n.a1.match_.a0 t1.n.a2.match_.a0) (cond (decide (r0=1)) t1.n.a1.match_.a1 t1.n.a2.match_.a1) (cond (decide (r0=1)) t1.n.a1.match_.a2 t1.n.a2.match_.a2)))) (w64 ((cond (decide (r0=0)) t1.n.a0.commit (cond (decide (r0=1)) t1.n.a1.commit t1.n.a2.commit)) - r20)) ax1.cmd) fun r21 =>
 ob (l15_toRef (Node.sel (decide (r0=0)) t1.n.a0 (Node.mk (cond (decide (r0=1)) t1.n.a1.id_ t1.n.a2.id_) (cond (decide (r0=1)) t1.n.a1.term_ t1.n.a2.term_) (cond (decide (r0=1)) t1.n.a1.vote t1.n.a2.vote) (cond (decide (r0=1)) t1.n.a1.base t1.n.a2.base) (cond (decide (r0=1)) t1.n.a1.baseTerm t1.n.a2.baseTerm) (cond (decide (r0=1)) t1.n.a1.snap t1.n.a2.snap) (cond (decide (r0=1)) t1.n.a1.log t1.n.a2.log) (cond (decide (r0=1)) t1.n.a1.role t1.n.a2.role) (cond (decide (r0=1)) t1.n.a1.commit t1.n.a2.commit) (cond (decide (r0=1)) t1.n.a1.wait t1.n.a2.wait) (A3Bool.mk (cond (decide (r0=1)) t1.n.a1.votes.a0 t1.n.a2.votes.a0) (cond (decide (r0=1)) t1.n.a1.votes.a1 t1.n.a2.votes.a1) (cond (decide (r0=1)) t1.n.a1.votes.a2 t1.n.a2.votes.a2)) (A3Int.mk (cond (decide (r0=1)) t1.n.a1.next.a0 t1.n.a2.next.a0) (cond (decide (r0=1)) t1.n.a1.next.a1 t1.n.a2.next.a1) (cond (decide (r0=1)) t1.n.a1.next.a2 t1.n.a2.next.a2)) (A3Int.mk (cond (decide (r0=1)) t1.n.a1.match_.a0 t1.n.a2.match_.a0) (cond (decide (r0=1)) t1.n.a1.match_.a1 t1.n.a2.match_.a1) (cond (decide (r0=1)) t1.n.a1.match_.a2 t1.n.a2.match_.a2))))) fun r22 =>
 ob (within ax1.n 3) fun r23 =>
 ob (ref15Compact r22 (w64 ((cond (decide (r0=0)) t1.n.a0.commit (cond (decide (r0=1)) t1.n.a1.commit t1.n.a2.commit)) - r23)) ax1.cmd) fun r24 =>
 cond (r21.2 != r24.2)
 (some (false,t1))
 (ob (l15_toRef r21.1) fun r49 =>
 ob (ref15Same r49 r24.1) fun r50 =>
 cond (!r50)
 (some (false,t1))
 (ob (l15_sameMsgs [] []) fun r51 =>
 cond (!r51)
 (some (false,t1))
 (cond (decide (0≤r0) && decide (r0 < 3))
 (ob (same r21.1 (Node.sel (decide (r0=0)) t1.n.a0 (Node.mk (cond (decide (r0=1)) t1.n.a1.id_ t1.n.a2.id_) (cond (decide (r0=1)) t1.n.a1.term_ t1.n.a2.term_) (cond (decide (r0=1)) t1.n.a1.vote t1.n.a2.vote) (cond (decide (r0=1)) t1.n.a1.base t1.n.a2.base) (cond (decide (r0=1)) t1.n.a1.baseTerm t1.n.a2.baseTerm) (cond (decide (r0=1)) t1.n.a1.snap t1.n.a2.snap) (cond (decide (r0=1)) t1.n.a1.log t1.n.a2.log) (cond (decide (r0=1)) t1.n.a1.role t1.n.a2.role) (cond (decide (r0=1)) t1.n.a1.commit t1.n.a2.commit) (cond (decide (r0=1)) t1.n.a1.wait t1.n.a2.wait) (A3Bool.mk (cond (decide (r0=1)) t1.n.a1.votes.a0 t1.n.a2.votes.a0) (cond (decide (r0=1)) t1.n.a1.votes.a1 t1.n.a2.votes.a1) (cond (decide (r0=1)) t1.n.a1.votes.a2 t1.n.a2.votes.a2)) (A3Int.mk (cond (decide (r0=1)) t1.n.a1.next.a0 t1.n.a2.next.a0) (cond (decide (r0=1)) t1.n.a1.next.a1 t1.n.a2.next.a1) (cond (decide (r0=1)) t1.n.a1.next.a2 t1.n.a2.next.a2)) (A3Int.mk (cond (decide (r0=1)) t1.n.a1.match_.a0 t1.n.a2.match_.a0) (cond (decide (r0=1)) t1.n.a1.match_.a1 t1.n.a2.match_.a1) (cond (decide (r0=1)) t1.n.a1.match_.a2 t1.n.a2.match_.a2))))) fun r52 =>
 cond (decide (0≤r0) && decide (r0 < 3))
 (ob (l15_toRef (Node.sel (decide (r0=0)) t1.n.a0 (Node.mk (cond (decide (r0=1)) t1.n.a1.id_ t1.n.a2.id_) (cond (decide (r0=1)) t1.n.a1.term_ t1.n.a2.term_) (cond (decide (r0=1)) t1.n.a1.vote t1.n.a2.vote) (cond (decide (r0=1)) t1.n.a1.base t1.n.a2.base) (cond (decide (r0=1)) t1.n.a1.baseTerm t1.n.a2.baseTerm) (cond (decide (r0=1)) t1.n.a1.snap t1.n.a2.snap) (cond (decide (r0=1)) t1.n.a1.log t1.n.a2.log) (cond (decide (r0=1)) t1.n.a1.role t1.n.a2.role) (cond (decide (r0=1)) t1.n.a1.commit t1.n.a2.commit) (cond (decide (r0=1)) t1.n.a1.wait t1.n.a2.wait) (A3Bool.mk (cond (decide (r0=1)) t1.n.a1.votes.a0 t1.n.a2.votes.a0) (cond (decide (r0=1)) t1.n.a1.votes.a1 t1.n.a2.votes.a1) (cond (decide (r0=1)) t1.n.a1.votes.a2 t1.n.a2.votes.a2)) (A3Int.mk (cond (decide (r0=1)) t1.n.a1.next.a0 t1.n.a2.next.a0) (cond (decide (r0=1)) t1.n.a1.next.a1 t1.n.a2.next.a1) (cond (decide (r0=1)) t1.n.a1.next.a2 t1.n.a2.next.a2)) (A3Int.mk (cond (decide (r0=1)) t1.n.a1.match_.a0 t1.n.a2.match_.a0) (cond (decide (r0=1)) t1.n.a1.match_.a1 t1.n.a2.match_.a1) (cond (decide (r0=1)) t1.n.a1.match_.a2 t1.n.a2.match_.a2))))) fun r53 =>
 ob (ref15Same r24.1 r53) fun r54 =>
 cond (!(r52 == r54))
 (some (false,t1))
 (cond (decide (0≤r0) && decide (r0 < 3))
 (cond (fits ((t1.m++[]).length))
 (cond (decide (((t1.m++[]).length:Int) > 60))
 (cond (decide (0≤(w64 (((t1.m++[]).length:Int) - 60))))
 (cond (decide ((w64 (((t1.m++[]).length:Int) - 60))≤((t1.m++[]).length:Int)))
 (cond (decide (((t1.m++[]).length:Int)≤((t1.m++[]).length:Int)))
 (some (true,(Three.mk (A3Node.mk (Node.sel (decide (r0=0)) r21.1 t1.n.a0) (Node.sel (decide (r0=1)) r21.1 t1.n.a1) (Node.sel (decide (r0=2)) r21.1 t1.n.a2)) (((t1.m++[]).take ((((t1.m++[]).length:Int)).toNat)).drop (((w64 (((t1.m++[]).length:Int) - 60))).toNat)))))
 none)
 none)
 none)
 (some (true,(Three.mk (A3Node.mk (Node.sel (decide (r0=0)) r21.1 t1.n.a0) (Node.sel (decide (r0=1)) r21.1 t1.n.a1) (Node.sel (decide (r0=2)) r21.1 t1.n.a2)) (t1.m++[])))))
 none)
 none))
 none)
 none))))
 (ob (l15_toRef (Node.sel (decide (r0=0)) t1.n.a0 (Node.mk (cond (decide (r0=1)) t1.n.a1.id_ t1.n.a2.id_) (cond (decide (r0=1)) t1.n.a1.term_ t1.n.a2.term_) (cond (decide (r0=1)) t1.n.a1.vote t1.n.a2.vote) (cond (decide (r0=1)) t1.n.a1.base t1.n.a2.base) (cond (decide (r0=1)) t1.n.a1.baseTerm t1.n.a2.baseTerm) (cond (decide (r0=1)) t1.n.a1.snap t1.n.a2.snap) (cond (decide (r0=1)) t1.n.a1.log t1.n.a2.log) (cond (decide (r0=1)) t1.n.a1.role t1.n.a2.role) (cond (decide (r0=1)) t1.n.a1.commit t1.n.a2.commit) (cond (decide (r0=1)) t1.n.a1.wait t1.n.a2.wait) (A3Bool.mk (cond (decide (r0=1)) t1.n.a1.votes.a0 t1.n.a2.votes.a0) (cond (decide (r0=1)) t1.n.a1.votes.a1 t1.n.a2.votes.a1) (cond (decide (r0=1)) t1.n.a1.votes.a2 t1.n.a2.votes.a2)) (A3Int.mk (cond (decide (r0=1)) t1.n.a1.next.a0 t1.n.a2.next.a0) (cond (decide (r0=1)) t1.n.a1.next.a1 t1.n.a2.next.a1) (cond (decide (r0=1)) t1.n.a1.next.a2 t1.n.a2.next.a2)) (A3Int.mk (cond (decide (r0=1)) t1.n.a1.match_.a0 t1.n.a2.match_.a0) (cond (decide (r0=1)) t1.n.a1.match_.a1 t1.n.a2.match_.a1) (cond (decide (r0=1)) t1.n.a1.match_.a2 t1.n.a2.match_.a2))))) fun r55 =>
 ob (ref15Same r55 r1) fun r56 =>
 cond (!r56)
 (some (false,t1))
 (ob (l15_sameMsgs [] []) fun r57 =>
 cond (!r57)
 (some (false,t1))
 (cond (decide (0≤r0) && decide (r0 < 3))
 (ob (same (Node.sel (decide (r0=0)) t1.n.a0 (Node.mk (cond (decide (r0=1)) t1.n.a1.id_ t1.n.a2.id_) (cond (decide (r0=1)) t1.n.a1.term_ t1.n.a2.term_) (cond (decide (r0=1)) t1.n.a1.vote t1.n.a2.vote) (cond (decide (r0=1)) t1.n.a1.base t1.n.a2.base) (cond (decide (r0=1)) t1.n.a1.baseTerm t1.n.a2.baseTerm) (cond (decide (r0=1)) t1.n.a1.snap t1.n.a2.snap) (cond (decide (r0=1)) t1.n.a1.log t1.n.a2.log) (cond (decide (r0=1)) t1.n.a1.role t1.n.a2.role) (cond (decide (r0=1)) t1.n.a1.commit t1.n.a2.commit) (cond (decide (r0=1)) t1.n.a1.wait t1.n.a2.wait) (A3Bool.mk (cond (decide (r0=1)) t1.n.a1.votes.a0 t1.n.a2.votes.a0) (cond (decide (r0=1)) t1.n.a1.votes.a1 t1.n.a2.votes.a1) (cond (decide (r0=1)) t1.n.a1.votes.a2 t1.n.a2.votes.a2)) (A3Int.mk (cond (decide (r0=1)) t1.n.a1.next.a0 t1.n.a2.next.a0) (cond (decide (r0=1)) t1.n.a1.next.a1 t1.n.a2.next.a1) (cond (decide (r0=1)) t1.n.a1.next.a2 t1.n.a2.next.a2)) (A3Int.mk (cond (decide (r0=1)) t1.n.a1.match_.a0 t1.n.a2.match_.a0) (cond (decide (r0=1)) t1.n.a1.match_.a1 t1.n.a2.match_.a1) (cond (decide (r0=1)) t1.n.a1.match_.a2 t1.n.a2.match_.a2)))) (Node.sel (decide (r0=0)) t1.n.a0 (Node.mk (cond (decide (r0=1)) t1.n.a1.id_ t1.n.a2.id_) (cond (decide (r0=1)) t1.n.a1.term_ t1.n.a2.term_) (cond (decide (r0=1)) t1.n.a1.vote t1.n.a2.vote) (cond (decide (r0=1)) t1.n.a1.base t1.n.a2.base) (cond (decide (r0=1)) t1.n.a1.baseTerm t1.n.a2.baseTerm) (cond (decide (r0=1)) t1.n.a1.snap t1.n.a2.snap) (cond (decide (r0=1)) t1.n.a1.log t1.n.a2.log) (cond (decide (r0=1)) t1.n.a1.role t1.n.a2.role) (cond (decide (r0=1)) t1.n.a1.commit t1.n.a2.commit) (cond (decide (r0=1)) t1.n.a1.wait t1.n.a2.wait) (A3Bool.mk (cond (decide (r0=1)) t1.n.a1.votes.a0 t1.n.a2.votes.a0) (cond (decide (r0=1)) t1.n.a1.votes.a1 t1.n.a2.votes.a1) (cond (decide (r0=1)) t1.n.a1.votes.a2 t1.n.a2.votes.a2)) (A3Int.mk (cond (decide (r0=1)) t1.n.a1.next.a0 t1.n.a2.next.a0) (cond (decide (r0=1)) t1.n.a1.next.a1 t1.n.a2.next.a1) (cond (decide (r0=1)) t1.n.a1.next.a2 t1.n.a2.next.a2)) (A3Int.mk (cond (decide (r0=1)) t1.n.a1.match_.a0 t1.n.a2.match_.a0) (cond (decide (r0=1)) t1.n.a1.match_.a1 t1.n.a2.match_.a1) (cond (decide (r0=1)) t1.n.a1.match_.a2 t1.n.a2.match_.a2))))) fun r58 =>
 cond (decide (0≤r0) && decide (r0 < 3))
 (ob (l15_toRef (Node.sel (decide (r0=0)) t1.n.a0 (Node.mk (cond (decide (r0=1)) t1.n.a1.id_ t1.n.a2.id_) (cond (decide (r0=1)) t1.n.a1.term_ t1.n.a2.term_) (cond (decide (r0=1)) t1.n.a1.vote t1.n.a2.vote) (cond (decide (r0=1)) t1.n.a1.base t1.n.a2.base) (cond (decide (r0=1)) t1.n.a1.baseTerm t1.n.a2.baseTerm) (cond (decide (r0=1)) t1.n.a1.snap t1.n.a2.snap) (cond (decide (r0=1)) t1.n.a1.log t1.n.a2.log) (cond (decide (r0=1)) t1.n.a1.role t1.n.a2.role) (cond (decide (r0=1)) t1.n.a1.commit t1.n.a2.commit) (cond (decide (r0=1)) t1.n.a1.wait t1.n.a2.wait) (A3Bool.mk (cond (decide (r0=1)) t1.n.a1.votes.a0 t1.n.a2.votes.a0) (cond (decide (r0=1)) t1.n.a1.votes.a1 t1.n.a2.votes.a1) (cond (decide (r0=1)) t1.n.a1.votes.a2 t1.n.a2.votes.a2)) (A3Int.mk (cond (decide (r0=1)) t1.n.a1.next.a0 t1.n.a2.next.a0) (cond (decide (r0=1)) t1.n.a1.next.a1 t1.n.a2.next.a1) (cond (decide (r0=1)) t1.n.a1.next.a2 t1.n.a2.next.a2)) (A3Int.mk (cond (decide (r0=1)) t1.n.a1.match_.a0 t1.n.a2.match_.a0) (cond (decide (r0=1)) t1.n.a1.match_.a1 t1.n.a2.match_.a1) (cond (decide (r0=1)) t1.n.a1.match_.a2 t1.n.a2.match_.a2))))) fun r59 =>
 ob (ref15Same r1 r59) fun r60 =>
 cond (!(r58 == r60))
 (some (false,t1))
 (cond (decide (0≤r0) && decide (r0 < 3))
 (cond (fits ((t1.m++[]).length))
 (cond (decide (((t1.m++[]).length:Int) > 60))
 (cond (decide (0≤(w64 (((t1.m++[]).length:Int) - 60))))
 (cond (decide ((w64 (((t1.m++[]).length:Int) - 60))≤((t1.m++[]).length:Int)))
 (cond (decide (((t1.m++[]).length:Int)≤((t1.m++[]).length:Int)))
 (some (true,(Three.mk (A3Node.mk (Node.sel (decide (r0=0)) (Node.mk (cond (decide (r0=0)) t1.n.a0.id_ (cond (decide (r0=1)) t1.n.a1.id_ t1.n.a2.id_)) (cond (decide (r0=0)) t1.n.a0.term_ (cond (decide (r0=1)) t1.n.a1.term_ t1.n.a2.term_)) (cond (decide (r0=0)) t1.n.a0.vote (cond (decide (r0=1)) t1.n.a1.vote t1.n.a2.vote)) (cond (decide (r0=0)) t1.n.a0.base (cond (decide (r0=1)) t1.n.a1.base t1.n.a2.base)) (cond (decide (r0=0)) t1.n.a0.baseTerm (cond (decide (r0=1)) t1.n.a1.baseTerm t1.n.a2.baseTerm)) (cond (decide (r0=0)) t1.n.a0.snap (cond (decide (r0=1)) t1.n.a1.snap t1.n.a2.snap)) (cond (decide (r0=0)) t1.n.a0.log (cond (decide (r0=1)) t1.n.a1.log t1.n.a2.log)) (cond (decide (r0=0)) t1.n.a0.role (cond (decide (r0=1)) t1.n.a1.role t1.n.a2.role)) (cond (decide (r0=0)) t1.n.a0.commit (cond (decide (r0=1)) t1.n.a1.commit t1.n.a2.commit)) (cond (decide (r0=0)) t1.n.a0.wait (cond (decide (r0=1)) t1.n.a1.wait t1.n.a2.wait)) (A3Bool.mk (cond (decide (r0=0)) t1.n.a0.votes.a0 (cond (decide (r0=1)) t1.n.a1.votes.a0 t1.n.a2.votes.a0)) (cond (decide (r0=0)) t1.n.a0.votes.a1 (cond (decide (r0=1)) t1.n.a1.votes.a1 t1.n.a2.votes.a1)) (cond (decide (r0=0)) t1.n.a0.votes.a2 (cond (decide (r0=1)) t1.n.a1.votes.a2 t1.n.a2.votes.a2))) (A3Int.mk (cond (decide (r0=0)) t1.n.a0.next.a0 (cond (decide (r0=1)) t1.n.a1.next.a0 t1.n.a2.next.a0)) (cond (decide (r0=0)) t1.n.a0.next.a1 (cond (decide (r0=1)) t1.n.a1.next.a1 t1.n.a2.next.a1)) (cond (decide (r0=0)) t1.n.a0.next.a2 (cond (decide (r0=1)) t1.n.a1.next.a2 t1.n.a2.next.a2))) (A3Int.mk (cond (decide (r0=0)) t1.n.a0.match_.a0 (cond (decide (r0=1)) t1.n.a1.match_.a0 t1.n.a2.match_.a0)) (cond (decide (r0=0)) t1.n.a0.match_.a1 (cond (decide (r0=1)) t1.n.a1.match_.a1 t1.n.a2.match_.a1)) (cond (decide (r0=0)) t1.n.a0.match_.a2 (cond (decide (r0=1)) t1.n.a1.match_.a2 t1.n.a2.match_.a2)))) t1.n.a0) (Node.sel (decide (r0=1)) (Node.mk (cond (decide (r0=0)) t1.n.a0.id_ (cond (decide (r0=1)) t1.n.a1.id_ t1.n.a2.id_)) (cond (decide (r0=0)) t1.n.a0.term_ (cond (decide (r0=1)) t1.n.a1.term_ t1.n.a2.term_)) (cond (decide (r0=0)) t1.n.a0.vote (cond (decide (r0=1)) t1.n.a1.vote t1.n.a2.vote)) (cond (decide (r0=0)) t1.n.a0.base (cond (decide (r0=1)) t1.n.a1.base t1.n.a2.base)) (cond (decide (r0=0)) t1.n.a0.baseTerm (cond (decide (r0=1)) t1.n.a1.baseTerm t1.n.a2.baseTerm)) (cond (decide (r0=0)) t1.n.a0.snap (cond (decide (r0=1)) t1.n.a1.snap t1.n.a2.snap)) (cond (decide (r0=0)) t1.n.a0.log (cond (decide (r0=1)) t1.n.a1.log t1.n.a2.log)) (cond (decide (r0=0)) t1.n.a0.role (cond (decide (r0=1)) t1.n.a1.role t1.n.a2.role)) (cond (decide (r0=0)) t1.n.a0.commit (cond (decide (r0=1)) t1.n.a1.commit t1.n.a2.commit)) (cond (decide (r0=0)) t1.n.a0.wait (cond (decide (r0=1)) t1.n.a1.wait t1.n.a2.wait)) (A3Bool.mk (cond (decide (r0=0)) t1.n.a0.votes.a0 (cond (decide (r0=1)) t1.n.a1.votes.a0 t1.n.a2.votes.a0)) (cond (decide (r0=0)) t1.n.a0.votes.a1 (cond (decide (r0=1)) t1.n.a1.votes.a1 t1.n.a2.votes.a1)) (cond (decide (r0=0)) t1.n.a0.votes.a2 (cond (decide (r0=1)) t1.n.a1.votes.a2 t1.n.a2.votes.a2))) (A3Int.mk (cond (decide (r0=0)) t1.n.a0.next.a0 (cond (decide (r0=1)) t1.n.a1.next.a0 t1.n.a2.next.a0)) (cond (decide (r0=0)) t1.n.a0.next.a1 (cond (decide (r0=1)) t1.n.a1.next.a1 t1.n.a2.next.a1)) (cond (decide (r0=0)) t1.n.a0.next.a2 (cond (decide (r0=1)) t1.n.a1.next.a2 t1.n.a2.next.a2))) (A3Int.mk (cond (decide (r0=0)) t1.n.a0.match_.a0 (cond (decide (r0=1)) t1.n.a1.match_.a0 t1.n.a2.match_.a0)) (cond (decide (r0=0)) t1.n.a0.match_.a1 (cond (decide (r0=1)) t1.n.a1.match_.a1 t1.n.a2.match_.a1)) (cond (decide (r0=0)) t1.n.a0.match_.a2 (cond (decide (r0=1)) t1.n.a1.match_.a2 t1.n.a2.match_.a2)))) t1.n.a1) (Node.sel (decide (r0=2)) (Node.mk (cond (decide (r0=0)) t1.n.a0.id_ (cond (decide (r0=1)) t1.n.a1.id_ t1.n.a2.id_)) (cond (decide (r0=0)) t1.n.a0.term_ (cond (decide (r0=1)) t1.n.a1.term_ t1.n.a2.term_)) (cond (decide (r0=0)) t1.n.a0.vote (cond (decide (r0=1)) t1.n.a1.vote t1.n.a2.vote)) (cond (decide (r0=0)) t1.n.a0.base (cond (decide (r0=1)) t1.n.a1.base t1.n.a2.base)) (cond (decide (r0=0)) t1.n.a0.baseTerm (cond (decide (r0=1)) t1.n.a1.baseTerm t1.n.a2.baseTerm)) (cond (decide (r0=0)) t1.n.a0.snap (cond (decide (r0=1)) t1.n.a1.snap t1.n.a2.snap)) (cond (decide (r0=0)) t1.n.a0.log (cond (decide (r0=1)) t1.n.a1.log t1.n.a2.log)) (cond (decide (r0=0)) t1.n.a0.role (cond (decide (r0=1)) t1.n.a1.role t1.n.a2.role)) (cond (decide (r0=0)) t1.n.a0.commit (cond (decide (r0=1)) t1.n.a1.commit t1.n.a2.commit)) (cond (decide (r0=0)) t1.n.a0.wait (cond (decide (r0=1)) t1.n.a1.wait t1.n.a2.wait)) (A3Bool.mk (cond (decide (r0=0)) t1.n.a0.votes.a0 (cond (decide (r0=1)) t1.n.a1.votes.a0 t1.n.a2.votes.a0)) (cond (decide (r0=0)) t1.n.a0.votes.a1 (cond (decide (r0=1)) t1.n.a1.votes.a1 t1.n.a2.votes.a1)) (cond (decide (r0=0)) t1.n.a0.votes.a2 (cond (decide (r0=1)) t1.n.a1.votes.a2 t1.n.a2.votes.a2))) (A3Int.mk (cond (decide (r0=0)) t1.n.a0.next.a0 (cond (decide (r0=1)) t1.n.a1.next.a0 t1.n.a2.next.a0)) (cond (decide (r0=0)) t1.n.a0.next.a1 (cond (decide (r0=1)) t1.n.a1.next.a1 t1.n.a2.next.a1)) (cond (decide (r0=0)) t1.n.a0.next.a2 (cond (decide (r0=1)) t1.n.a1.next.a2 t1.n.a2.next.a2))) (A3Int.mk (cond (decide (r0=0)) t1.n.a0.match_.a0 (cond (decide (r0=1)) t1.n.a1.match_.a0 t1.n.a2.match_.a0)) (cond (decide (r0=0)) t1.n.a0.match_.a1 (cond (decide (r0=1)) t1.n.a1.match_.a1 t1.n.a2.match_.a1)) (cond (decide (r0=0)) t1.n.a0.match_.a2 (cond (decide (r0=1)) t1.n.a1.match_.a2 t1.n.a2.match_.a2)))) t1.n.a2)) (((t1.m++[]).take ((((t1.m++[]).length:Int)).toNat)).drop (((w64 (((t1.m++[]).length:Int) - 60))).toNat)))))
 none)
 none)
 none)
 (some (true,(Three.mk (A3Node.mk (Node.sel (decide (r0=0)) (Node.mk (cond (decide (r0=0)) t1.n.a0.id_ (cond (decide (r0=1)) t1.n.a1.id_ t1.n.a2.id_)) (cond (decide (r0=0)) t1.n.a0.term_ (cond (decide (r0=1)) t1.n.a1.term_ t1.n.a2.term_)) (cond (decide (r0=0)) t1.n.a0.vote (cond (decide (r0=1)) t1.n.a1.vote t1.n.a2.vote)) (cond (decide (r0=0)) t1.n.a0.base (cond (decide (r0=1)) t1.n.a1.base t1.n.a2.base)) (cond (decide (r0=0)) t1.n.a0.baseTerm (cond (decide (r0=1)) t1.n.a1.baseTerm t1.n.a2.baseTerm)) (cond (decide (r0=0)) t1.n.a0.snap (cond (decide (r0=1)) t1.n.a1.snap t1.n.a2.snap)) (cond (decide (r0=0)) t1.n.a0.log (cond (decide (r0=1)) t1.n.a1.log t1.n.a2.log)) (cond (decide (r0=0)) t1.n.a0.role (cond (decide (r0=1)) t1.n.a1.role t1.n.a2.role)) (cond (decide (r0=0)) t1.n.a0.commit (cond (decide (r0=1)) t1.n.a1.commit t1.n.a2.commit)) (cond (decide (r0=0)) t1.n.a0.wait (cond (decide (r0=1)) t1.n.a1.wait t1.n.a2.wait)) (A3Bool.mk (cond (decide (r0=0)) t1.n.a0.votes.a0 (cond (decide (r0=1)) t1.n.a1.votes.a0 t1.n.a2.votes.a0)) (cond (decide (r0=0)) t1.n.a0.votes.a1 (cond (decide (r0=1)) t1.n.a1.votes.a1 t1.n.a2.votes.a1)) (cond (decide (r0=0)) t1.n.a0.votes.a2 (cond (decide (r0=1)) t1.n.a1.votes.a2 t1.n.a2.votes.a2))) (A3Int.mk (cond (decide (r0=0)) t1.n.a0.next.a0 (cond (decide (r0=1)) t1.n.a1.next.a0 t1.n.a2.next.a0)) (cond (decide (r0=0)) t1.n.a0.next.a1 (cond (decide (r0=1)) t1.n.a1.next.a1 t1.n.a2.next.a1)) (cond (decide (r0=0)) t1.n.a0.next.a2 (cond (decide (r0=1)) t1.n.a1.next.a2 t1.n.a2.next.a2))) (A3Int.mk (cond (decide (r0=0)) t1.n.a0.match_.a0 (cond (decide (r0=1)) t1.n.a1.match_.a0 t1.n.a2.match_.a0)) (cond (decide (r0=0)) t1.n.a0.match_.a1 (cond (decide (r0=1)) t1.n.a1.match_.a1 t1.n.a2.match_.a1)) (cond (decide (r0=0)) t1.n.a0.match_.a2 (cond (decide (r0=1)) t1.n.a1.match_.a2 t1.n.a2.match_.a2)))) t1.n.a0) (Node.sel (decide (r0=1)) (Node.mk (cond (decide (r0=0)) t1.n.a0.id_ (cond (decide (r0=1)) t1.n.a1.id_ t1.n.a2.id_)) (cond (decide (r0=0)) t1.n.a0.term_ (cond (decide (r0=1)) t1.n.a1.term_ t1.n.a2.term_)) (cond (decide (r0=0)) t1.n.a0.vote (cond (decide (r0=1)) t1.n.a1.vote t1.n.a2.vote)) (cond (decide (r0=0)) t1.n.a0.base (cond (decide (r0=1)) t1.n.a1.base t1.n.a2.base)) (cond (decide (r0=0)) t1.n.a0.baseTerm (cond (decide (r0=1)) t1.n.a1.baseTerm t1.n.a2.baseTerm)) (cond (decide (r0=0)) t1.n.a0.snap (cond (decide (r0=1)) t1.n.a1.snap t1.n.a2.snap)) (cond (decide (r0=0)) t1.n.a0.log (cond (decide (r0=1)) t1.n.a1.log t1.n.a2.log)) (cond (decide (r0=0)) t1.n.a0.role (cond (decide (r0=1)) t1.n.a1.role t1.n.a2.role)) (cond (decide (r0=0)) t1.n.a0.commit (cond (decide (r0=1)) t1.n.a1.commit t1.n.a2.commit)) (cond (decide (r0=0)) t1.n.a0.wait (cond (decide (r0=1)) t1.n.a1.wait t1.n.a2.wait)) (A3Bool.mk (cond (decide (r0=0)) t1.n.a0.votes.a0 (cond (decide (r0=1)) t1.n.a1.votes.a0 t1.n.a2.votes.a0)) (cond (decide (r0=0)) t1.n.a0.votes.a1 (cond (decide (r0=1)) t1.n.a1.votes.a1 t1.n.a2.votes.a1)) (cond (decide (r0=0)) t1.n.a0.votes.a2 (cond (decide (r0=1)) t1.n.a1.votes.a2 t1.n.a2.votes.a2))) (A3Int.mk (cond (decide (r0=0)) t1.n.a0.next.a0 (cond (decide (r0=1)) t1.n.a1.next.a0 t1.n.a2.next.a0)) (cond (decide (r0=0)) t1.n.a0.next.a1 (cond (decide (r0=1)) t1.n.a1.next.a1 t1.n.a2.next.a1)) (cond (decide (r0=0)) t1.n.a0.next.a2 (cond (decide (r0=1)) t1.n.a1.next.a2 t1.n.a2.next.a2))) (A3Int.mk (cond (decide (r0=0)) t1.n.a0.match_.a0 (cond (decide (r0=1)) t1.n.a1.match_.a0 t1.n.a2.match_.a0)) (cond (decide (r0=0)) t1.n.a0.match_.a1 (cond (decide (r0=1)) t1.n.a1.match_.a1 t1.n.a2.match_.a1)) (cond (decide (r0=0)) t1.n.a0.match_.a2 (cond (decide (r0=1)) t1.n.a1.match_.a2 t1.n.a2.match_.a2)))) t1.n.a1) (Node.sel (decide (r0=2)) (Node.mk (cond (decide (r0=0)) t1.n.a0.id_ (cond (decide (r0=1)) t1.n.a1.id_ t1.n.a2.id_)) (cond (decide (r0=0)) t1.n.a0.term_ (cond (decide (r0=1)) t1.n.a1.term_ t1.n.a2.term_)) (cond (decide (r0=0)) t1.n.a0.vote (cond (decide (r0=1)) t1.n.a1.vote t1.n.a2.vote)) (cond (decide (r0=0)) t1.n.a0.base (cond (decide (r0=1)) t1.n.a1.base t1.n.a2.base)) (cond (decide (r0=0)) t1.n.a0.baseTerm (cond (decide (r0=1)) t1.n.a1.baseTerm t1.n.a2.baseTerm)) (cond (decide (r0=0)) t1.n.a0.snap (cond (decide (r0=1)) t1.n.a1.snap t1.n.a2.snap)) (cond (decide (r0=0)) t1.n.a0.log (cond (decide (r0=1)) t1.n.a1.log t1.n.a2.log)) (cond (decide (r0=0)) t1.n.a0.role (cond (decide (r0=1)) t1.n.a1.role t1.n.a2.role)) (cond (decide (r0=0)) t1.n.a0.commit (cond (decide (r0=1)) t1.n.a1.commit t1.n.a2.commit)) (cond (decide (r0=0)) t1.n.a0.wait (cond (decide (r0=1)) t1.n.a1.wait t1.n.a2.wait)) (A3Bool.mk (cond (decide (r0=0)) t1.n.a0.votes.a0 (cond (decide (r0=1)) t1.n.a1.votes.a0 t1.n.a2.votes.a0)) (cond (decide (r0=0)) t1.n.a0.votes.a1 (cond (decide (r0=1)) t1.n.a1.votes.a1 t1.n.a2.votes.a1)) (cond (decide (r0=0)) t1.n.a0.votes.a2 (cond (decide (r0=1)) t1.n.a1.votes.a2 t1.n.a2.votes.a2))) (A3Int.mk (cond (decide (r0=0)) t1.n.a0.next.a0 (cond (decide (r0=1)) t1.n.a1.next.a0 t1.n.a2.next.a0)) (cond (decide (r0=0)) t1.n.a0.next.a1 (cond (decide (r0=1)) t1.n.a1.next.a1 t1.n.a2.next.a1)) (cond (decide (r0=0)) t1.n.a0.next.a2 (cond (decide (r0=1)) t1.n.a1.next.a2 t1.n.a2.next.a2))) (A3Int.mk (cond (decide (r0=0)) t1.n.a0.match_.a0 (cond (decide (r0=1)) t1.n.a1.match_.a0 t1.n.a2.match_.a0)) (cond (decide (r0=0)) t1.n.a0.match_.a1 (cond (decide (r0=1)) t1.n.a1.match_.a1 t1.n.a2.match_.a1)) (cond (decide (r0=0)) t1.n.a0.match_.a2 (cond (decide (r0=1)) t1.n.a1.match_.a2 t1.n.a2.match_.a2)))) t1.n.a2)) (t1.m++[])))))
 none)
 none))
 none)
 none))))))))))
 none
def cc_Act:Cod (List (C TL)) Act:=kO (kC kJ (kC kJ (kC kJ (kC kE kN)))) (fun p=>(Act.mk p.1 p.2.1 p.2.2.1 p.2.2.2.1)) (fun (x:Act)=>(x.kind,(x.i,(x.n,(x.cmd,()))))) (fun _=>rfl)
def hc7_Three:Cod (List (Nat×En TL)) Three:=kO (kC (Cod.var 0 61 (kC kJ (kC kJ (kC kJ (kC kJ (kC kJ (kC kE (kC (kG j_lEntry) (kC kJ (kC kJ (kC kJ (kC kD (kC kD (kC kD (kC kJ (kC kJ (kC kJ (kC kJ (kC kJ (kC kJ (kC kJ (kC kJ (kC kJ (kC kJ (kC kJ (kC kE (kC (kG j_lEntry) (kC kJ (kC kJ (kC kJ (kC kD (kC kD (kC kD (kC kJ (kC kJ (kC kJ (kC kJ (kC kJ (kC kJ (kC kJ (kC kJ (kC kJ (kC kJ (kC kJ (kC kE (kC (kG j_lEntry) (kC kJ (kC kJ (kC kJ (kC kD (kC kD (kC kD (kC kJ (kC kJ (kC kJ (kC kJ (kC kJ (kC kJ (kC (kA 1) kN))))))))))))))))))))))))))))))))))))))))))))))))))))))))))) (kC (kR 1 39 j_lMsg) kN)) (fun p=>(Three.mk (A3Node.mk (Node.mk p.1.1 p.1.2.1 p.1.2.2.1 p.1.2.2.2.1 p.1.2.2.2.2.1 p.1.2.2.2.2.2.1 p.1.2.2.2.2.2.2.1 p.1.2.2.2.2.2.2.2.1 (t8 p.1).1 (t8 p.1).2.1 (A3Bool.mk (t8 p.1).2.2.1 (t8 p.1).2.2.2.1 (t8 p.1).2.2.2.2.1) (A3Int.mk (t8 p.1).2.2.2.2.2.1 (t8 p.1).2.2.2.2.2.2.1 (t8 p.1).2.2.2.2.2.2.2.1) (A3Int.mk (t8 (t8 p.1)).1 (t8 (t8 p.1)).2.1 (t8 (t8 p.1)).2.2.1)) (Node.mk (t8 (t8 p.1)).2.2.2.1 (t8 (t8 p.1)).2.2.2.2.1 (t8 (t8 p.1)).2.2.2.2.2.1 (t8 (t8 p.1)).2.2.2.2.2.2.1 (t8 (t8 p.1)).2.2.2.2.2.2.2.1 (t8 (t8 (t8 p.1))).1 (t8 (t8 (t8 p.1))).2.1 (t8 (t8 (t8 p.1))).2.2.1 (t8 (t8 (t8 p.1))).2.2.2.1 (t8 (t8 (t8 p.1))).2.2.2.2.1 (A3Bool.mk (t8 (t8 (t8 p.1))).2.2.2.2.2.1 (t8 (t8 (t8 p.1))).2.2.2.2.2.2.1 (t8 (t8 (t8 p.1))).2.2.2.2.2.2.2.1) (A3Int.mk (t32 p.1).1 (t32 p.1).2.1 (t32 p.1).2.2.1) (A3Int.mk (t32 p.1).2.2.2.1 (t32 p.1).2.2.2.2.1 (t32 p.1).2.2.2.2.2.1)) (Node.mk (t32 p.1).2.2.2.2.2.2.1 (t32 p.1).2.2.2.2.2.2.2.1 (t8 (t32 p.1)).1 (t8 (t32 p.1)).2.1 (t8 (t32 p.1)).2.2.1 (t8 (t32 p.1)).2.2.2.1 (t8 (t32 p.1)).2.2.2.2.1 (t8 (t32 p.1)).2.2.2.2.2.1 (t8 (t32 p.1)).2.2.2.2.2.2.1 (t8 (t32 p.1)).2.2.2.2.2.2.2.1 (A3Bool.mk (t8 (t8 (t32 p.1))).1 (t8 (t8 (t32 p.1))).2.1 (t8 (t8 (t32 p.1))).2.2.1) (A3Int.mk (t8 (t8 (t32 p.1))).2.2.2.1 (t8 (t8 (t32 p.1))).2.2.2.2.1 (t8 (t8 (t32 p.1))).2.2.2.2.2.1) (A3Int.mk (t8 (t8 (t32 p.1))).2.2.2.2.2.2.1 (t8 (t8 (t32 p.1))).2.2.2.2.2.2.2.1 (t8 (t8 (t8 (t32 p.1)))).1))) p.2.1)) (fun (x:Three)=>((x.n.a0.id_,(x.n.a0.term_,(x.n.a0.vote,(x.n.a0.base,(x.n.a0.baseTerm,(x.n.a0.snap,(x.n.a0.log,(x.n.a0.role,(x.n.a0.commit,(x.n.a0.wait,(x.n.a0.votes.a0,(x.n.a0.votes.a1,(x.n.a0.votes.a2,(x.n.a0.next.a0,(x.n.a0.next.a1,(x.n.a0.next.a2,(x.n.a0.match_.a0,(x.n.a0.match_.a1,(x.n.a0.match_.a2,(x.n.a1.id_,(x.n.a1.term_,(x.n.a1.vote,(x.n.a1.base,(x.n.a1.baseTerm,(x.n.a1.snap,(x.n.a1.log,(x.n.a1.role,(x.n.a1.commit,(x.n.a1.wait,(x.n.a1.votes.a0,(x.n.a1.votes.a1,(x.n.a1.votes.a2,(x.n.a1.next.a0,(x.n.a1.next.a1,(x.n.a1.next.a2,(x.n.a1.match_.a0,(x.n.a1.match_.a1,(x.n.a1.match_.a2,(x.n.a2.id_,(x.n.a2.term_,(x.n.a2.vote,(x.n.a2.base,(x.n.a2.baseTerm,(x.n.a2.snap,(x.n.a2.log,(x.n.a2.role,(x.n.a2.commit,(x.n.a2.wait,(x.n.a2.votes.a0,(x.n.a2.votes.a1,(x.n.a2.votes.a2,(x.n.a2.next.a0,(x.n.a2.next.a1,(x.n.a2.next.a2,(x.n.a2.match_.a0,(x.n.a2.match_.a1,(x.n.a2.match_.a2,((),())))))))))))))))))))))))))))))))))))))))))))))))))))))))))),(x.m,()))) (fun _=>rfl)
def ch_threeDo:kT (Act×Three):=kO (kS 2 (kC (kP 0 0) (kC (Cod.xs (Cod.sa cc_Act)) kN)) hc7_Three) (fun p=>(p.1.2.1,p.2)) (fun (x:Act×Three)=>(((),(x.1,())),x.2)) (fun _=>rfl)
def hc8_Three:Cod (List (Nat×En TL)) Three:=kO (kC (Cod.var 0 61 (kC kJ (kC kJ (kC kJ (kC kJ (kC kJ (kC kE (kC (kG j_lEntry) (kC kJ (kC kJ (kC kJ (kC kD (kC kD (kC kD (kC kJ (kC kJ (kC kJ (kC kJ (kC kJ (kC kJ (kC kJ (kC kJ (kC kJ (kC kJ (kC kJ (kC kE (kC (kG j_lEntry) (kC kJ (kC kJ (kC kJ (kC kD (kC kD (kC kD (kC kJ (kC kJ (kC kJ (kC kJ (kC kJ (kC kJ (kC kJ (kC kJ (kC kJ (kC kJ (kC kJ (kC kE (kC (kG j_lEntry) (kC kJ (kC kJ (kC kJ (kC kD (kC kD (kC kD (kC kJ (kC kJ (kC kJ (kC kJ (kC kJ (kC kJ (kC (kA 4) kN))))))))))))))))))))))))))))))))))))))))))))))))))))))))))) (kC (Cod.dead 1) (kC (kR 4 39 j_lMsg) kN))) (fun p=>(Three.mk (A3Node.mk (Node.mk p.1.1 p.1.2.1 p.1.2.2.1 p.1.2.2.2.1 p.1.2.2.2.2.1 p.1.2.2.2.2.2.1 p.1.2.2.2.2.2.2.1 p.1.2.2.2.2.2.2.2.1 (t8 p.1).1 (t8 p.1).2.1 (A3Bool.mk (t8 p.1).2.2.1 (t8 p.1).2.2.2.1 (t8 p.1).2.2.2.2.1) (A3Int.mk (t8 p.1).2.2.2.2.2.1 (t8 p.1).2.2.2.2.2.2.1 (t8 p.1).2.2.2.2.2.2.2.1) (A3Int.mk (t8 (t8 p.1)).1 (t8 (t8 p.1)).2.1 (t8 (t8 p.1)).2.2.1)) (Node.mk (t8 (t8 p.1)).2.2.2.1 (t8 (t8 p.1)).2.2.2.2.1 (t8 (t8 p.1)).2.2.2.2.2.1 (t8 (t8 p.1)).2.2.2.2.2.2.1 (t8 (t8 p.1)).2.2.2.2.2.2.2.1 (t8 (t8 (t8 p.1))).1 (t8 (t8 (t8 p.1))).2.1 (t8 (t8 (t8 p.1))).2.2.1 (t8 (t8 (t8 p.1))).2.2.2.1 (t8 (t8 (t8 p.1))).2.2.2.2.1 (A3Bool.mk (t8 (t8 (t8 p.1))).2.2.2.2.2.1 (t8 (t8 (t8 p.1))).2.2.2.2.2.2.1 (t8 (t8 (t8 p.1))).2.2.2.2.2.2.2.1) (A3Int.mk (t32 p.1).1 (t32 p.1).2.1 (t32 p.1).2.2.1) (A3Int.mk (t32 p.1).2.2.2.1 (t32 p.1).2.2.2.2.1 (t32 p.1).2.2.2.2.2.1)) (Node.mk (t32 p.1).2.2.2.2.2.2.1 (t32 p.1).2.2.2.2.2.2.2.1 (t8 (t32 p.1)).1 (t8 (t32 p.1)).2.1 (t8 (t32 p.1)).2.2.1 (t8 (t32 p.1)).2.2.2.1 (t8 (t32 p.1)).2.2.2.2.1 (t8 (t32 p.1)).2.2.2.2.2.1 (t8 (t32 p.1)).2.2.2.2.2.2.1 (t8 (t32 p.1)).2.2.2.2.2.2.2.1 (A3Bool.mk (t8 (t8 (t32 p.1))).1 (t8 (t8 (t32 p.1))).2.1 (t8 (t8 (t32 p.1))).2.2.1) (A3Int.mk (t8 (t8 (t32 p.1))).2.2.2.1 (t8 (t8 (t32 p.1))).2.2.2.2.1 (t8 (t8 (t32 p.1))).2.2.2.2.2.1) (A3Int.mk (t8 (t8 (t32 p.1))).2.2.2.2.2.2.1 (t8 (t8 (t32 p.1))).2.2.2.2.2.2.2.1 (t8 (t8 (t8 (t32 p.1)))).1))) p.2.2.1)) (fun (x:Three)=>((x.n.a0.id_,(x.n.a0.term_,(x.n.a0.vote,(x.n.a0.base,(x.n.a0.baseTerm,(x.n.a0.snap,(x.n.a0.log,(x.n.a0.role,(x.n.a0.commit,(x.n.a0.wait,(x.n.a0.votes.a0,(x.n.a0.votes.a1,(x.n.a0.votes.a2,(x.n.a0.next.a0,(x.n.a0.next.a1,(x.n.a0.next.a2,(x.n.a0.match_.a0,(x.n.a0.match_.a1,(x.n.a0.match_.a2,(x.n.a1.id_,(x.n.a1.term_,(x.n.a1.vote,(x.n.a1.base,(x.n.a1.baseTerm,(x.n.a1.snap,(x.n.a1.log,(x.n.a1.role,(x.n.a1.commit,(x.n.a1.wait,(x.n.a1.votes.a0,(x.n.a1.votes.a1,(x.n.a1.votes.a2,(x.n.a1.next.a0,(x.n.a1.next.a1,(x.n.a1.next.a2,(x.n.a1.match_.a0,(x.n.a1.match_.a1,(x.n.a1.match_.a2,(x.n.a2.id_,(x.n.a2.term_,(x.n.a2.vote,(x.n.a2.base,(x.n.a2.baseTerm,(x.n.a2.snap,(x.n.a2.log,(x.n.a2.role,(x.n.a2.commit,(x.n.a2.wait,(x.n.a2.votes.a0,(x.n.a2.votes.a1,(x.n.a2.votes.a2,(x.n.a2.next.a0,(x.n.a2.next.a1,(x.n.a2.next.a2,(x.n.a2.match_.a0,(x.n.a2.match_.a1,(x.n.a2.match_.a2,((),())))))))))))))))))))))))))))))))))))))))))))))))))))))))))),((),(x.m,())))) (fun _=>rfl)
def co_threeDo:kT (Bool×Three):=kO (kS 5 (kC kB kN) hc8_Three) (fun p=>(p.1.1,p.2)) (fun (x:Bool×Three)=>((x.1,()),x.2)) (fun _=>rfl)
def un_threeDo (p:Act×Three):Option (Bool×Three):=threeDo p.1 p.2
def sf_threeDo:SFn TL:=SFn.one ch_threeDo.dec un_threeDo .normal co_threeDo.enc
def cs_threeDo:cL:=[(11,df_within),(36,df_l15_toRef),(15,df_tick),(37,df_ref15Tick),(13,df_take),(40,df_l15_toRefMsg),(39,df_ref15Take),(14,df_propose),(41,df_ref15Propose),(22,df_wake),(42,df_ref15Wake),(18,df_compact),(43,df_ref15Compact),(44,df_ref15Same),(45,df_l15_sameMsgs),(16,df_same)]
def env_threeDo:Env:=envOf tab sl sh [(21,fd21),(38,fd38)] [(11,.pure),(36,.keep),(15,.keep),(37,.keep),(13,.keep),(40,.keep),(39,.keep),(14,.keep),(41,.keep),(22,.keep),(42,.keep),(18,.keep),(43,.keep),(44,.pure),(45,.pure),(16,.pure)]
theorem env_threeDo_ok:EnvOK PR (mkD cs_threeDo sZ) env_threeDo:=envOK_of base (aC (st21.okl rfl aN) (aC (st38.okl rfl aN) aN)) (aC (oD ok_within rfl) (aC (oD ok_l15_toRef rfl) (aC (oD ok_tick rfl) (aC (oD ok_ref15Tick rfl) (aC (oD ok_take rfl) (aC (oD ok_l15_toRefMsg rfl) (aC (oD ok_ref15Take rfl) (aC (oD ok_propose rfl) (aC (oD ok_ref15Propose rfl) (aC (oD ok_wake rfl) (aC (oD ok_ref15Wake rfl) (aC (oD ok_compact rfl) (aC (oD ok_ref15Compact rfl) (aC (oD ok_ref15Same rfl) (aC (oD ok_l15_sameMsgs rfl) (aC (oD ok_same rfl) aN))))))))))))))))
theorem run_threeDo (x:Act×Three):Out.run (mkO cs_threeDo sZ) (evSum env_threeDo 12 20 21 (ch_threeDo.enc x)) (back1 co_threeDo)=un_threeDo x:=by kernel_rfl
theorem ok_threeDo:SOK PR 21 sf_threeDo:=sum_one env_threeDo_ok (loops:=12) (n:=20) st21.enters ch_threeDo co_threeDo un_threeDo run_threeDo
def step_L7_7 (l1:List Act)(i1:Int)(b1:Bool)(i2:Int)(m1:Msg)(t1:Three):Option (((List Act)×Int×Bool×Int×Msg×Three)⊕(((Int×Bool×Msg×Three)⊕(Int×Bool×Msg×Three)))) :=
 cond (decide (i2 < (l1.length:Int)))
 (cond (decide (0≤i2))
 (ob (l1[i2.toNat]?) fun e0 =>
 ob (threeDo e0 t1) fun y1 =>
 cond (!y1.1)
 (some (.inr (.inr (i1,false,m1,y1.2))))
 (some (.inl (l1,i1,b1,(w64 (i2+1)),m1,y1.2))))
 none)
 (some (.inr (.inl (i1,b1,m1,t1))))
def stp_L7_7 (p:(List Act)×Int×Bool×Int×Msg×Three):Option (((List Act)×Int×Bool×Int×Msg×Three)⊕(((Int×Bool×Msg×Three)⊕(Int×Bool×Msg×Three)))):=step_L7_7 p.1 p.2.1 p.2.2.1 p.2.2.2.1 p.2.2.2.2.1 p.2.2.2.2.2
def L7_7 (l1:List Act)(i1:Int)(b1:Bool)(i2:Int)(m1:Msg)(t1:Three):Option (((Int×Bool×Msg×Three)⊕(Int×Bool×Msg×Three))):=iterO stp_L7_7 (((l1.length:Int) - i2).toNat+2) (l1,i1,b1,i2,m1,t1)
def step_L7_12 (i1:Int)(b1:Bool)(i2:Int)(m1:Msg)(t1:Three):Option ((Int×Bool×Int×Msg×Three)⊕(((Bool×Msg×Three)⊕(Bool×Msg×Three)))) :=
 cond (decide (i2 < 3))
 (ob (within m1.kind 5) fun r0 =>
 ob (within m1.term_ 5) fun r1 =>
 ob (within i1 4) fun r2 =>
 cond (r2 == 0)
 (ob (within m1.to_ 2) fun r3 =>
 cond (decide (0≤i2) && decide (i2 < 3))
 (ob (take (Node.sel (decide (i2=0)) t1.n.a0 (Node.mk (cond (decide (i2=1)) t1.n.a1.id_ t1.n.a2.id_) (cond (decide (i2=1)) t1.n.a1.term_ t1.n.a2.term_) (cond (decide (i2=1)) t1.n.a1.vote t1.n.a2.vote) (cond (decide (i2=1)) t1.n.a1.base t1.n.a2.base) (cond (decide (i2=1)) t1.n.a1.baseTerm t1.n.a2.baseTerm) (cond (decide (i2=1)) t1.n.a1.snap t1.n.a2.snap) (cond (decide (i2=1)) t1.n.a1.log t1.n.a2.log) (cond (decide (i2=1)) t1.n.a1.role t1.n.a2.role) (cond (decide (i2=1)) t1.n.a1.commit t1.n.a2.commit) (cond (decide (i2=1)) t1.n.a1.wait t1.n.a2.wait) (A3Bool.mk (cond (decide (i2=1)) t1.n.a1.votes.a0 t1.n.a2.votes.a0) (cond (decide (i2=1)) t1.n.a1.votes.a1 t1.n.a2.votes.a1) (cond (decide (i2=1)) t1.n.a1.votes.a2 t1.n.a2.votes.a2)) (A3Int.mk (cond (decide (i2=1)) t1.n.a1.next.a0 t1.n.a2.next.a0) (cond (decide (i2=1)) t1.n.a1.next.a1 t1.n.a2.next.a1) (cond (decide (i2=1)) t1.n.a1.next.a2 t1.n.a2.next.a2)) (A3Int.mk (cond (decide (i2=1)) t1.n.a1.match_.a0 t1.n.a2.match_.a0) (cond (decide (i2=1)) t1.n.a1.match_.a1 t1.n.a2.match_.a1) (cond (decide (i2=1)) t1.n.a1.match_.a2 t1.n.a2.match_.a2)))) (Msg.mk (w64 (1+r0)) ((w64 (i2+1)).tmod 3) ((w64 ((w64 (i2+1))+r3)).tmod 3) r1 m1.index m1.logTerm m1.commit m1.yes m1.entries m1.snap)) fun r6 =>
 cond (decide (0≤i2) && decide (i2 < 3))
 (ob (same r6.1 (Node.sel (decide (i2=0)) t1.n.a0 (Node.mk (cond (decide (i2=1)) t1.n.a1.id_ t1.n.a2.id_) (cond (decide (i2=1)) t1.n.a1.term_ t1.n.a2.term_) (cond (decide (i2=1)) t1.n.a1.vote t1.n.a2.vote) (cond (decide (i2=1)) t1.n.a1.base t1.n.a2.base) (cond (decide (i2=1)) t1.n.a1.baseTerm t1.n.a2.baseTerm) (cond (decide (i2=1)) t1.n.a1.snap t1.n.a2.snap) (cond (decide (i2=1)) t1.n.a1.log t1.n.a2.log) (cond (decide (i2=1)) t1.n.a1.role t1.n.a2.role) (cond (decide (i2=1)) t1.n.a1.commit t1.n.a2.commit) (cond (decide (i2=1)) t1.n.a1.wait t1.n.a2.wait) (A3Bool.mk (cond (decide (i2=1)) t1.n.a1.votes.a0 t1.n.a2.votes.a0) (cond (decide (i2=1)) t1.n.a1.votes.a1 t1.n.a2.votes.a1) (cond (decide (i2=1)) t1.n.a1.votes.a2 t1.n.a2.votes.a2)) (A3Int.mk (cond (decide (i2=1)) t1.n.a1.next.a0 t1.n.a2.next.a0) (cond (decide (i2=1)) t1.n.a1.next.a1 t1.n.a2.next.a1) (cond (decide (i2=1)) t1.n.a1.next.a2 t1.n.a2.next.a2)) (A3Int.mk (cond (decide (i2=1)) t1.n.a1.match_.a0 t1.n.a2.match_.a0) (cond (decide (i2=1)) t1.n.a1.match_.a1 t1.n.a2.match_.a1) (cond (decide (i2=1)) t1.n.a1.match_.a2 t1.n.a2.match_.a2))))) fun r7 =>
 cond (cond (!r7) true ((r6.2.length:Int) != 0))
 (some (.inr (.inr (false,m1,t1))))
 (some (.inl (i1,b1,(w64 (i2+1)),m1,t1))))
 none)
 none)
 (cond (r2 == 1)
 (cond (decide (0≤i2) && decide (i2 < 3))
 (ob (take (Node.sel (decide (i2=0)) t1.n.a0 (Node.mk (cond (decide (i2=1)) t1.n.a1.id_ t1.n.a2.id_) (cond (decide (i2=1)) t1.n.a1.term_ t1.n.a2.term_) (cond (decide (i2=1)) t1.n.a1.vote t1.n.a2.vote) (cond (decide (i2=1)) t1.n.a1.base t1.n.a2.base) (cond (decide (i2=1)) t1.n.a1.baseTerm t1.n.a2.baseTerm) (cond (decide (i2=1)) t1.n.a1.snap t1.n.a2.snap) (cond (decide (i2=1)) t1.n.a1.log t1.n.a2.log) (cond (decide (i2=1)) t1.n.a1.role t1.n.a2.role) (cond (decide (i2=1)) t1.n.a1.commit t1.n.a2.commit) (cond (decide (i2=1)) t1.n.a1.wait t1.n.a2.wait) (A3Bool.mk (cond (decide (i2=1)) t1.n.a1.votes.a0 t1.n.a2.votes.a0) (cond (decide (i2=1)) t1.n.a1.votes.a1 t1.n.a2.votes.a1) (cond (decide (i2=1)) t1.n.a1.votes.a2 t1.n.a2.votes.a2)) (A3Int.mk (cond (decide (i2=1)) t1.n.a1.next.a0 t1.n.a2.next.a0) (cond (decide (i2=1)) t1.n.a1.next.a1 t1.n.a2.next.a1) (cond (decide (i2=1)) t1.n.a1.next.a2 t1.n.a2.next.a2)) (A3Int.mk (cond (decide (i2=1)) t1.n.a1.match_.a0 t1.n.a2.match_.a0) (cond (decide (i2=1)) t1.n.a1.match_.a1 t1.n.a2.match_.a1) (cond (decide (i2=1)) t1.n.a1.match_.a2 t1.n.a2.match_.a2)))) (Msg.mk (w64 (1+r0)) i2 i2 r1 m1.index m1.logTerm m1.commit m1.yes m1.entries m1.snap)) fun r8 =>
 cond (decide (0≤i2) && decide (i2 < 3))
 (ob (same r8.1 (Node.sel (decide (i2=0)) t1.n.a0 (Node.mk (cond (decide (i2=1)) t1.n.a1.id_ t1.n.a2.id_) (cond (decide (i2=1)) t1.n.a1.term_ t1.n.a2.term_) (cond (decide (i2=1)) t1.n.a1.vote t1.n.a2.vote) (cond (decide (i2=1)) t1.n.a1.base t1.n.a2.base) (cond (decide (i2=1)) t1.n.a1.baseTerm t1.n.a2.baseTerm) (cond (decide (i2=1)) t1.n.a1.snap t1.n.a2.snap) (cond (decide (i2=1)) t1.n.a1.log t1.n.a2.log) (cond (decide (i2=1)) t1.n.a1.role t1.n.a2.role) (cond (decide (i2=1)) t1.n.a1.commit t1.n.a2.commit) (cond (decide (i2=1)) t1.n.a1.wait t1.n.a2.wait) (A3Bool.mk (cond (decide (i2=1)) t1.n.a1.votes.a0 t1.n.a2.votes.a0) (cond (decide (i2=1)) t1.n.a1.votes.a1 t1.n.a2.votes.a1) (cond (decide (i2=1)) t1.n.a1.votes.a2 t1.n.a2.votes.a2)) (A3Int.mk (cond (decide (i2=1)) t1.n.a1.next.a0 t1.n.a2.next.a0) (cond (decide (i2=1)) t1.n.a1.next.a1 t1.n.a2.next.a1) (cond (decide (i2=1)) t1.n.a1.next.a2 t1.n.a2.next.a2)) (A3Int.mk (cond (decide (i2=1)) t1.n.a1.match_.a0 t1.n.a2.match_.a0) (cond (decide (i2=1)) t1.n.a1.match_.a1 t1.n.a2.match_.a1) (cond (decide (i2=1)) t1.n.a1.match_.a2 t1.n.a2.match_.a2))))) fun r9 =>
 cond (cond (!r9) true ((r8.2.length:Int) != 0))
 (some (.inr (.inr (false,m1,t1))))
 (some (.inl (i1,b1,(w64 (i2+1)),m1,t1))))
 none)
 none)
 (cond (r2 == 2)
 (ob (within m1.kind 9) fun r4 =>
 cond (decide (0≤i2) && decide (i2 < 3))
 (ob (take (Node.sel (decide (i2=0)) t1.n.a0 (Node.mk (cond (decide (i2=1)) t1.n.a1.id_ t1.n.a2.id_) (cond (decide (i2=1)) t1.n.a1.term_ t1.n.a2.term_) (cond (decide (i2=1)) t1.n.a1.vote t1.n.a2.vote) (cond (decide (i2=1)) t1.n.a1.base t1.n.a2.base) (cond (decide (i2=1)) t1.n.a1.baseTerm t1.n.a2.baseTerm) (cond (decide (i2=1)) t1.n.a1.snap t1.n.a2.snap) (cond (decide (i2=1)) t1.n.a1.log t1.n.a2.log) (cond (decide (i2=1)) t1.n.a1.role t1.n.a2.role) (cond (decide (i2=1)) t1.n.a1.commit t1.n.a2.commit) (cond (decide (i2=1)) t1.n.a1.wait t1.n.a2.wait) (A3Bool.mk (cond (decide (i2=1)) t1.n.a1.votes.a0 t1.n.a2.votes.a0) (cond (decide (i2=1)) t1.n.a1.votes.a1 t1.n.a2.votes.a1) (cond (decide (i2=1)) t1.n.a1.votes.a2 t1.n.a2.votes.a2)) (A3Int.mk (cond (decide (i2=1)) t1.n.a1.next.a0 t1.n.a2.next.a0) (cond (decide (i2=1)) t1.n.a1.next.a1 t1.n.a2.next.a1) (cond (decide (i2=1)) t1.n.a1.next.a2 t1.n.a2.next.a2)) (A3Int.mk (cond (decide (i2=1)) t1.n.a1.match_.a0 t1.n.a2.match_.a0) (cond (decide (i2=1)) t1.n.a1.match_.a1 t1.n.a2.match_.a1) (cond (decide (i2=1)) t1.n.a1.match_.a2 t1.n.a2.match_.a2)))) (Msg.mk (w64 (6+r4)) ((w64 (i2+1)).tmod 3) i2 r1 m1.index m1.logTerm m1.commit m1.yes m1.entries m1.snap)) fun r10 =>
 cond (decide (0≤i2) && decide (i2 < 3))
 (ob (same r10.1 (Node.sel (decide (i2=0)) t1.n.a0 (Node.mk (cond (decide (i2=1)) t1.n.a1.id_ t1.n.a2.id_) (cond (decide (i2=1)) t1.n.a1.term_ t1.n.a2.term_) (cond (decide (i2=1)) t1.n.a1.vote t1.n.a2.vote) (cond (decide (i2=1)) t1.n.a1.base t1.n.a2.base) (cond (decide (i2=1)) t1.n.a1.baseTerm t1.n.a2.baseTerm) (cond (decide (i2=1)) t1.n.a1.snap t1.n.a2.snap) (cond (decide (i2=1)) t1.n.a1.log t1.n.a2.log) (cond (decide (i2=1)) t1.n.a1.role t1.n.a2.role) (cond (decide (i2=1)) t1.n.a1.commit t1.n.a2.commit) (cond (decide (i2=1)) t1.n.a1.wait t1.n.a2.wait) (A3Bool.mk (cond (decide (i2=1)) t1.n.a1.votes.a0 t1.n.a2.votes.a0) (cond (decide (i2=1)) t1.n.a1.votes.a1 t1.n.a2.votes.a1) (cond (decide (i2=1)) t1.n.a1.votes.a2 t1.n.a2.votes.a2)) (A3Int.mk (cond (decide (i2=1)) t1.n.a1.next.a0 t1.n.a2.next.a0) (cond (decide (i2=1)) t1.n.a1.next.a1 t1.n.a2.next.a1) (cond (decide (i2=1)) t1.n.a1.next.a2 t1.n.a2.next.a2)) (A3Int.mk (cond (decide (i2=1)) t1.n.a1.match_.a0 t1.n.a2.match_.a0) (cond (decide (i2=1)) t1.n.a1.match_.a1 t1.n.a2.match_.a1) (cond (decide (i2=1)) t1.n.a1.match_.a2 t1.n.a2.match_.a2))))) fun r11 =>
 cond (cond (!r11) true ((r10.2.length:Int) != 0))
 (some (.inr (.inr (false,m1,t1))))
 (some (.inl (i1,b1,(w64 (i2+1)),m1,t1))))
 none)
 none)
 (cond (r2 == 3)
 (ob (within m1.term_ 9) fun r5 =>
 cond (decide (0≤i2) && decide (i2 < 3))
 (ob (take (Node.sel (decide (i2=0)) t1.n.a0 (Node.mk (cond (decide (i2=1)) t1.n.a1.id_ t1.n.a2.id_) (cond (decide (i2=1)) t1.n.a1.term_ t1.n.a2.term_) (cond (decide (i2=1)) t1.n.a1.vote t1.n.a2.vote) (cond (decide (i2=1)) t1.n.a1.base t1.n.a2.base) (cond (decide (i2=1)) t1.n.a1.baseTerm t1.n.a2.baseTerm) (cond (decide (i2=1)) t1.n.a1.snap t1.n.a2.snap) (cond (decide (i2=1)) t1.n.a1.log t1.n.a2.log) (cond (decide (i2=1)) t1.n.a1.role t1.n.a2.role) (cond (decide (i2=1)) t1.n.a1.commit t1.n.a2.commit) (cond (decide (i2=1)) t1.n.a1.wait t1.n.a2.wait) (A3Bool.mk (cond (decide (i2=1)) t1.n.a1.votes.a0 t1.n.a2.votes.a0) (cond (decide (i2=1)) t1.n.a1.votes.a1 t1.n.a2.votes.a1) (cond (decide (i2=1)) t1.n.a1.votes.a2 t1.n.a2.votes.a2)) (A3Int.mk (cond (decide (i2=1)) t1.n.a1.next.a0 t1.n.a2.next.a0) (cond (decide (i2=1)) t1.n.a1.next.a1 t1.n.a2.next.a1) (cond (decide (i2=1)) t1.n.a1.next.a2 t1.n.a2.next.a2)) (A3Int.mk (cond (decide (i2=1)) t1.n.a1.match_.a0 t1.n.a2.match_.a0) (cond (decide (i2=1)) t1.n.a1.match_.a1 t1.n.a2.match_.a1) (cond (decide (i2=1)) t1.n.a1.match_.a2 t1.n.a2.match_.a2)))) (Msg.mk (w64 (1+r0)) ((w64 (i2+1)).tmod 3) i2 (w64 (1073741825+r5)) m1.index m1.logTerm m1.commit m1.yes m1.entries m1.snap)) fun r12 =>
 cond (decide (0≤i2) && decide (i2 < 3))
 (ob (same r12.1 (Node.sel (decide (i2=0)) t1.n.a0 (Node.mk (cond (decide (i2=1)) t1.n.a1.id_ t1.n.a2.id_) (cond (decide (i2=1)) t1.n.a1.term_ t1.n.a2.term_) (cond (decide (i2=1)) t1.n.a1.vote t1.n.a2.vote) (cond (decide (i2=1)) t1.n.a1.base t1.n.a2.base) (cond (decide (i2=1)) t1.n.a1.baseTerm t1.n.a2.baseTerm) (cond (decide (i2=1)) t1.n.a1.snap t1.n.a2.snap) (cond (decide (i2=1)) t1.n.a1.log t1.n.a2.log) (cond (decide (i2=1)) t1.n.a1.role t1.n.a2.role) (cond (decide (i2=1)) t1.n.a1.commit t1.n.a2.commit) (cond (decide (i2=1)) t1.n.a1.wait t1.n.a2.wait) (A3Bool.mk (cond (decide (i2=1)) t1.n.a1.votes.a0 t1.n.a2.votes.a0) (cond (decide (i2=1)) t1.n.a1.votes.a1 t1.n.a2.votes.a1) (cond (decide (i2=1)) t1.n.a1.votes.a2 t1.n.a2.votes.a2)) (A3Int.mk (cond (decide (i2=1)) t1.n.a1.next.a0 t1.n.a2.next.a0) (cond (decide (i2=1)) t1.n.a1.next.a1 t1.n.a2.next.a1) (cond (decide (i2=1)) t1.n.a1.next.a2 t1.n.a2.next.a2)) (A3Int.mk (cond (decide (i2=1)) t1.n.a1.match_.a0 t1.n.a2.match_.a0) (cond (decide (i2=1)) t1.n.a1.match_.a1 t1.n.a2.match_.a1) (cond (decide (i2=1)) t1.n.a1.match_.a2 t1.n.a2.match_.a2))))) fun r13 =>
 cond (cond (!r13) true ((r12.2.length:Int) != 0))
 (some (.inr (.inr (false,m1,t1))))
 (some (.inl (i1,b1,(w64 (i2+1)),m1,t1))))
 none)
 none)
 (cond (decide (0≤i2) && decide (i2 < 3))
 (ob (take (Node.sel (decide (i2=0)) t1.n.a0 (Node.mk (cond (decide (i2=1)) t1.n.a1.id_ t1.n.a2.id_) (cond (decide (i2=1)) t1.n.a1.term_ t1.n.a2.term_) (cond (decide (i2=1)) t1.n.a1.vote t1.n.a2.vote) (cond (decide (i2=1)) t1.n.a1.base t1.n.a2.base) (cond (decide (i2=1)) t1.n.a1.baseTerm t1.n.a2.baseTerm) (cond (decide (i2=1)) t1.n.a1.snap t1.n.a2.snap) (cond (decide (i2=1)) t1.n.a1.log t1.n.a2.log) (cond (decide (i2=1)) t1.n.a1.role t1.n.a2.role) (cond (decide (i2=1)) t1.n.a1.commit t1.n.a2.commit) (cond (decide (i2=1)) t1.n.a1.wait t1.n.a2.wait) (A3Bool.mk (cond (decide (i2=1)) t1.n.a1.votes.a0 t1.n.a2.votes.a0) (cond (decide (i2=1)) t1.n.a1.votes.a1 t1.n.a2.votes.a1) (cond (decide (i2=1)) t1.n.a1.votes.a2 t1.n.a2.votes.a2)) (A3Int.mk (cond (decide (i2=1)) t1.n.a1.next.a0 t1.n.a2.next.a0) (cond (decide (i2=1)) t1.n.a1.next.a1 t1.n.a2.next.a1) (cond (decide (i2=1)) t1.n.a1.next.a2 t1.n.a2.next.a2)) (A3Int.mk (cond (decide (i2=1)) t1.n.a1.match_.a0 t1.n.a2.match_.a0) (cond (decide (i2=1)) t1.n.a1.match_.a1 t1.n.a2.match_.a1) (cond (decide (i2=1)) t1.n.a1.match_.a2 t1.n.a2.match_.a2)))) (Msg.mk (w64 (1+r0)) ((w64 (i2+1)).tmod 3) i2 r1 m1.index m1.logTerm m1.commit m1.yes m1.entries m1.snap)) fun r14 =>
 cond (decide (0≤i2) && decide (i2 < 3))
 (ob (same r14.1 (Node.sel (decide (i2=0)) t1.n.a0 (Node.mk (cond (decide (i2=1)) t1.n.a1.id_ t1.n.a2.id_) (cond (decide (i2=1)) t1.n.a1.term_ t1.n.a2.term_) (cond (decide (i2=1)) t1.n.a1.vote t1.n.a2.vote) (cond (decide (i2=1)) t1.n.a1.base t1.n.a2.base) (cond (decide (i2=1)) t1.n.a1.baseTerm t1.n.a2.baseTerm) (cond (decide (i2=1)) t1.n.a1.snap t1.n.a2.snap) (cond (decide (i2=1)) t1.n.a1.log t1.n.a2.log) (cond (decide (i2=1)) t1.n.a1.role t1.n.a2.role) (cond (decide (i2=1)) t1.n.a1.commit t1.n.a2.commit) (cond (decide (i2=1)) t1.n.a1.wait t1.n.a2.wait) (A3Bool.mk (cond (decide (i2=1)) t1.n.a1.votes.a0 t1.n.a2.votes.a0) (cond (decide (i2=1)) t1.n.a1.votes.a1 t1.n.a2.votes.a1) (cond (decide (i2=1)) t1.n.a1.votes.a2 t1.n.a2.votes.a2)) (A3Int.mk (cond (decide (i2=1)) t1.n.a1.next.a0 t1.n.a2.next.a0) (cond (decide (i2=1)) t1.n.a1.next.a1 t1.n.a2.next.a1) (cond (decide (i2=1)) t1.n.a1.next.a2 t1.n.a2.next.a2)) (A3Int.mk (cond (decide (i2=1)) t1.n.a1.match_.a0 t1.n.a2.match_.a0) (cond (decide (i2=1)) t1.n.a1.match_.a1 t1.n.a2.match_.a1) (cond (decide (i2=1)) t1.n.a1.match_.a2 t1.n.a2.match_.a2))))) fun r15 =>
 cond (cond (!r15) true ((r14.2.length:Int) != 0))
 (some (.inr (.inr (false,m1,t1))))
 (some (.inl (i1,b1,(w64 (i2+1)),m1,t1))))
 none)
 none)))))
 (some (.inr (.inl (b1,m1,t1))))
def stp_L7_12 (p:Int×Bool×Int×Msg×Three):Option ((Int×Bool×Int×Msg×Three)⊕(((Bool×Msg×Three)⊕(Bool×Msg×Three)))):=step_L7_12 p.1 p.2.1 p.2.2.1 p.2.2.2.1 p.2.2.2.2
def L7_12 (i1:Int)(b1:Bool)(i2:Int)(m1:Msg)(t1:Three):Option (((Bool×Msg×Three)⊕(Bool×Msg×Three))):=iterO stp_L7_12 ((3 - i2).toNat+2) (i1,b1,i2,m1,t1)
def replicaTakes (l1:List Act)(m1:Msg)(i1:Int):Option Bool :=
 ob (known) fun r0 =>
 cond (!r0)
 (some false)
 (ob (l15Few l1) fun r1 =>
 cond (cond (!r1) true (cond (decide ((l1.length:Int) > 100)) true (cond (decide ((m1.entries.length:Int) > 20)) true (decide ((m1.snap.size:Int) > 200)))))
 (some true)
 (ob (L7_7 l1 i1 false 0 m1 (Three.mk (A3Node.mk (Node.mk 0 0 (-1) 0 0 s_empty [] 0 0 0 (A3Bool.mk false false false) (A3Int.mk 0 0 0) (A3Int.mk 0 0 0)) (Node.mk 1 0 (-1) 0 0 s_empty [] 0 0 0 (A3Bool.mk false false false) (A3Int.mk 0 0 0) (A3Int.mk 0 0 0)) (Node.mk 2 0 (-1) 0 0 s_empty [] 0 0 0 (A3Bool.mk false false false) (A3Int.mk 0 0 0) (A3Int.mk 0 0 0))) [])) fun y2 =>
 two y2 (fun a3 =>
 ob (L7_12 a3.1 a3.2.1 0 a3.2.2.1 a3.2.2.2) fun y5 =>
 two y5 (fun _ =>
 some true) (fun b7 =>
 some b7.1)) (fun b4 =>
 some b4.2.1)))
abbrev tY11:=(List Act)×Bool×Int×Three
def step_L8_7 (l1:List Act)(b1:Bool)(i1:Int)(t1:Three):Option ((tY11)⊕(((Bool×Three)⊕(Bool×Three)))) :=
 cond (decide (i1 < (l1.length:Int)))
 (cond (decide (0≤i1))
 (ob (l1[i1.toNat]?) fun e0 =>
 ob (threeDo e0 t1) fun y1 =>
 cond (!y1.1)
 (some (.inr (.inr (false,y1.2))))
 (some (.inl (l1,b1,(w64 (i1+1)),y1.2))))
 none)
 (some (.inr (.inl (b1,t1))))
def stp_L8_7 (p:tY11):Option ((tY11)⊕(((Bool×Three)⊕(Bool×Three)))):=step_L8_7 p.1 p.2.1 p.2.2.1 p.2.2.2
def L8_7 (l1:List Act)(b1:Bool)(i1:Int)(t1:Three):Option (((Bool×Three)⊕(Bool×Three))):=iterO stp_L8_7 (((l1.length:Int) - i1).toNat+2) (l1,b1,i1,t1)
def ch_L8_7:kT (tY11):=kO (kS 2 (kC (kF j_lAct) (kC kB (kC (kP 0 0) (kC kI kN)))) hc7_Three) (fun p=>(p.1.1,p.1.2.1,p.1.2.2.2.1,p.2)) (fun (x:tY11)=>((x.1,(x.2.1,((),(x.2.2.1,())))),x.2.2.2)) (fun _=>rfl)
def hc9_Three:Cod (List (Nat×En TL)) Three:=kO (kC (Cod.var 0 61 (kC kJ (kC kJ (kC kJ (kC kJ (kC kJ (kC kE (kC (kG j_lEntry) (kC kJ (kC kJ (kC kJ (kC kD (kC kD (kC kD (kC kJ (kC kJ (kC kJ (kC kJ (kC kJ (kC kJ (kC kJ (kC kJ (kC kJ (kC kJ (kC kJ (kC kE (kC (kG j_lEntry) (kC kJ (kC kJ (kC kJ (kC kD (kC kD (kC kD (kC kJ (kC kJ (kC kJ (kC kJ (kC kJ (kC kJ (kC kJ (kC kJ (kC kJ (kC kJ (kC kJ (kC kE (kC (kG j_lEntry) (kC kJ (kC kJ (kC kJ (kC kD (kC kD (kC kD (kC kJ (kC kJ (kC kJ (kC kJ (kC kJ (kC kJ (kC (kA 3) kN))))))))))))))))))))))))))))))))))))))))))))))))))))))))))) (kC (kR 3 39 j_lMsg) kN)) (fun p=>(Three.mk (A3Node.mk (Node.mk p.1.1 p.1.2.1 p.1.2.2.1 p.1.2.2.2.1 p.1.2.2.2.2.1 p.1.2.2.2.2.2.1 p.1.2.2.2.2.2.2.1 p.1.2.2.2.2.2.2.2.1 (t8 p.1).1 (t8 p.1).2.1 (A3Bool.mk (t8 p.1).2.2.1 (t8 p.1).2.2.2.1 (t8 p.1).2.2.2.2.1) (A3Int.mk (t8 p.1).2.2.2.2.2.1 (t8 p.1).2.2.2.2.2.2.1 (t8 p.1).2.2.2.2.2.2.2.1) (A3Int.mk (t8 (t8 p.1)).1 (t8 (t8 p.1)).2.1 (t8 (t8 p.1)).2.2.1)) (Node.mk (t8 (t8 p.1)).2.2.2.1 (t8 (t8 p.1)).2.2.2.2.1 (t8 (t8 p.1)).2.2.2.2.2.1 (t8 (t8 p.1)).2.2.2.2.2.2.1 (t8 (t8 p.1)).2.2.2.2.2.2.2.1 (t8 (t8 (t8 p.1))).1 (t8 (t8 (t8 p.1))).2.1 (t8 (t8 (t8 p.1))).2.2.1 (t8 (t8 (t8 p.1))).2.2.2.1 (t8 (t8 (t8 p.1))).2.2.2.2.1 (A3Bool.mk (t8 (t8 (t8 p.1))).2.2.2.2.2.1 (t8 (t8 (t8 p.1))).2.2.2.2.2.2.1 (t8 (t8 (t8 p.1))).2.2.2.2.2.2.2.1) (A3Int.mk (t32 p.1).1 (t32 p.1).2.1 (t32 p.1).2.2.1) (A3Int.mk (t32 p.1).2.2.2.1 (t32 p.1).2.2.2.2.1 (t32 p.1).2.2.2.2.2.1)) (Node.mk (t32 p.1).2.2.2.2.2.2.1 (t32 p.1).2.2.2.2.2.2.2.1 (t8 (t32 p.1)).1 (t8 (t32 p.1)).2.1 (t8 (t32 p.1)).2.2.1 (t8 (t32 p.1)).2.2.2.1 (t8 (t32 p.1)).2.2.2.2.1 (t8 (t32 p.1)).2.2.2.2.2.1 (t8 (t32 p.1)).2.2.2.2.2.2.1 (t8 (t32 p.1)).2.2.2.2.2.2.2.1 (A3Bool.mk (t8 (t8 (t32 p.1))).1 (t8 (t8 (t32 p.1))).2.1 (t8 (t8 (t32 p.1))).2.2.1) (A3Int.mk (t8 (t8 (t32 p.1))).2.2.2.1 (t8 (t8 (t32 p.1))).2.2.2.2.1 (t8 (t8 (t32 p.1))).2.2.2.2.2.1) (A3Int.mk (t8 (t8 (t32 p.1))).2.2.2.2.2.2.1 (t8 (t8 (t32 p.1))).2.2.2.2.2.2.2.1 (t8 (t8 (t8 (t32 p.1)))).1))) p.2.1)) (fun (x:Three)=>((x.n.a0.id_,(x.n.a0.term_,(x.n.a0.vote,(x.n.a0.base,(x.n.a0.baseTerm,(x.n.a0.snap,(x.n.a0.log,(x.n.a0.role,(x.n.a0.commit,(x.n.a0.wait,(x.n.a0.votes.a0,(x.n.a0.votes.a1,(x.n.a0.votes.a2,(x.n.a0.next.a0,(x.n.a0.next.a1,(x.n.a0.next.a2,(x.n.a0.match_.a0,(x.n.a0.match_.a1,(x.n.a0.match_.a2,(x.n.a1.id_,(x.n.a1.term_,(x.n.a1.vote,(x.n.a1.base,(x.n.a1.baseTerm,(x.n.a1.snap,(x.n.a1.log,(x.n.a1.role,(x.n.a1.commit,(x.n.a1.wait,(x.n.a1.votes.a0,(x.n.a1.votes.a1,(x.n.a1.votes.a2,(x.n.a1.next.a0,(x.n.a1.next.a1,(x.n.a1.next.a2,(x.n.a1.match_.a0,(x.n.a1.match_.a1,(x.n.a1.match_.a2,(x.n.a2.id_,(x.n.a2.term_,(x.n.a2.vote,(x.n.a2.base,(x.n.a2.baseTerm,(x.n.a2.snap,(x.n.a2.log,(x.n.a2.role,(x.n.a2.commit,(x.n.a2.wait,(x.n.a2.votes.a0,(x.n.a2.votes.a1,(x.n.a2.votes.a2,(x.n.a2.next.a0,(x.n.a2.next.a1,(x.n.a2.next.a2,(x.n.a2.match_.a0,(x.n.a2.match_.a1,(x.n.a2.match_.a2,((),())))))))))))))))))))))))))))))))))))))))))))))))))))))))))),(x.m,()))) (fun _=>rfl)
def co0_L8_7:kT (Bool×Three):=kO (kS 4 (kC kB (kC (kP 0 0) kN)) hc9_Three) (fun p=>(p.1.1,p.2)) (fun (x:Bool×Three)=>((x.1,((),())),x.2)) (fun _=>rfl)
def sl_L8_7:SFn TL:=SFn.two ch_L8_7.dec (fun p=>L8_7 p.1 p.2.1 p.2.2.1 p.2.2.2) (.exit 0) .ret co0_L8_7.enc co0_L8_7.enc
def ss_lL8_7:sL:=[(21,sf_threeDo)]
def v_L8_7:Env:=envOf tab sl sh [] [(21,.sum)]
theorem v_L8_7_ok:EnvOK PR (mkD cZ ss_lL8_7) v_L8_7:=envOK_of base aN (aC (okS rfl ok_threeDo) aN)
theorem run_L8_7 (x:tY11):Out.run (mkO cZ ss_lL8_7) (evRound v_L8_7 12 20 fd8.an q_L8_7 (loopIn (loopsOf fd8.body) 7) (ch_L8_7.enc x)) (back2 ch_L8_7 co0_L8_7 co0_L8_7 (.exit 0) .ret)=stp_L8_7 x:=by kernel_rfl
theorem ok_L8_7:LoopOK PR (oneS sl_L8_7) nt8 q_L8_7 (loopIn (loopsOf fd8.body) 7) :=
  loop_two v_L8_7_ok (loops:=12) (k:=20) (an:=fd8.an) (by kernel_rfl) (FnSt.subl rfl st8.keys (aC (.inl (by kernel_rfl)) (aC (.inl (by kernel_rfl)) aN))) ch_L8_7 co0_L8_7 co0_L8_7 (.exit 0) .ret rfl rfl stp_L8_7 _ run_L8_7 (fun x y h=>⟨_,h⟩) (fun _=>below_iff.1 rfl)
def step_L8_12 (b1:Bool)(i1:Int)(t1:Three):Option ((Bool×Int×Three)⊕(((Bool×Three)⊕(Bool×Three)))) :=
 cond (decide (i1 < 3))
 (cond (decide (0≤i1) && decide (i1 < 3))
 (cond (decide (0≤i1) && decide (i1 < 3))
 (ob (wake (Node.sel (decide (i1=0)) t1.n.a0 (Node.mk (cond (decide (i1=1)) t1.n.a1.id_ t1.n.a2.id_) (cond (decide (i1=1)) t1.n.a1.term_ t1.n.a2.term_) (cond (decide (i1=1)) t1.n.a1.vote t1.n.a2.vote) (cond (decide (i1=1)) t1.n.a1.base t1.n.a2.base) (cond (decide (i1=1)) t1.n.a1.baseTerm t1.n.a2.baseTerm) (cond (decide (i1=1)) t1.n.a1.snap t1.n.a2.snap) (cond (decide (i1=1)) t1.n.a1.log t1.n.a2.log) (cond (decide (i1=1)) t1.n.a1.role t1.n.a2.role) (cond (decide (i1=1)) t1.n.a1.commit t1.n.a2.commit) (cond (decide (i1=1)) t1.n.a1.wait t1.n.a2.wait) (A3Bool.mk (cond (decide (i1=1)) t1.n.a1.votes.a0 t1.n.a2.votes.a0) (cond (decide (i1=1)) t1.n.a1.votes.a1 t1.n.a2.votes.a1) (cond (decide (i1=1)) t1.n.a1.votes.a2 t1.n.a2.votes.a2)) (A3Int.mk (cond (decide (i1=1)) t1.n.a1.next.a0 t1.n.a2.next.a0) (cond (decide (i1=1)) t1.n.a1.next.a1 t1.n.a2.next.a1) (cond (decide (i1=1)) t1.n.a1.next.a2 t1.n.a2.next.a2)) (A3Int.mk (cond (decide (i1=1)) t1.n.a1.match_.a0 t1.n.a2.match_.a0) (cond (decide (i1=1)) t1.n.a1.match_.a1 t1.n.a2.match_.a1) (cond (decide (i1=1)) t1.n.a1.match_.a2 t1.n.a2.match_.a2))))) fun r0 =>
 cond (r0.term_ != (cond (decide (i1=0)) t1.n.a0.term_ (cond (decide (i1=1)) t1.n.a1.term_ t1.n.a2.term_)))
 (some (.inr (.inr (false,t1))))
 (cond (r0.vote != (cond (decide (i1=0)) t1.n.a0.vote (cond (decide (i1=1)) t1.n.a1.vote t1.n.a2.vote)))
 (some (.inr (.inr (false,t1))))
 (cond (r0.commit != (cond (decide (i1=0)) t1.n.a0.commit (cond (decide (i1=1)) t1.n.a1.commit t1.n.a2.commit)))
 (some (.inr (.inr (false,t1))))
 (cond (r0.base != (cond (decide (i1=0)) t1.n.a0.base (cond (decide (i1=1)) t1.n.a1.base t1.n.a2.base)))
 (some (.inr (.inr (false,t1))))
 (cond (!sEq r0.snap (cond (decide (i1=0)) t1.n.a0.snap (cond (decide (i1=1)) t1.n.a1.snap t1.n.a2.snap)))
 (some (.inr (.inr (false,t1))))
 (cond ((r0.log.length:Int) != ((cond (decide (i1=0)) t1.n.a0.log (cond (decide (i1=1)) t1.n.a1.log t1.n.a2.log)).length:Int))
 (some (.inr (.inr (false,t1))))
 (cond (r0.role != 0)
 (some (.inr (.inr (false,t1))))
 (cond (r0.wait != 0)
 (some (.inr (.inr (false,t1))))
 (cond (!(cond (r0.votes.a0 == false) (cond (r0.votes.a1 == false) (cond (r0.votes.a2 == false) true false) false) false))
 (some (.inr (.inr (false,t1))))
 (cond (!(cond (r0.next.a0 == 0) (cond (r0.next.a1 == 0) (cond (r0.next.a2 == 0) true false) false) false))
 (some (.inr (.inr (false,t1))))
 (cond (!(cond (r0.match_.a0 == 0) (cond (r0.match_.a1 == 0) (cond (r0.match_.a2 == 0) true false) false) false))
 (some (.inr (.inr (false,t1))))
 (ob (wake r0) fun r1 =>
 ob (same r0 r1) fun r2 =>
 cond (!r2)
 (some (.inr (.inr (false,t1))))
 (some (.inl (b1,(w64 (i1+1)),t1)))))))))))))))
 none)
 none)
 (some (.inr (.inl (b1,t1))))
def stp_L8_12 (p:Bool×Int×Three):Option ((Bool×Int×Three)⊕(((Bool×Three)⊕(Bool×Three)))):=step_L8_12 p.1 p.2.1 p.2.2
def L8_12 (b1:Bool)(i1:Int)(t1:Three):Option (((Bool×Three)⊕(Bool×Three))):=iterO stp_L8_12 ((3 - i1).toNat+2) (b1,i1,t1)
def ch_L8_12:kT (Bool×Int×Three):=kO (kS 2 (kC kB (kC (kP 0 0) (kC kI kN))) hc7_Three) (fun p=>(p.1.1,p.1.2.2.1,p.2)) (fun (x:Bool×Int×Three)=>((x.1,((),(x.2.1,()))),x.2.2)) (fun _=>rfl)
def co0_L8_12:kT (Bool×Three):=kO (kS 4 (kC kB kN) hc9_Three) (fun p=>(p.1.1,p.2)) (fun (x:Bool×Three)=>((x.1,()),x.2)) (fun _=>rfl)
def sl_L8_12:SFn TL:=SFn.two ch_L8_12.dec (fun p=>L8_12 p.1 p.2.1 p.2.2) (.exit 2) .ret co0_L8_12.enc co0_L8_12.enc
def cs_lL8_12:cL:=[(22,df_wake),(16,df_same)]
def v_L8_12:Env:=envOf tab sl sh [] [(22,.keep),(16,.pure)]
theorem v_L8_12_ok:EnvOK PR (mkD cs_lL8_12 sZ) v_L8_12:=envOK_of base aN (aC (oD ok_wake rfl) (aC (oD ok_same rfl) aN))
theorem run_L8_12 (x:Bool×Int×Three):Out.run (mkO cs_lL8_12 sZ) (evRound v_L8_12 12 20 fd8.an q_L8_12 (loopIn (loopsOf fd8.body) 12) (ch_L8_12.enc x)) (back2 ch_L8_12 co0_L8_12 co0_L8_12 (.exit 2) .ret)=stp_L8_12 x:=by kernel_rfl
theorem ok_L8_12:LoopOK PR (oneS sl_L8_12) nt8 q_L8_12 (loopIn (loopsOf fd8.body) 12) :=
  loop_two v_L8_12_ok (loops:=12) (k:=20) (an:=fd8.an) (by kernel_rfl) (FnSt.subl rfl st8.keys (aC (.inl (by kernel_rfl)) (aC (.inl (by kernel_rfl)) aN))) ch_L8_12 co0_L8_12 co0_L8_12 (.exit 2) .ret rfl rfl stp_L8_12 _ run_L8_12 (fun x y h=>⟨_,h⟩) (fun _=>below_iff.1 rfl)
def replicaWakes (l1:List Act):Option Bool :=
 ob (known) fun r0 =>
 cond (!r0)
 (some false)
 (ob (l15Few l1) fun r1 =>
 cond (cond (!r1) true (decide ((l1.length:Int) > 150)))
 (some true)
 (ob (L8_7 l1 false 0 (Three.mk (A3Node.mk (Node.mk 0 0 (-1) 0 0 s_empty [] 0 0 0 (A3Bool.mk false false false) (A3Int.mk 0 0 0) (A3Int.mk 0 0 0)) (Node.mk 1 0 (-1) 0 0 s_empty [] 0 0 0 (A3Bool.mk false false false) (A3Int.mk 0 0 0) (A3Int.mk 0 0 0)) (Node.mk 2 0 (-1) 0 0 s_empty [] 0 0 0 (A3Bool.mk false false false) (A3Int.mk 0 0 0) (A3Int.mk 0 0 0))) [])) fun y2 =>
 two y2 (fun a3 =>
 ob (L8_12 a3.1 0 a3.2) fun y5 =>
 two y5 (fun _ =>
 some true) (fun b7 =>
 some b7.1)) (fun b4 =>
 some b4.1)))
def un_replicaWakes (p:(List Act)):Option Bool:=replicaWakes p
def df_replicaWakes:DFn TL:=DFn.of (DA.one (DT.one di_lAct)) un_replicaWakes (DA.one dB)
theorem run_replicaWakes:DRun [(9,df_known),(19,df_l15Few)] [(108007,sl_L8_7),(108012,sl_L8_12)] (envOf tab sl sh [(8,fd8),(20,fd20),(10,fd10)] [(9,.pure),(19,.pure)]) 8 (DA.one (DT.one di_lAct)) un_replicaWakes (DA.one dB):=fun _=>by kernel_rfl
theorem ok_replicaWakes:DOK PR 8 .pure df_replicaWakes:=dok run_replicaWakes (envOK_of base (aC (st8.okl rfl (aC (lC ok_L8_7 rfl) (aC (lC ok_L8_12 rfl) aN))) (aC (st20.okl rfl aN) (aC (st10.okl rfl aN) aN))) (aC (oD ok_known rfl) (aC (oD ok_l15Few rfl) aN))) (.inr rfl) st8.enters
end
end Go.Proofs.Ytoicjnggljeicaa
