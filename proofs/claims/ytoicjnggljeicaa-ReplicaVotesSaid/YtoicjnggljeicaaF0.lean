/- By program (gen.py): the functions in their typed form. -/
import Derived.Test.YtoicjnggljeicaaFn
namespace Go.Proofs.Ytoicjnggljeicaa
open Go Go.Ev
set_option maxRecDepth 1000000


/-- escrowlaw15.within (fails: [2]) -/
def within (i1 : Int) (i2 : Int) : Option (Int) :=
  cond (decide (i2 = 0))
    (none)
    (some (cond (decide ((i1.tmod i2) < 0)) (w64 ((i1.tmod i2) + i2)) (i1.tmod i2)))
def un_within (p : Int × Int) : Option (Int) := within p.1 p.2
noncomputable def df_within : DFn TL := DFn.of (DA.cons (DT.one (DI.int .i64)) (DA.one (DT.one (DI.int .i64)))) un_within (DA.one (DT.one (DI.int .i64)))
noncomputable def cs_within : List (Nat × DFn TL) := []
noncomputable def ss_within : List (Nat × SFn TL) := []
noncomputable def env_within : Env := envOf tab sl sh [(11, fd11)] []
theorem env_within_ok : EnvOK Try.prog (mkD cs_within ss_within) env_within := envOK_of base (all_cons (st11.okl rfl (all_nil)) (all_nil)) (all_nil)
theorem run_within (x : Int × Int) : Out.run (mkO cs_within ss_within) (evOrc env_within 12 20 11 ((DA.cons (DT.one (DI.int .i64)) (DA.one (DT.one (DI.int .i64))) : DA TL (Int × Int)).enc x)) (DA.one (DT.one (DI.int .i64)) : DA TL (Int)).dec = un_within x := by kernel_rfl
theorem ok_within : DOK Try.prog 11 .pure df_within := data_of env_within_ok (loops := 12) (n := 20) (.inr rfl) st11.enters (DA.cons (DT.one (DI.int .i64)) (DA.one (DT.one (DI.int .i64)))) un_within (DA.one (DT.one (DI.int .i64))) run_within
/-- replica.own (fails: [201]) -/
def own (l1 : List Entry) : Option ((List Entry)) :=
  cond (decide (0 ≤ (l1.length : Int)))
    (cond (fits (((l1.length : Int)).toNat))
      (some ((l1.take (Nat.min l1.length ((List.replicate (((l1.length : Int)).toNat) (Entry.mk 0 s_empty)).length))) ++ (((List.replicate (((l1.length : Int)).toNat) (Entry.mk 0 s_empty)).take ((List.replicate (((l1.length : Int)).toNat) (Entry.mk 0 s_empty)).length)).drop (Nat.min l1.length ((List.replicate (((l1.length : Int)).toNat) (Entry.mk 0 s_empty)).length)))))
      (none))
    (none)
def un_own (p : (List Entry)) : Option ((List Entry)) := own p
noncomputable def df_own : DFn TL := ⟨(List Entry), (List Entry), (DA.one (DT.one di_lEntry) : DA TL ((List Entry))).dec, un_own, fun l => [.c (.im (.fz (j_lEntry.put l)))]⟩
noncomputable def cs_own : List (Nat × DFn TL) := []
noncomputable def ss_own : List (Nat × SFn TL) := []
noncomputable def env_own : Env := envOf tab sl sh [(35, fd35)] []
theorem env_own_ok : EnvOK Try.prog (mkD cs_own ss_own) env_own := envOK_of base (all_cons (st35.okl rfl (all_nil)) (all_nil)) (all_nil)
theorem run_own (x : (List Entry)) : Out.run (mkO cs_own ss_own) (evFresh env_own 12 20 35 32 ((DA.one (DT.one di_lEntry) : DA TL ((List Entry))).enc x)) j_lEntry.un = un_own x := by kernel_rfl
theorem ok_own : DOK Try.prog 35 (.fresh 32) df_own := fresh_of env_own_ok (loops := 12) (n := 20) st35.enters (DA.one (DT.one di_lEntry)) un_own j_lEntry run_own
/-- replica.Last (fails: [201]) -/
def last_ (n1 : Node) : Option (Int × Int) :=
  cond ((cond (decide ((w64 ((w64 ((w64 (n1.base + (n1.log.length : Int))) - n1.base)) - 1)) ≥ 0)) (decide ((w64 ((w64 ((w64 (n1.base + (n1.log.length : Int))) - n1.base)) - 1)) < (n1.log.length : Int))) false))
    (cond (decide (0 ≤ (w64 ((w64 ((w64 (n1.base + (n1.log.length : Int))) - n1.base)) - 1))))
      (ob (n1.log[((w64 ((w64 ((w64 (n1.base + (n1.log.length : Int))) - n1.base)) - 1))).toNat]?) fun e0 =>
      some ((w64 (n1.base + (n1.log.length : Int))), e0.term_))
      (none))
    (some ((w64 (n1.base + (n1.log.length : Int))), n1.baseTerm))
def un_last_ (p : Node) : Option (Int × Int) := last_ p
noncomputable def df_last_ : DFn TL := DFn.of (DA.one (DT.agg dc_Node)) un_last_ (DA.cons (DT.one (DI.int .i64)) (DA.one (DT.one (DI.int .i64))))
noncomputable def cs_last_ : List (Nat × DFn TL) := []
noncomputable def ss_last_ : List (Nat × SFn TL) := []
noncomputable def env_last_ : Env := envOf tab sl sh [(12, fd12), (23, fd23)] []
theorem env_last__ok : EnvOK Try.prog (mkD cs_last_ ss_last_) env_last_ := envOK_of base (all_cons (st12.okl rfl (all_nil)) (all_cons (st23.okl rfl (all_nil)) (all_nil))) (all_nil)
theorem run_last_ (x : Node) : Out.run (mkO cs_last_ ss_last_) (evOrc env_last_ 12 20 12 ((DA.one (DT.agg dc_Node) : DA TL (Node)).enc x)) (DA.cons (DT.one (DI.int .i64)) (DA.one (DT.one (DI.int .i64))) : DA TL (Int × Int)).dec = un_last_ x := by kernel_rfl
theorem ok_last_ : DOK Try.prog 12 .pure df_last_ := data_of env_last__ok (loops := 12) (n := 20) (.inr rfl) st12.enters (DA.one (DT.agg dc_Node)) un_last_ (DA.cons (DT.one (DI.int .i64)) (DA.one (DT.one (DI.int .i64)))) run_last_
/-- a loop of replica.Entry] -/
def step_L34_4 (l1 : List Entry) (l2 : List Entry) (b1 : Bool) (i1 : Int) (i2 : Int) : Option (((List Entry) × (List Entry) × Bool × Int × Int) ⊕ (((Bool) ⊕ (Bool)))) :=
  cond ((decide (i2 < i1)))
    (cond (decide (0 ≤ i2))
      (ob (l1[i2.toNat]?) fun e0 =>
      cond (decide (0 ≤ i2))
        (ob (l2[i2.toNat]?) fun e1 =>
        cond ((!(cond (e0.term_ == e1.term_) (cond (sEq e0.cmd e1.cmd) true false) false)))
          (some (.inr (.inr false)))
          (some (.inl (l1, l2, b1, i1, (w64 (i2 + 1))))))
        (none))
      (none))
    (some (.inr (.inl b1)))
def stp_L34_4 (p : (List Entry) × (List Entry) × Bool × Int × Int) : Option (((List Entry) × (List Entry) × Bool × Int × Int) ⊕ (((Bool) ⊕ (Bool)))) := step_L34_4 p.1 p.2.1 p.2.2.1 p.2.2.2.1 p.2.2.2.2
def L34_4 (l1 : List Entry) (l2 : List Entry) (b1 : Bool) (i1 : Int) (i2 : Int) : Option (((Bool) ⊕ (Bool))) := iterO stp_L34_4 ((i1 - i2).toNat + 2) (l1, l2, b1, i1, i2)
def ch_L34_4 : Cod (Cst TL) ((List Entry) × (List Entry) × Bool × Int × Int) := Cod.iso (Cod.cst 0 (Cod.cons (Cod.xs (Cod.sc (Cod.im (Cod.fz j_lEntry)))) (Cod.cons (Cod.xs (Cod.sc (Cod.im (Cod.fz j_lEntry)))) (Cod.cons (Cod.xs (Cod.sc (Cod.im Cod.bool))) (Cod.cons (Cod.xs (Cod.sc (Cod.im (Cod.int .i64)))) (Cod.cons (Cod.xs (Cod.sc (Cod.im (Cod.int .i64)))) (Cod.nil)))))) (Cod.nil)) (fun p => (p.1.1, p.1.2.1, p.1.2.2.1, p.1.2.2.2.1, p.1.2.2.2.2.1)) (fun (x : (List Entry) × (List Entry) × Bool × Int × Int) => ((x.1, (x.2.1, (x.2.2.1, (x.2.2.2.1, (x.2.2.2.2, ()))))), ())) (fun _ => rfl)
def co0_L34_4 : Cod (Cst TL) (Bool) := Cod.iso (Cod.cst 0 (Cod.cons (Cod.xs (Cod.sc (Cod.im Cod.bool))) (Cod.nil)) (Cod.nil)) (fun p => p.1.1) (fun (x : Bool) => ((x, ()), ())) (fun _ => rfl)
def co1_L34_4 : Cod (Cst TL) (Bool) := Cod.iso (Cod.cst 0 (Cod.cons (Cod.xs (Cod.sc (Cod.im Cod.bool))) (Cod.nil)) (Cod.nil)) (fun p => p.1.1) (fun (x : Bool) => ((x, ()), ())) (fun _ => rfl)
noncomputable def sl_L34_4 : SFn TL := SFn.two ch_L34_4.dec (fun p => L34_4 p.1 p.2.1 p.2.2.1 p.2.2.2.1 p.2.2.2.2) (.exit 0) .ret co0_L34_4.enc co1_L34_4.enc
noncomputable def cs_lL34_4 : List (Nat × DFn TL) := []
noncomputable def ss_lL34_4 : List (Nat × SFn TL) := []
noncomputable def env_lL34_4 : Env := envOf tab sl sh [] []
theorem env_lL34_4_ok : EnvOK Try.prog (mkD cs_lL34_4 ss_lL34_4) env_lL34_4 := envOK_of base (all_nil) (all_nil)
theorem run_L34_4 (x : (List Entry) × (List Entry) × Bool × Int × Int) : Out.run (mkO cs_lL34_4 ss_lL34_4) (evRound env_lL34_4 12 20 fd34.an q_L34_4 (loopIn (loopsOf fd34.body) 4) (ch_L34_4.enc x)) (back2 ch_L34_4 co0_L34_4 co1_L34_4 (.exit 0) .ret) = stp_L34_4 x := by kernel_rfl
theorem ok_L34_4 : LoopOK Try.prog (oneS sl_L34_4) nt34 q_L34_4 (loopIn (loopsOf fd34.body) 4) :=
  loop_two env_lL34_4_ok (loops := 12) (k := 20) (an := fd34.an) (by kernel_rfl) (FnSt.subl rfl st34.keys (all_cons (.inl (by kernel_rfl)) (all_nil))) ch_L34_4 co0_L34_4 co1_L34_4 (.exit 0) .ret rfl rfl stp_L34_4 _ run_L34_4 (fun x y h => ⟨_, h⟩) (fun _ => below_iff.1 rfl)
/-- replica.Entry] -/
def equalEntries (l1 : List Entry) (l2 : List Entry) : Option (Bool) :=
  cond (((l1.length : Int) != (l2.length : Int)))
    (some false)
    (ob (L34_4 l1 l2 false (l1.length : Int) 0) fun y0 =>
    two y0 (fun a1 =>
      some true) (fun b2 =>
      some b2))
def un_equalEntries (p : (List Entry) × (List Entry)) : Option (Bool) := equalEntries p.1 p.2
noncomputable def df_equalEntries : DFn TL := DFn.of (DA.cons (DT.one di_lEntry) (DA.one (DT.one di_lEntry))) un_equalEntries (DA.one (DT.one DI.bool))
noncomputable def cs_equalEntries : List (Nat × DFn TL) := []
noncomputable def ss_equalEntries : List (Nat × SFn TL) := [(134004, sl_L34_4)]
noncomputable def env_equalEntries : Env := envOf tab sl sh [(34, fd34)] []
theorem env_equalEntries_ok : EnvOK Try.prog (mkD cs_equalEntries ss_equalEntries) env_equalEntries := envOK_of base (all_cons (st34.okl rfl (all_cons (LoopOK.cast ok_L34_4 rfl) (all_nil))) (all_nil)) (all_nil)
theorem run_equalEntries (x : (List Entry) × (List Entry)) : Out.run (mkO cs_equalEntries ss_equalEntries) (evOrc env_equalEntries 12 20 34 ((DA.cons (DT.one di_lEntry) (DA.one (DT.one di_lEntry)) : DA TL ((List Entry) × (List Entry))).enc x)) (DA.one (DT.one DI.bool) : DA TL (Bool)).dec = un_equalEntries x := by kernel_rfl
theorem ok_equalEntries : DOK Try.prog 34 .pure df_equalEntries := data_of env_equalEntries_ok (loops := 12) (n := 20) (.inr rfl) st34.enters (DA.cons (DT.one di_lEntry) (DA.one (DT.one di_lEntry))) un_equalEntries (DA.one (DT.one DI.bool)) run_equalEntries
/-- replica.Same -/
def same (n1 : Node) (n2 : Node) : Option (Bool) :=
  cond ((n1.id_ == n2.id_))
    (cond ((n1.term_ == n2.term_))
      (cond ((n1.vote == n2.vote))
        (cond ((n1.base == n2.base))
          (cond ((n1.baseTerm == n2.baseTerm))
            (cond ((sEq n1.snap n2.snap))
              (ob (equalEntries n1.log n2.log) fun r0 =>
              some (cond r0 (cond (n1.role == n2.role) (cond (n1.commit == n2.commit) (cond (n1.wait == n2.wait) (cond (cond (n1.votes.a0 == n2.votes.a0) (cond (n1.votes.a1 == n2.votes.a1) (cond (n1.votes.a2 == n2.votes.a2) true false) false) false) (cond (cond (n1.next.a0 == n2.next.a0) (cond (n1.next.a1 == n2.next.a1) (cond (n1.next.a2 == n2.next.a2) true false) false) false) (cond (n1.match_.a0 == n2.match_.a0) (cond (n1.match_.a1 == n2.match_.a1) (cond (n1.match_.a2 == n2.match_.a2) true false) false) false) false) false) false) false) false) false))
              (some false))
            (some false))
          (some false))
        (some false))
      (some false))
    (some false)
def un_same (p : Node × Node) : Option (Bool) := same p.1 p.2
noncomputable def df_same : DFn TL := DFn.of (DA.cons (DT.agg dc_Node) (DA.one (DT.agg dc_Node))) un_same (DA.one (DT.one DI.bool))
noncomputable def cs_same : List (Nat × DFn TL) := [(34, df_equalEntries)]
noncomputable def ss_same : List (Nat × SFn TL) := []
noncomputable def env_same : Env := envOf tab sl sh [(16, fd16)] [(34, .pure)]
theorem env_same_ok : EnvOK Try.prog (mkD cs_same ss_same) env_same := envOK_of base (all_cons (st16.okl rfl (all_nil)) (all_nil)) (all_cons (okD rfl ok_equalEntries) (all_nil))
theorem run_same (x : Node × Node) : Out.run (mkO cs_same ss_same) (evOrc env_same 12 20 16 ((DA.cons (DT.agg dc_Node) (DA.one (DT.agg dc_Node)) : DA TL (Node × Node)).enc x)) (DA.one (DT.one DI.bool) : DA TL (Bool)).dec = un_same x := by kernel_rfl
theorem ok_same : DOK Try.prog 16 .pure df_same := data_of env_same_ok (loops := 12) (n := 20) (.inr rfl) st16.enters (DA.cons (DT.agg dc_Node) (DA.one (DT.agg dc_Node))) un_same (DA.one (DT.one DI.bool)) run_same
/-- replica.worker).send -/
def send (i1 : Int) (m1 : Msg) (w1 : Worker) : Option (Worker) :=
  cond (fits ((w1.out ++ [(Msg.mk m1.kind w1.node.id_ i1 w1.node.term_ m1.index m1.logTerm m1.commit m1.yes m1.entries m1.snap)]).length))
    (some (Worker.mk w1.node (w1.out ++ [(Msg.mk m1.kind w1.node.id_ i1 w1.node.term_ m1.index m1.logTerm m1.commit m1.yes m1.entries m1.snap)])))
    (none)
def ch_send : Cod (Cst TL) (Int × Msg × Worker) := Cod.iso (Cod.cst 2 (Cod.cons (Cod.xs (Cod.sc (Cod.ptr 0 0))) (Cod.cons (Cod.xs (Cod.sc (Cod.im (Cod.int .i64)))) (Cod.cons (Cod.xs (Cod.sa (Cod.cons (Cod.im (Cod.int .i64)) (Cod.cons (Cod.im (Cod.int .i64)) (Cod.cons (Cod.im (Cod.int .i64)) (Cod.cons (Cod.im (Cod.int .i64)) (Cod.cons (Cod.im (Cod.int .i64)) (Cod.cons (Cod.im (Cod.int .i64)) (Cod.cons (Cod.im (Cod.int .i64)) (Cod.cons (Cod.im Cod.bool) (Cod.cons (Cod.im (Cod.fz j_lEntry)) (Cod.cons (Cod.im Cod.str) (Cod.nil))))))))))))) (Cod.nil)))) (Cod.cons (Cod.var 0 68 (Cod.cons (Cod.im (Cod.int .i64)) (Cod.cons (Cod.im (Cod.int .i64)) (Cod.cons (Cod.im (Cod.int .i64)) (Cod.cons (Cod.im (Cod.int .i64)) (Cod.cons (Cod.im (Cod.int .i64)) (Cod.cons (Cod.im Cod.str) (Cod.cons (Cod.im (Cod.fz j_lEntry)) (Cod.cons (Cod.im (Cod.int .i64)) (Cod.cons (Cod.im (Cod.int .i64)) (Cod.cons (Cod.im (Cod.int .i64)) (Cod.cons (Cod.im Cod.bool) (Cod.cons (Cod.im Cod.bool) (Cod.cons (Cod.im Cod.bool) (Cod.cons (Cod.im (Cod.int .i64)) (Cod.cons (Cod.im (Cod.int .i64)) (Cod.cons (Cod.im (Cod.int .i64)) (Cod.cons (Cod.im (Cod.int .i64)) (Cod.cons (Cod.im (Cod.int .i64)) (Cod.cons (Cod.im (Cod.int .i64)) (Cod.cons (Cod.ar 1) (Cod.nil)))))))))))))))))))))) (Cod.cons (Cod.arr 1 39 j_lMsg) (Cod.nil)))) (fun p => (p.1.2.1, (Msg.mk p.1.2.2.1.1 p.1.2.2.1.2.1 p.1.2.2.1.2.2.1 p.1.2.2.1.2.2.2.1 p.1.2.2.1.2.2.2.2.1 p.1.2.2.1.2.2.2.2.2.1 p.1.2.2.1.2.2.2.2.2.2.1 p.1.2.2.1.2.2.2.2.2.2.2.1 p.1.2.2.1.2.2.2.2.2.2.2.2.1 p.1.2.2.1.2.2.2.2.2.2.2.2.2.1), (Worker.mk (Node.mk p.2.1.1 p.2.1.2.1 p.2.1.2.2.1 p.2.1.2.2.2.1 p.2.1.2.2.2.2.1 p.2.1.2.2.2.2.2.1 p.2.1.2.2.2.2.2.2.1 p.2.1.2.2.2.2.2.2.2.1 p.2.1.2.2.2.2.2.2.2.2.1 p.2.1.2.2.2.2.2.2.2.2.2.1 (A3Bool.mk p.2.1.2.2.2.2.2.2.2.2.2.2.1 p.2.1.2.2.2.2.2.2.2.2.2.2.2.1 p.2.1.2.2.2.2.2.2.2.2.2.2.2.2.1) (A3Int.mk p.2.1.2.2.2.2.2.2.2.2.2.2.2.2.2.1 p.2.1.2.2.2.2.2.2.2.2.2.2.2.2.2.2.1 p.2.1.2.2.2.2.2.2.2.2.2.2.2.2.2.2.2.1) (A3Int.mk p.2.1.2.2.2.2.2.2.2.2.2.2.2.2.2.2.2.2.1 p.2.1.2.2.2.2.2.2.2.2.2.2.2.2.2.2.2.2.2.1 p.2.1.2.2.2.2.2.2.2.2.2.2.2.2.2.2.2.2.2.2.1)) p.2.2.1))) (fun (x : Int × Msg × Worker) => (((), (x.1, ((x.2.1.kind, (x.2.1.from_, (x.2.1.to_, (x.2.1.term_, (x.2.1.index, (x.2.1.logTerm, (x.2.1.commit, (x.2.1.yes, (x.2.1.entries, (x.2.1.snap, ())))))))))), ()))), ((x.2.2.node.id_, (x.2.2.node.term_, (x.2.2.node.vote, (x.2.2.node.base, (x.2.2.node.baseTerm, (x.2.2.node.snap, (x.2.2.node.log, (x.2.2.node.role, (x.2.2.node.commit, (x.2.2.node.wait, (x.2.2.node.votes.a0, (x.2.2.node.votes.a1, (x.2.2.node.votes.a2, (x.2.2.node.next.a0, (x.2.2.node.next.a1, (x.2.2.node.next.a2, (x.2.2.node.match_.a0, (x.2.2.node.match_.a1, (x.2.2.node.match_.a2, ((), ())))))))))))))))))))), (x.2.2.out, ())))) (fun _ => rfl)
def co_send : Cod (Cst TL) (Worker) := Cod.iso (Cod.cst 5 (Cod.cons (Cod.xt (Cod.nil)) (Cod.nil)) (Cod.cons (Cod.var 0 68 (Cod.cons (Cod.im (Cod.int .i64)) (Cod.cons (Cod.im (Cod.int .i64)) (Cod.cons (Cod.im (Cod.int .i64)) (Cod.cons (Cod.im (Cod.int .i64)) (Cod.cons (Cod.im (Cod.int .i64)) (Cod.cons (Cod.im Cod.str) (Cod.cons (Cod.im (Cod.fz j_lEntry)) (Cod.cons (Cod.im (Cod.int .i64)) (Cod.cons (Cod.im (Cod.int .i64)) (Cod.cons (Cod.im (Cod.int .i64)) (Cod.cons (Cod.im Cod.bool) (Cod.cons (Cod.im Cod.bool) (Cod.cons (Cod.im Cod.bool) (Cod.cons (Cod.im (Cod.int .i64)) (Cod.cons (Cod.im (Cod.int .i64)) (Cod.cons (Cod.im (Cod.int .i64)) (Cod.cons (Cod.im (Cod.int .i64)) (Cod.cons (Cod.im (Cod.int .i64)) (Cod.cons (Cod.im (Cod.int .i64)) (Cod.cons (Cod.ar 4) (Cod.nil)))))))))))))))))))))) (Cod.cons (Cod.dead 1) (Cod.cons (Cod.arr 4 39 j_lMsg) (Cod.nil))))) (fun p => (Worker.mk (Node.mk p.2.1.1 p.2.1.2.1 p.2.1.2.2.1 p.2.1.2.2.2.1 p.2.1.2.2.2.2.1 p.2.1.2.2.2.2.2.1 p.2.1.2.2.2.2.2.2.1 p.2.1.2.2.2.2.2.2.2.1 p.2.1.2.2.2.2.2.2.2.2.1 p.2.1.2.2.2.2.2.2.2.2.2.1 (A3Bool.mk p.2.1.2.2.2.2.2.2.2.2.2.2.1 p.2.1.2.2.2.2.2.2.2.2.2.2.2.1 p.2.1.2.2.2.2.2.2.2.2.2.2.2.2.1) (A3Int.mk p.2.1.2.2.2.2.2.2.2.2.2.2.2.2.2.1 p.2.1.2.2.2.2.2.2.2.2.2.2.2.2.2.2.1 p.2.1.2.2.2.2.2.2.2.2.2.2.2.2.2.2.2.1) (A3Int.mk p.2.1.2.2.2.2.2.2.2.2.2.2.2.2.2.2.2.2.1 p.2.1.2.2.2.2.2.2.2.2.2.2.2.2.2.2.2.2.2.1 p.2.1.2.2.2.2.2.2.2.2.2.2.2.2.2.2.2.2.2.2.1)) p.2.2.2.1)) (fun (x : Worker) => (((), ()), ((x.node.id_, (x.node.term_, (x.node.vote, (x.node.base, (x.node.baseTerm, (x.node.snap, (x.node.log, (x.node.role, (x.node.commit, (x.node.wait, (x.node.votes.a0, (x.node.votes.a1, (x.node.votes.a2, (x.node.next.a0, (x.node.next.a1, (x.node.next.a2, (x.node.match_.a0, (x.node.match_.a1, (x.node.match_.a2, ((), ())))))))))))))))))))), ((), (x.out, ()))))) (fun _ => rfl)
def un_send (p : Int × Msg × Worker) : Option (Worker) := send p.1 p.2.1 p.2.2
noncomputable def sf_send : SFn TL := SFn.one ch_send.dec un_send .normal co_send.enc
noncomputable def cs_send : List (Nat × DFn TL) := []
noncomputable def ss_send : List (Nat × SFn TL) := []
noncomputable def env_send : Env := envOf tab sl sh [(46, fd46)] []
theorem env_send_ok : EnvOK Try.prog (mkD cs_send ss_send) env_send := envOK_of base (all_cons (st46.okl rfl (all_nil)) (all_nil)) (all_nil)
theorem run_send (x : Int × Msg × Worker) : Out.run (mkO cs_send ss_send) (evSum env_send 12 20 46 (ch_send.enc x)) (back1 co_send) = un_send x := by kernel_rfl
theorem ok_send : SOK Try.prog 46 sf_send := sum_one env_send_ok (loops := 12) (n := 20) st46.enters ch_send co_send un_send run_send
/-- replica.worker).owe -/
def owe (i1 : Int) (w1 : Worker) : Option (Worker) :=
  cond (decide (i1 = 0))
    (cond ((decide (w1.node.next.a0 ≤ w1.node.base)))
      (ob (send i1 (Msg.mk 5 0 0 0 w1.node.base w1.node.baseTerm 0 false [] w1.node.snap) w1) fun y0 =>
      some y0)
      (cond (decide (i1 = 0))
        (cond (decide (0 ≤ (min2 (w64 ((w64 (w1.node.next.a0 - 1)) - w1.node.base)) (w1.node.log.length : Int))))
          (cond (decide ((min2 (w64 ((w64 (w1.node.next.a0 - 1)) - w1.node.base)) (w1.node.log.length : Int)) ≤ (w1.node.log.length : Int)))
            (cond (decide ((w1.node.log.length : Int) ≤ (w1.node.log.length : Int)))
              (cond ((cond (decide ((w64 ((w64 ((w64 (w1.node.next.a0 - 1)) - w1.node.base)) - 1)) ≥ 0)) (decide ((w64 ((w64 ((w64 (w1.node.next.a0 - 1)) - w1.node.base)) - 1)) < (w1.node.log.length : Int))) false))
                (cond (decide (0 ≤ (w64 ((w64 ((w64 (w1.node.next.a0 - 1)) - w1.node.base)) - 1))))
                  (ob (w1.node.log[((w64 ((w64 ((w64 (w1.node.next.a0 - 1)) - w1.node.base)) - 1))).toNat]?) fun e3 =>
                  cond (decide (0 ≤ (min2 (((w1.node.log.take (((w1.node.log.length : Int)).toNat)).drop (((min2 (w64 ((w64 (w1.node.next.a0 - 1)) - w1.node.base)) (w1.node.log.length : Int))).toNat)).length : Int) 8)))
                    (cond (decide ((min2 (((w1.node.log.take (((w1.node.log.length : Int)).toNat)).drop (((min2 (w64 ((w64 (w1.node.next.a0 - 1)) - w1.node.base)) (w1.node.log.length : Int))).toNat)).length : Int) 8) ≤ (((w1.node.log.take (((w1.node.log.length : Int)).toNat)).drop (((min2 (w64 ((w64 (w1.node.next.a0 - 1)) - w1.node.base)) (w1.node.log.length : Int))).toNat)).length : Int)))
                      (ob (own (((w1.node.log.take (((w1.node.log.length : Int)).toNat)).drop (((min2 (w64 ((w64 (w1.node.next.a0 - 1)) - w1.node.base)) (w1.node.log.length : Int))).toNat)).take (((min2 (((w1.node.log.take (((w1.node.log.length : Int)).toNat)).drop (((min2 (w64 ((w64 (w1.node.next.a0 - 1)) - w1.node.base)) (w1.node.log.length : Int))).toNat)).length : Int) 8)).toNat))) fun r4 =>
                      ob (send i1 (Msg.mk 3 0 0 0 (w64 (w1.node.next.a0 - 1)) e3.term_ w1.node.commit false r4 s_empty) w1) fun y5 =>
                      some y5)
                      (none))
                    (none))
                  (none))
                (cond (decide (0 ≤ (min2 (((w1.node.log.take (((w1.node.log.length : Int)).toNat)).drop (((min2 (w64 ((w64 (w1.node.next.a0 - 1)) - w1.node.base)) (w1.node.log.length : Int))).toNat)).length : Int) 8)))
                  (cond (decide ((min2 (((w1.node.log.take (((w1.node.log.length : Int)).toNat)).drop (((min2 (w64 ((w64 (w1.node.next.a0 - 1)) - w1.node.base)) (w1.node.log.length : Int))).toNat)).length : Int) 8) ≤ (((w1.node.log.take (((w1.node.log.length : Int)).toNat)).drop (((min2 (w64 ((w64 (w1.node.next.a0 - 1)) - w1.node.base)) (w1.node.log.length : Int))).toNat)).length : Int)))
                    (ob (own (((w1.node.log.take (((w1.node.log.length : Int)).toNat)).drop (((min2 (w64 ((w64 (w1.node.next.a0 - 1)) - w1.node.base)) (w1.node.log.length : Int))).toNat)).take (((min2 (((w1.node.log.take (((w1.node.log.length : Int)).toNat)).drop (((min2 (w64 ((w64 (w1.node.next.a0 - 1)) - w1.node.base)) (w1.node.log.length : Int))).toNat)).length : Int) 8)).toNat))) fun r6 =>
                    ob (send i1 (Msg.mk 3 0 0 0 (w64 (w1.node.next.a0 - 1)) w1.node.baseTerm w1.node.commit false r6 s_empty) w1) fun y7 =>
                    some y7)
                    (none))
                  (none)))
              (none))
            (none))
          (none))
        (cond (decide (i1 = 1))
          (cond (decide (0 ≤ (min2 (w64 ((w64 (w1.node.next.a1 - 1)) - w1.node.base)) (w1.node.log.length : Int))))
            (cond (decide ((min2 (w64 ((w64 (w1.node.next.a1 - 1)) - w1.node.base)) (w1.node.log.length : Int)) ≤ (w1.node.log.length : Int)))
              (cond (decide ((w1.node.log.length : Int) ≤ (w1.node.log.length : Int)))
                (cond ((cond (decide ((w64 ((w64 ((w64 (w1.node.next.a1 - 1)) - w1.node.base)) - 1)) ≥ 0)) (decide ((w64 ((w64 ((w64 (w1.node.next.a1 - 1)) - w1.node.base)) - 1)) < (w1.node.log.length : Int))) false))
                  (cond (decide (0 ≤ (w64 ((w64 ((w64 (w1.node.next.a1 - 1)) - w1.node.base)) - 1))))
                    (ob (w1.node.log[((w64 ((w64 ((w64 (w1.node.next.a1 - 1)) - w1.node.base)) - 1))).toNat]?) fun e8 =>
                    cond (decide (0 ≤ (min2 (((w1.node.log.take (((w1.node.log.length : Int)).toNat)).drop (((min2 (w64 ((w64 (w1.node.next.a1 - 1)) - w1.node.base)) (w1.node.log.length : Int))).toNat)).length : Int) 8)))
                      (cond (decide ((min2 (((w1.node.log.take (((w1.node.log.length : Int)).toNat)).drop (((min2 (w64 ((w64 (w1.node.next.a1 - 1)) - w1.node.base)) (w1.node.log.length : Int))).toNat)).length : Int) 8) ≤ (((w1.node.log.take (((w1.node.log.length : Int)).toNat)).drop (((min2 (w64 ((w64 (w1.node.next.a1 - 1)) - w1.node.base)) (w1.node.log.length : Int))).toNat)).length : Int)))
                        (ob (own (((w1.node.log.take (((w1.node.log.length : Int)).toNat)).drop (((min2 (w64 ((w64 (w1.node.next.a1 - 1)) - w1.node.base)) (w1.node.log.length : Int))).toNat)).take (((min2 (((w1.node.log.take (((w1.node.log.length : Int)).toNat)).drop (((min2 (w64 ((w64 (w1.node.next.a1 - 1)) - w1.node.base)) (w1.node.log.length : Int))).toNat)).length : Int) 8)).toNat))) fun r9 =>
                        ob (send i1 (Msg.mk 3 0 0 0 (w64 (w1.node.next.a1 - 1)) e8.term_ w1.node.commit false r9 s_empty) w1) fun y10 =>
                        some y10)
                        (none))
                      (none))
                    (none))
                  (cond (decide (0 ≤ (min2 (((w1.node.log.take (((w1.node.log.length : Int)).toNat)).drop (((min2 (w64 ((w64 (w1.node.next.a1 - 1)) - w1.node.base)) (w1.node.log.length : Int))).toNat)).length : Int) 8)))
                    (cond (decide ((min2 (((w1.node.log.take (((w1.node.log.length : Int)).toNat)).drop (((min2 (w64 ((w64 (w1.node.next.a1 - 1)) - w1.node.base)) (w1.node.log.length : Int))).toNat)).length : Int) 8) ≤ (((w1.node.log.take (((w1.node.log.length : Int)).toNat)).drop (((min2 (w64 ((w64 (w1.node.next.a1 - 1)) - w1.node.base)) (w1.node.log.length : Int))).toNat)).length : Int)))
                      (ob (own (((w1.node.log.take (((w1.node.log.length : Int)).toNat)).drop (((min2 (w64 ((w64 (w1.node.next.a1 - 1)) - w1.node.base)) (w1.node.log.length : Int))).toNat)).take (((min2 (((w1.node.log.take (((w1.node.log.length : Int)).toNat)).drop (((min2 (w64 ((w64 (w1.node.next.a1 - 1)) - w1.node.base)) (w1.node.log.length : Int))).toNat)).length : Int) 8)).toNat))) fun r11 =>
                      ob (send i1 (Msg.mk 3 0 0 0 (w64 (w1.node.next.a1 - 1)) w1.node.baseTerm w1.node.commit false r11 s_empty) w1) fun y12 =>
                      some y12)
                      (none))
                    (none)))
                (none))
              (none))
            (none))
          (cond (decide (i1 = 2))
            (cond (decide (0 ≤ (min2 (w64 ((w64 (w1.node.next.a2 - 1)) - w1.node.base)) (w1.node.log.length : Int))))
              (cond (decide ((min2 (w64 ((w64 (w1.node.next.a2 - 1)) - w1.node.base)) (w1.node.log.length : Int)) ≤ (w1.node.log.length : Int)))
                (cond (decide ((w1.node.log.length : Int) ≤ (w1.node.log.length : Int)))
                  (cond ((cond (decide ((w64 ((w64 ((w64 (w1.node.next.a2 - 1)) - w1.node.base)) - 1)) ≥ 0)) (decide ((w64 ((w64 ((w64 (w1.node.next.a2 - 1)) - w1.node.base)) - 1)) < (w1.node.log.length : Int))) false))
                    (cond (decide (0 ≤ (w64 ((w64 ((w64 (w1.node.next.a2 - 1)) - w1.node.base)) - 1))))
                      (ob (w1.node.log[((w64 ((w64 ((w64 (w1.node.next.a2 - 1)) - w1.node.base)) - 1))).toNat]?) fun e13 =>
                      cond (decide (0 ≤ (min2 (((w1.node.log.take (((w1.node.log.length : Int)).toNat)).drop (((min2 (w64 ((w64 (w1.node.next.a2 - 1)) - w1.node.base)) (w1.node.log.length : Int))).toNat)).length : Int) 8)))
                        (cond (decide ((min2 (((w1.node.log.take (((w1.node.log.length : Int)).toNat)).drop (((min2 (w64 ((w64 (w1.node.next.a2 - 1)) - w1.node.base)) (w1.node.log.length : Int))).toNat)).length : Int) 8) ≤ (((w1.node.log.take (((w1.node.log.length : Int)).toNat)).drop (((min2 (w64 ((w64 (w1.node.next.a2 - 1)) - w1.node.base)) (w1.node.log.length : Int))).toNat)).length : Int)))
                          (ob (own (((w1.node.log.take (((w1.node.log.length : Int)).toNat)).drop (((min2 (w64 ((w64 (w1.node.next.a2 - 1)) - w1.node.base)) (w1.node.log.length : Int))).toNat)).take (((min2 (((w1.node.log.take (((w1.node.log.length : Int)).toNat)).drop (((min2 (w64 ((w64 (w1.node.next.a2 - 1)) - w1.node.base)) (w1.node.log.length : Int))).toNat)).length : Int) 8)).toNat))) fun r14 =>
                          ob (send i1 (Msg.mk 3 0 0 0 (w64 (w1.node.next.a2 - 1)) e13.term_ w1.node.commit false r14 s_empty) w1) fun y15 =>
                          some y15)
                          (none))
                        (none))
                      (none))
                    (cond (decide (0 ≤ (min2 (((w1.node.log.take (((w1.node.log.length : Int)).toNat)).drop (((min2 (w64 ((w64 (w1.node.next.a2 - 1)) - w1.node.base)) (w1.node.log.length : Int))).toNat)).length : Int) 8)))
                      (cond (decide ((min2 (((w1.node.log.take (((w1.node.log.length : Int)).toNat)).drop (((min2 (w64 ((w64 (w1.node.next.a2 - 1)) - w1.node.base)) (w1.node.log.length : Int))).toNat)).length : Int) 8) ≤ (((w1.node.log.take (((w1.node.log.length : Int)).toNat)).drop (((min2 (w64 ((w64 (w1.node.next.a2 - 1)) - w1.node.base)) (w1.node.log.length : Int))).toNat)).length : Int)))
                        (ob (own (((w1.node.log.take (((w1.node.log.length : Int)).toNat)).drop (((min2 (w64 ((w64 (w1.node.next.a2 - 1)) - w1.node.base)) (w1.node.log.length : Int))).toNat)).take (((min2 (((w1.node.log.take (((w1.node.log.length : Int)).toNat)).drop (((min2 (w64 ((w64 (w1.node.next.a2 - 1)) - w1.node.base)) (w1.node.log.length : Int))).toNat)).length : Int) 8)).toNat))) fun r16 =>
                        ob (send i1 (Msg.mk 3 0 0 0 (w64 (w1.node.next.a2 - 1)) w1.node.baseTerm w1.node.commit false r16 s_empty) w1) fun y17 =>
                        some y17)
                        (none))
                      (none)))
                  (none))
                (none))
              (none))
            (none)))))
    (cond (decide (i1 = 1))
      (cond ((decide (w1.node.next.a1 ≤ w1.node.base)))
        (ob (send i1 (Msg.mk 5 0 0 0 w1.node.base w1.node.baseTerm 0 false [] w1.node.snap) w1) fun y1 =>
        some y1)
        (cond (decide (i1 = 0))
          (cond (decide (0 ≤ (min2 (w64 ((w64 (w1.node.next.a0 - 1)) - w1.node.base)) (w1.node.log.length : Int))))
            (cond (decide ((min2 (w64 ((w64 (w1.node.next.a0 - 1)) - w1.node.base)) (w1.node.log.length : Int)) ≤ (w1.node.log.length : Int)))
              (cond (decide ((w1.node.log.length : Int) ≤ (w1.node.log.length : Int)))
                (cond ((cond (decide ((w64 ((w64 ((w64 (w1.node.next.a0 - 1)) - w1.node.base)) - 1)) ≥ 0)) (decide ((w64 ((w64 ((w64 (w1.node.next.a0 - 1)) - w1.node.base)) - 1)) < (w1.node.log.length : Int))) false))
                  (cond (decide (0 ≤ (w64 ((w64 ((w64 (w1.node.next.a0 - 1)) - w1.node.base)) - 1))))
                    (ob (w1.node.log[((w64 ((w64 ((w64 (w1.node.next.a0 - 1)) - w1.node.base)) - 1))).toNat]?) fun e18 =>
                    cond (decide (0 ≤ (min2 (((w1.node.log.take (((w1.node.log.length : Int)).toNat)).drop (((min2 (w64 ((w64 (w1.node.next.a0 - 1)) - w1.node.base)) (w1.node.log.length : Int))).toNat)).length : Int) 8)))
                      (cond (decide ((min2 (((w1.node.log.take (((w1.node.log.length : Int)).toNat)).drop (((min2 (w64 ((w64 (w1.node.next.a0 - 1)) - w1.node.base)) (w1.node.log.length : Int))).toNat)).length : Int) 8) ≤ (((w1.node.log.take (((w1.node.log.length : Int)).toNat)).drop (((min2 (w64 ((w64 (w1.node.next.a0 - 1)) - w1.node.base)) (w1.node.log.length : Int))).toNat)).length : Int)))
                        (ob (own (((w1.node.log.take (((w1.node.log.length : Int)).toNat)).drop (((min2 (w64 ((w64 (w1.node.next.a0 - 1)) - w1.node.base)) (w1.node.log.length : Int))).toNat)).take (((min2 (((w1.node.log.take (((w1.node.log.length : Int)).toNat)).drop (((min2 (w64 ((w64 (w1.node.next.a0 - 1)) - w1.node.base)) (w1.node.log.length : Int))).toNat)).length : Int) 8)).toNat))) fun r19 =>
                        ob (send i1 (Msg.mk 3 0 0 0 (w64 (w1.node.next.a0 - 1)) e18.term_ w1.node.commit false r19 s_empty) w1) fun y20 =>
                        some y20)
                        (none))
                      (none))
                    (none))
                  (cond (decide (0 ≤ (min2 (((w1.node.log.take (((w1.node.log.length : Int)).toNat)).drop (((min2 (w64 ((w64 (w1.node.next.a0 - 1)) - w1.node.base)) (w1.node.log.length : Int))).toNat)).length : Int) 8)))
                    (cond (decide ((min2 (((w1.node.log.take (((w1.node.log.length : Int)).toNat)).drop (((min2 (w64 ((w64 (w1.node.next.a0 - 1)) - w1.node.base)) (w1.node.log.length : Int))).toNat)).length : Int) 8) ≤ (((w1.node.log.take (((w1.node.log.length : Int)).toNat)).drop (((min2 (w64 ((w64 (w1.node.next.a0 - 1)) - w1.node.base)) (w1.node.log.length : Int))).toNat)).length : Int)))
                      (ob (own (((w1.node.log.take (((w1.node.log.length : Int)).toNat)).drop (((min2 (w64 ((w64 (w1.node.next.a0 - 1)) - w1.node.base)) (w1.node.log.length : Int))).toNat)).take (((min2 (((w1.node.log.take (((w1.node.log.length : Int)).toNat)).drop (((min2 (w64 ((w64 (w1.node.next.a0 - 1)) - w1.node.base)) (w1.node.log.length : Int))).toNat)).length : Int) 8)).toNat))) fun r21 =>
                      ob (send i1 (Msg.mk 3 0 0 0 (w64 (w1.node.next.a0 - 1)) w1.node.baseTerm w1.node.commit false r21 s_empty) w1) fun y22 =>
                      some y22)
                      (none))
                    (none)))
                (none))
              (none))
            (none))
          (cond (decide (i1 = 1))
            (cond (decide (0 ≤ (min2 (w64 ((w64 (w1.node.next.a1 - 1)) - w1.node.base)) (w1.node.log.length : Int))))
              (cond (decide ((min2 (w64 ((w64 (w1.node.next.a1 - 1)) - w1.node.base)) (w1.node.log.length : Int)) ≤ (w1.node.log.length : Int)))
                (cond (decide ((w1.node.log.length : Int) ≤ (w1.node.log.length : Int)))
                  (cond ((cond (decide ((w64 ((w64 ((w64 (w1.node.next.a1 - 1)) - w1.node.base)) - 1)) ≥ 0)) (decide ((w64 ((w64 ((w64 (w1.node.next.a1 - 1)) - w1.node.base)) - 1)) < (w1.node.log.length : Int))) false))
                    (cond (decide (0 ≤ (w64 ((w64 ((w64 (w1.node.next.a1 - 1)) - w1.node.base)) - 1))))
                      (ob (w1.node.log[((w64 ((w64 ((w64 (w1.node.next.a1 - 1)) - w1.node.base)) - 1))).toNat]?) fun e23 =>
                      cond (decide (0 ≤ (min2 (((w1.node.log.take (((w1.node.log.length : Int)).toNat)).drop (((min2 (w64 ((w64 (w1.node.next.a1 - 1)) - w1.node.base)) (w1.node.log.length : Int))).toNat)).length : Int) 8)))
                        (cond (decide ((min2 (((w1.node.log.take (((w1.node.log.length : Int)).toNat)).drop (((min2 (w64 ((w64 (w1.node.next.a1 - 1)) - w1.node.base)) (w1.node.log.length : Int))).toNat)).length : Int) 8) ≤ (((w1.node.log.take (((w1.node.log.length : Int)).toNat)).drop (((min2 (w64 ((w64 (w1.node.next.a1 - 1)) - w1.node.base)) (w1.node.log.length : Int))).toNat)).length : Int)))
                          (ob (own (((w1.node.log.take (((w1.node.log.length : Int)).toNat)).drop (((min2 (w64 ((w64 (w1.node.next.a1 - 1)) - w1.node.base)) (w1.node.log.length : Int))).toNat)).take (((min2 (((w1.node.log.take (((w1.node.log.length : Int)).toNat)).drop (((min2 (w64 ((w64 (w1.node.next.a1 - 1)) - w1.node.base)) (w1.node.log.length : Int))).toNat)).length : Int) 8)).toNat))) fun r24 =>
                          ob (send i1 (Msg.mk 3 0 0 0 (w64 (w1.node.next.a1 - 1)) e23.term_ w1.node.commit false r24 s_empty) w1) fun y25 =>
                          some y25)
                          (none))
                        (none))
                      (none))
                    (cond (decide (0 ≤ (min2 (((w1.node.log.take (((w1.node.log.length : Int)).toNat)).drop (((min2 (w64 ((w64 (w1.node.next.a1 - 1)) - w1.node.base)) (w1.node.log.length : Int))).toNat)).length : Int) 8)))
                      (cond (decide ((min2 (((w1.node.log.take (((w1.node.log.length : Int)).toNat)).drop (((min2 (w64 ((w64 (w1.node.next.a1 - 1)) - w1.node.base)) (w1.node.log.length : Int))).toNat)).length : Int) 8) ≤ (((w1.node.log.take (((w1.node.log.length : Int)).toNat)).drop (((min2 (w64 ((w64 (w1.node.next.a1 - 1)) - w1.node.base)) (w1.node.log.length : Int))).toNat)).length : Int)))
                        (ob (own (((w1.node.log.take (((w1.node.log.length : Int)).toNat)).drop (((min2 (w64 ((w64 (w1.node.next.a1 - 1)) - w1.node.base)) (w1.node.log.length : Int))).toNat)).take (((min2 (((w1.node.log.take (((w1.node.log.length : Int)).toNat)).drop (((min2 (w64 ((w64 (w1.node.next.a1 - 1)) - w1.node.base)) (w1.node.log.length : Int))).toNat)).length : Int) 8)).toNat))) fun r26 =>
                        ob (send i1 (Msg.mk 3 0 0 0 (w64 (w1.node.next.a1 - 1)) w1.node.baseTerm w1.node.commit false r26 s_empty) w1) fun y27 =>
                        some y27)
                        (none))
                      (none)))
                  (none))
                (none))
              (none))
            (cond (decide (i1 = 2))
              (cond (decide (0 ≤ (min2 (w64 ((w64 (w1.node.next.a2 - 1)) - w1.node.base)) (w1.node.log.length : Int))))
                (cond (decide ((min2 (w64 ((w64 (w1.node.next.a2 - 1)) - w1.node.base)) (w1.node.log.length : Int)) ≤ (w1.node.log.length : Int)))
                  (cond (decide ((w1.node.log.length : Int) ≤ (w1.node.log.length : Int)))
                    (cond ((cond (decide ((w64 ((w64 ((w64 (w1.node.next.a2 - 1)) - w1.node.base)) - 1)) ≥ 0)) (decide ((w64 ((w64 ((w64 (w1.node.next.a2 - 1)) - w1.node.base)) - 1)) < (w1.node.log.length : Int))) false))
                      (cond (decide (0 ≤ (w64 ((w64 ((w64 (w1.node.next.a2 - 1)) - w1.node.base)) - 1))))
                        (ob (w1.node.log[((w64 ((w64 ((w64 (w1.node.next.a2 - 1)) - w1.node.base)) - 1))).toNat]?) fun e28 =>
                        cond (decide (0 ≤ (min2 (((w1.node.log.take (((w1.node.log.length : Int)).toNat)).drop (((min2 (w64 ((w64 (w1.node.next.a2 - 1)) - w1.node.base)) (w1.node.log.length : Int))).toNat)).length : Int) 8)))
                          (cond (decide ((min2 (((w1.node.log.take (((w1.node.log.length : Int)).toNat)).drop (((min2 (w64 ((w64 (w1.node.next.a2 - 1)) - w1.node.base)) (w1.node.log.length : Int))).toNat)).length : Int) 8) ≤ (((w1.node.log.take (((w1.node.log.length : Int)).toNat)).drop (((min2 (w64 ((w64 (w1.node.next.a2 - 1)) - w1.node.base)) (w1.node.log.length : Int))).toNat)).length : Int)))
                            (ob (own (((w1.node.log.take (((w1.node.log.length : Int)).toNat)).drop (((min2 (w64 ((w64 (w1.node.next.a2 - 1)) - w1.node.base)) (w1.node.log.length : Int))).toNat)).take (((min2 (((w1.node.log.take (((w1.node.log.length : Int)).toNat)).drop (((min2 (w64 ((w64 (w1.node.next.a2 - 1)) - w1.node.base)) (w1.node.log.length : Int))).toNat)).length : Int) 8)).toNat))) fun r29 =>
                            ob (send i1 (Msg.mk 3 0 0 0 (w64 (w1.node.next.a2 - 1)) e28.term_ w1.node.commit false r29 s_empty) w1) fun y30 =>
                            some y30)
                            (none))
                          (none))
                        (none))
                      (cond (decide (0 ≤ (min2 (((w1.node.log.take (((w1.node.log.length : Int)).toNat)).drop (((min2 (w64 ((w64 (w1.node.next.a2 - 1)) - w1.node.base)) (w1.node.log.length : Int))).toNat)).length : Int) 8)))
                        (cond (decide ((min2 (((w1.node.log.take (((w1.node.log.length : Int)).toNat)).drop (((min2 (w64 ((w64 (w1.node.next.a2 - 1)) - w1.node.base)) (w1.node.log.length : Int))).toNat)).length : Int) 8) ≤ (((w1.node.log.take (((w1.node.log.length : Int)).toNat)).drop (((min2 (w64 ((w64 (w1.node.next.a2 - 1)) - w1.node.base)) (w1.node.log.length : Int))).toNat)).length : Int)))
                          (ob (own (((w1.node.log.take (((w1.node.log.length : Int)).toNat)).drop (((min2 (w64 ((w64 (w1.node.next.a2 - 1)) - w1.node.base)) (w1.node.log.length : Int))).toNat)).take (((min2 (((w1.node.log.take (((w1.node.log.length : Int)).toNat)).drop (((min2 (w64 ((w64 (w1.node.next.a2 - 1)) - w1.node.base)) (w1.node.log.length : Int))).toNat)).length : Int) 8)).toNat))) fun r31 =>
                          ob (send i1 (Msg.mk 3 0 0 0 (w64 (w1.node.next.a2 - 1)) w1.node.baseTerm w1.node.commit false r31 s_empty) w1) fun y32 =>
                          some y32)
                          (none))
                        (none)))
                    (none))
                  (none))
                (none))
              (none)))))
      (cond (decide (i1 = 2))
        (cond ((decide (w1.node.next.a2 ≤ w1.node.base)))
          (ob (send i1 (Msg.mk 5 0 0 0 w1.node.base w1.node.baseTerm 0 false [] w1.node.snap) w1) fun y2 =>
          some y2)
          (cond (decide (i1 = 0))
            (cond (decide (0 ≤ (min2 (w64 ((w64 (w1.node.next.a0 - 1)) - w1.node.base)) (w1.node.log.length : Int))))
              (cond (decide ((min2 (w64 ((w64 (w1.node.next.a0 - 1)) - w1.node.base)) (w1.node.log.length : Int)) ≤ (w1.node.log.length : Int)))
                (cond (decide ((w1.node.log.length : Int) ≤ (w1.node.log.length : Int)))
                  (cond ((cond (decide ((w64 ((w64 ((w64 (w1.node.next.a0 - 1)) - w1.node.base)) - 1)) ≥ 0)) (decide ((w64 ((w64 ((w64 (w1.node.next.a0 - 1)) - w1.node.base)) - 1)) < (w1.node.log.length : Int))) false))
                    (cond (decide (0 ≤ (w64 ((w64 ((w64 (w1.node.next.a0 - 1)) - w1.node.base)) - 1))))
                      (ob (w1.node.log[((w64 ((w64 ((w64 (w1.node.next.a0 - 1)) - w1.node.base)) - 1))).toNat]?) fun e33 =>
                      cond (decide (0 ≤ (min2 (((w1.node.log.take (((w1.node.log.length : Int)).toNat)).drop (((min2 (w64 ((w64 (w1.node.next.a0 - 1)) - w1.node.base)) (w1.node.log.length : Int))).toNat)).length : Int) 8)))
                        (cond (decide ((min2 (((w1.node.log.take (((w1.node.log.length : Int)).toNat)).drop (((min2 (w64 ((w64 (w1.node.next.a0 - 1)) - w1.node.base)) (w1.node.log.length : Int))).toNat)).length : Int) 8) ≤ (((w1.node.log.take (((w1.node.log.length : Int)).toNat)).drop (((min2 (w64 ((w64 (w1.node.next.a0 - 1)) - w1.node.base)) (w1.node.log.length : Int))).toNat)).length : Int)))
                          (ob (own (((w1.node.log.take (((w1.node.log.length : Int)).toNat)).drop (((min2 (w64 ((w64 (w1.node.next.a0 - 1)) - w1.node.base)) (w1.node.log.length : Int))).toNat)).take (((min2 (((w1.node.log.take (((w1.node.log.length : Int)).toNat)).drop (((min2 (w64 ((w64 (w1.node.next.a0 - 1)) - w1.node.base)) (w1.node.log.length : Int))).toNat)).length : Int) 8)).toNat))) fun r34 =>
                          ob (send i1 (Msg.mk 3 0 0 0 (w64 (w1.node.next.a0 - 1)) e33.term_ w1.node.commit false r34 s_empty) w1) fun y35 =>
                          some y35)
                          (none))
                        (none))
                      (none))
                    (cond (decide (0 ≤ (min2 (((w1.node.log.take (((w1.node.log.length : Int)).toNat)).drop (((min2 (w64 ((w64 (w1.node.next.a0 - 1)) - w1.node.base)) (w1.node.log.length : Int))).toNat)).length : Int) 8)))
                      (cond (decide ((min2 (((w1.node.log.take (((w1.node.log.length : Int)).toNat)).drop (((min2 (w64 ((w64 (w1.node.next.a0 - 1)) - w1.node.base)) (w1.node.log.length : Int))).toNat)).length : Int) 8) ≤ (((w1.node.log.take (((w1.node.log.length : Int)).toNat)).drop (((min2 (w64 ((w64 (w1.node.next.a0 - 1)) - w1.node.base)) (w1.node.log.length : Int))).toNat)).length : Int)))
                        (ob (own (((w1.node.log.take (((w1.node.log.length : Int)).toNat)).drop (((min2 (w64 ((w64 (w1.node.next.a0 - 1)) - w1.node.base)) (w1.node.log.length : Int))).toNat)).take (((min2 (((w1.node.log.take (((w1.node.log.length : Int)).toNat)).drop (((min2 (w64 ((w64 (w1.node.next.a0 - 1)) - w1.node.base)) (w1.node.log.length : Int))).toNat)).length : Int) 8)).toNat))) fun r36 =>
                        ob (send i1 (Msg.mk 3 0 0 0 (w64 (w1.node.next.a0 - 1)) w1.node.baseTerm w1.node.commit false r36 s_empty) w1) fun y37 =>
                        some y37)
                        (none))
                      (none)))
                  (none))
                (none))
              (none))
            (cond (decide (i1 = 1))
              (cond (decide (0 ≤ (min2 (w64 ((w64 (w1.node.next.a1 - 1)) - w1.node.base)) (w1.node.log.length : Int))))
                (cond (decide ((min2 (w64 ((w64 (w1.node.next.a1 - 1)) - w1.node.base)) (w1.node.log.length : Int)) ≤ (w1.node.log.length : Int)))
                  (cond (decide ((w1.node.log.length : Int) ≤ (w1.node.log.length : Int)))
                    (cond ((cond (decide ((w64 ((w64 ((w64 (w1.node.next.a1 - 1)) - w1.node.base)) - 1)) ≥ 0)) (decide ((w64 ((w64 ((w64 (w1.node.next.a1 - 1)) - w1.node.base)) - 1)) < (w1.node.log.length : Int))) false))
                      (cond (decide (0 ≤ (w64 ((w64 ((w64 (w1.node.next.a1 - 1)) - w1.node.base)) - 1))))
                        (ob (w1.node.log[((w64 ((w64 ((w64 (w1.node.next.a1 - 1)) - w1.node.base)) - 1))).toNat]?) fun e38 =>
                        cond (decide (0 ≤ (min2 (((w1.node.log.take (((w1.node.log.length : Int)).toNat)).drop (((min2 (w64 ((w64 (w1.node.next.a1 - 1)) - w1.node.base)) (w1.node.log.length : Int))).toNat)).length : Int) 8)))
                          (cond (decide ((min2 (((w1.node.log.take (((w1.node.log.length : Int)).toNat)).drop (((min2 (w64 ((w64 (w1.node.next.a1 - 1)) - w1.node.base)) (w1.node.log.length : Int))).toNat)).length : Int) 8) ≤ (((w1.node.log.take (((w1.node.log.length : Int)).toNat)).drop (((min2 (w64 ((w64 (w1.node.next.a1 - 1)) - w1.node.base)) (w1.node.log.length : Int))).toNat)).length : Int)))
                            (ob (own (((w1.node.log.take (((w1.node.log.length : Int)).toNat)).drop (((min2 (w64 ((w64 (w1.node.next.a1 - 1)) - w1.node.base)) (w1.node.log.length : Int))).toNat)).take (((min2 (((w1.node.log.take (((w1.node.log.length : Int)).toNat)).drop (((min2 (w64 ((w64 (w1.node.next.a1 - 1)) - w1.node.base)) (w1.node.log.length : Int))).toNat)).length : Int) 8)).toNat))) fun r39 =>
                            ob (send i1 (Msg.mk 3 0 0 0 (w64 (w1.node.next.a1 - 1)) e38.term_ w1.node.commit false r39 s_empty) w1) fun y40 =>
                            some y40)
                            (none))
                          (none))
                        (none))
                      (cond (decide (0 ≤ (min2 (((w1.node.log.take (((w1.node.log.length : Int)).toNat)).drop (((min2 (w64 ((w64 (w1.node.next.a1 - 1)) - w1.node.base)) (w1.node.log.length : Int))).toNat)).length : Int) 8)))
                        (cond (decide ((min2 (((w1.node.log.take (((w1.node.log.length : Int)).toNat)).drop (((min2 (w64 ((w64 (w1.node.next.a1 - 1)) - w1.node.base)) (w1.node.log.length : Int))).toNat)).length : Int) 8) ≤ (((w1.node.log.take (((w1.node.log.length : Int)).toNat)).drop (((min2 (w64 ((w64 (w1.node.next.a1 - 1)) - w1.node.base)) (w1.node.log.length : Int))).toNat)).length : Int)))
                          (ob (own (((w1.node.log.take (((w1.node.log.length : Int)).toNat)).drop (((min2 (w64 ((w64 (w1.node.next.a1 - 1)) - w1.node.base)) (w1.node.log.length : Int))).toNat)).take (((min2 (((w1.node.log.take (((w1.node.log.length : Int)).toNat)).drop (((min2 (w64 ((w64 (w1.node.next.a1 - 1)) - w1.node.base)) (w1.node.log.length : Int))).toNat)).length : Int) 8)).toNat))) fun r41 =>
                          ob (send i1 (Msg.mk 3 0 0 0 (w64 (w1.node.next.a1 - 1)) w1.node.baseTerm w1.node.commit false r41 s_empty) w1) fun y42 =>
                          some y42)
                          (none))
                        (none)))
                    (none))
                  (none))
                (none))
              (cond (decide (i1 = 2))
                (cond (decide (0 ≤ (min2 (w64 ((w64 (w1.node.next.a2 - 1)) - w1.node.base)) (w1.node.log.length : Int))))
                  (cond (decide ((min2 (w64 ((w64 (w1.node.next.a2 - 1)) - w1.node.base)) (w1.node.log.length : Int)) ≤ (w1.node.log.length : Int)))
                    (cond (decide ((w1.node.log.length : Int) ≤ (w1.node.log.length : Int)))
                      (cond ((cond (decide ((w64 ((w64 ((w64 (w1.node.next.a2 - 1)) - w1.node.base)) - 1)) ≥ 0)) (decide ((w64 ((w64 ((w64 (w1.node.next.a2 - 1)) - w1.node.base)) - 1)) < (w1.node.log.length : Int))) false))
                        (cond (decide (0 ≤ (w64 ((w64 ((w64 (w1.node.next.a2 - 1)) - w1.node.base)) - 1))))
                          (ob (w1.node.log[((w64 ((w64 ((w64 (w1.node.next.a2 - 1)) - w1.node.base)) - 1))).toNat]?) fun e43 =>
                          cond (decide (0 ≤ (min2 (((w1.node.log.take (((w1.node.log.length : Int)).toNat)).drop (((min2 (w64 ((w64 (w1.node.next.a2 - 1)) - w1.node.base)) (w1.node.log.length : Int))).toNat)).length : Int) 8)))
                            (cond (decide ((min2 (((w1.node.log.take (((w1.node.log.length : Int)).toNat)).drop (((min2 (w64 ((w64 (w1.node.next.a2 - 1)) - w1.node.base)) (w1.node.log.length : Int))).toNat)).length : Int) 8) ≤ (((w1.node.log.take (((w1.node.log.length : Int)).toNat)).drop (((min2 (w64 ((w64 (w1.node.next.a2 - 1)) - w1.node.base)) (w1.node.log.length : Int))).toNat)).length : Int)))
                              (ob (own (((w1.node.log.take (((w1.node.log.length : Int)).toNat)).drop (((min2 (w64 ((w64 (w1.node.next.a2 - 1)) - w1.node.base)) (w1.node.log.length : Int))).toNat)).take (((min2 (((w1.node.log.take (((w1.node.log.length : Int)).toNat)).drop (((min2 (w64 ((w64 (w1.node.next.a2 - 1)) - w1.node.base)) (w1.node.log.length : Int))).toNat)).length : Int) 8)).toNat))) fun r44 =>
                              ob (send i1 (Msg.mk 3 0 0 0 (w64 (w1.node.next.a2 - 1)) e43.term_ w1.node.commit false r44 s_empty) w1) fun y45 =>
                              some y45)
                              (none))
                            (none))
                          (none))
                        (cond (decide (0 ≤ (min2 (((w1.node.log.take (((w1.node.log.length : Int)).toNat)).drop (((min2 (w64 ((w64 (w1.node.next.a2 - 1)) - w1.node.base)) (w1.node.log.length : Int))).toNat)).length : Int) 8)))
                          (cond (decide ((min2 (((w1.node.log.take (((w1.node.log.length : Int)).toNat)).drop (((min2 (w64 ((w64 (w1.node.next.a2 - 1)) - w1.node.base)) (w1.node.log.length : Int))).toNat)).length : Int) 8) ≤ (((w1.node.log.take (((w1.node.log.length : Int)).toNat)).drop (((min2 (w64 ((w64 (w1.node.next.a2 - 1)) - w1.node.base)) (w1.node.log.length : Int))).toNat)).length : Int)))
                            (ob (own (((w1.node.log.take (((w1.node.log.length : Int)).toNat)).drop (((min2 (w64 ((w64 (w1.node.next.a2 - 1)) - w1.node.base)) (w1.node.log.length : Int))).toNat)).take (((min2 (((w1.node.log.take (((w1.node.log.length : Int)).toNat)).drop (((min2 (w64 ((w64 (w1.node.next.a2 - 1)) - w1.node.base)) (w1.node.log.length : Int))).toNat)).length : Int) 8)).toNat))) fun r46 =>
                            ob (send i1 (Msg.mk 3 0 0 0 (w64 (w1.node.next.a2 - 1)) w1.node.baseTerm w1.node.commit false r46 s_empty) w1) fun y47 =>
                            some y47)
                            (none))
                          (none)))
                      (none))
                    (none))
                  (none))
                (none)))))
        (none)))
def ch_owe : Cod (Cst TL) (Int × Worker) := Cod.iso (Cod.cst 2 (Cod.cons (Cod.xs (Cod.sc (Cod.ptr 0 0))) (Cod.cons (Cod.xs (Cod.sc (Cod.im (Cod.int .i64)))) (Cod.nil))) (Cod.cons (Cod.var 0 68 (Cod.cons (Cod.im (Cod.int .i64)) (Cod.cons (Cod.im (Cod.int .i64)) (Cod.cons (Cod.im (Cod.int .i64)) (Cod.cons (Cod.im (Cod.int .i64)) (Cod.cons (Cod.im (Cod.int .i64)) (Cod.cons (Cod.im Cod.str) (Cod.cons (Cod.im (Cod.fz j_lEntry)) (Cod.cons (Cod.im (Cod.int .i64)) (Cod.cons (Cod.im (Cod.int .i64)) (Cod.cons (Cod.im (Cod.int .i64)) (Cod.cons (Cod.im Cod.bool) (Cod.cons (Cod.im Cod.bool) (Cod.cons (Cod.im Cod.bool) (Cod.cons (Cod.im (Cod.int .i64)) (Cod.cons (Cod.im (Cod.int .i64)) (Cod.cons (Cod.im (Cod.int .i64)) (Cod.cons (Cod.im (Cod.int .i64)) (Cod.cons (Cod.im (Cod.int .i64)) (Cod.cons (Cod.im (Cod.int .i64)) (Cod.cons (Cod.ar 1) (Cod.nil)))))))))))))))))))))) (Cod.cons (Cod.arr 1 39 j_lMsg) (Cod.nil)))) (fun p => (p.1.2.1, (Worker.mk (Node.mk p.2.1.1 p.2.1.2.1 p.2.1.2.2.1 p.2.1.2.2.2.1 p.2.1.2.2.2.2.1 p.2.1.2.2.2.2.2.1 p.2.1.2.2.2.2.2.2.1 p.2.1.2.2.2.2.2.2.2.1 p.2.1.2.2.2.2.2.2.2.2.1 p.2.1.2.2.2.2.2.2.2.2.2.1 (A3Bool.mk p.2.1.2.2.2.2.2.2.2.2.2.2.1 p.2.1.2.2.2.2.2.2.2.2.2.2.2.1 p.2.1.2.2.2.2.2.2.2.2.2.2.2.2.1) (A3Int.mk p.2.1.2.2.2.2.2.2.2.2.2.2.2.2.2.1 p.2.1.2.2.2.2.2.2.2.2.2.2.2.2.2.2.1 p.2.1.2.2.2.2.2.2.2.2.2.2.2.2.2.2.2.1) (A3Int.mk p.2.1.2.2.2.2.2.2.2.2.2.2.2.2.2.2.2.2.1 p.2.1.2.2.2.2.2.2.2.2.2.2.2.2.2.2.2.2.2.1 p.2.1.2.2.2.2.2.2.2.2.2.2.2.2.2.2.2.2.2.2.1)) p.2.2.1))) (fun (x : Int × Worker) => (((), (x.1, ())), ((x.2.node.id_, (x.2.node.term_, (x.2.node.vote, (x.2.node.base, (x.2.node.baseTerm, (x.2.node.snap, (x.2.node.log, (x.2.node.role, (x.2.node.commit, (x.2.node.wait, (x.2.node.votes.a0, (x.2.node.votes.a1, (x.2.node.votes.a2, (x.2.node.next.a0, (x.2.node.next.a1, (x.2.node.next.a2, (x.2.node.match_.a0, (x.2.node.match_.a1, (x.2.node.match_.a2, ((), ())))))))))))))))))))), (x.2.out, ())))) (fun _ => rfl)
def co_owe : Cod (Cst TL) (Worker) := Cod.iso (Cod.cst 5 (Cod.cons (Cod.xt (Cod.nil)) (Cod.nil)) (Cod.cons (Cod.var 0 68 (Cod.cons (Cod.im (Cod.int .i64)) (Cod.cons (Cod.im (Cod.int .i64)) (Cod.cons (Cod.im (Cod.int .i64)) (Cod.cons (Cod.im (Cod.int .i64)) (Cod.cons (Cod.im (Cod.int .i64)) (Cod.cons (Cod.im Cod.str) (Cod.cons (Cod.im (Cod.fz j_lEntry)) (Cod.cons (Cod.im (Cod.int .i64)) (Cod.cons (Cod.im (Cod.int .i64)) (Cod.cons (Cod.im (Cod.int .i64)) (Cod.cons (Cod.im Cod.bool) (Cod.cons (Cod.im Cod.bool) (Cod.cons (Cod.im Cod.bool) (Cod.cons (Cod.im (Cod.int .i64)) (Cod.cons (Cod.im (Cod.int .i64)) (Cod.cons (Cod.im (Cod.int .i64)) (Cod.cons (Cod.im (Cod.int .i64)) (Cod.cons (Cod.im (Cod.int .i64)) (Cod.cons (Cod.im (Cod.int .i64)) (Cod.cons (Cod.ar 4) (Cod.nil)))))))))))))))))))))) (Cod.cons (Cod.dead 1) (Cod.cons (Cod.arr 4 39 j_lMsg) (Cod.nil))))) (fun p => (Worker.mk (Node.mk p.2.1.1 p.2.1.2.1 p.2.1.2.2.1 p.2.1.2.2.2.1 p.2.1.2.2.2.2.1 p.2.1.2.2.2.2.2.1 p.2.1.2.2.2.2.2.2.1 p.2.1.2.2.2.2.2.2.2.1 p.2.1.2.2.2.2.2.2.2.2.1 p.2.1.2.2.2.2.2.2.2.2.2.1 (A3Bool.mk p.2.1.2.2.2.2.2.2.2.2.2.2.1 p.2.1.2.2.2.2.2.2.2.2.2.2.2.1 p.2.1.2.2.2.2.2.2.2.2.2.2.2.2.1) (A3Int.mk p.2.1.2.2.2.2.2.2.2.2.2.2.2.2.2.1 p.2.1.2.2.2.2.2.2.2.2.2.2.2.2.2.2.1 p.2.1.2.2.2.2.2.2.2.2.2.2.2.2.2.2.2.1) (A3Int.mk p.2.1.2.2.2.2.2.2.2.2.2.2.2.2.2.2.2.2.1 p.2.1.2.2.2.2.2.2.2.2.2.2.2.2.2.2.2.2.2.1 p.2.1.2.2.2.2.2.2.2.2.2.2.2.2.2.2.2.2.2.2.1)) p.2.2.2.1)) (fun (x : Worker) => (((), ()), ((x.node.id_, (x.node.term_, (x.node.vote, (x.node.base, (x.node.baseTerm, (x.node.snap, (x.node.log, (x.node.role, (x.node.commit, (x.node.wait, (x.node.votes.a0, (x.node.votes.a1, (x.node.votes.a2, (x.node.next.a0, (x.node.next.a1, (x.node.next.a2, (x.node.match_.a0, (x.node.match_.a1, (x.node.match_.a2, ((), ())))))))))))))))))))), ((), (x.out, ()))))) (fun _ => rfl)
def un_owe (p : Int × Worker) : Option (Worker) := owe p.1 p.2
noncomputable def sf_owe : SFn TL := SFn.one ch_owe.dec un_owe .normal co_owe.enc
noncomputable def cs_owe : List (Nat × DFn TL) := [(35, df_own)]
noncomputable def ss_owe : List (Nat × SFn TL) := [(46, sf_send)]
noncomputable def env_owe : Env := envOf tab sl sh [(32, fd32), (23, fd23)] [(46, .sum), (35, (.fresh 32))]
theorem env_owe_ok : EnvOK Try.prog (mkD cs_owe ss_owe) env_owe := envOK_of base (all_cons (st32.okl rfl (all_nil)) (all_cons (st23.okl rfl (all_nil)) (all_nil))) (all_cons (okS rfl ok_send) (all_cons (okD rfl ok_own) (all_nil)))
theorem run_owe (x : Int × Worker) : Out.run (mkO cs_owe ss_owe) (evSum env_owe 12 20 32 (ch_owe.enc x)) (back1 co_owe) = un_owe x := by kernel_rfl
theorem ok_owe : SOK Try.prog 32 sf_owe := sum_one env_owe_ok (loops := 12) (n := 20) st32.enters ch_owe co_owe un_owe run_owe
/-- replica.worker).stand -/
def stand (w1 : Worker) : Option (Worker) :=
  cond (decide (w1.node.id_ = 0))
    (ob (last_ (Node.mk w1.node.id_ (w64 (w1.node.term_ + 1)) w1.node.id_ w1.node.base w1.node.baseTerm w1.node.snap w1.node.log 1 w1.node.commit 0 (A3Bool.mk true false false) w1.node.next w1.node.match_)) fun r0 =>
    cond ((0 != w1.node.id_))
      (ob (send 0 (Msg.mk 1 0 0 0 r0.1 r0.2 0 false [] s_empty) (Worker.mk (Node.mk w1.node.id_ (w64 (w1.node.term_ + 1)) w1.node.id_ w1.node.base w1.node.baseTerm w1.node.snap w1.node.log 1 w1.node.commit 0 (A3Bool.mk true false false) w1.node.next w1.node.match_) w1.out)) fun y1 =>
      cond ((1 != y1.node.id_))
        (ob (send 1 (Msg.mk 1 0 0 0 r0.1 r0.2 0 false [] s_empty) y1) fun y2 =>
        cond ((2 != y2.node.id_))
          (ob (send 2 (Msg.mk 1 0 0 0 r0.1 r0.2 0 false [] s_empty) y2) fun y3 =>
          some y3)
          (some y2))
        (cond ((2 != y1.node.id_))
          (ob (send 2 (Msg.mk 1 0 0 0 r0.1 r0.2 0 false [] s_empty) y1) fun y4 =>
          some y4)
          (some y1)))
      (cond ((1 != w1.node.id_))
        (ob (send 1 (Msg.mk 1 0 0 0 r0.1 r0.2 0 false [] s_empty) (Worker.mk (Node.mk w1.node.id_ (w64 (w1.node.term_ + 1)) w1.node.id_ w1.node.base w1.node.baseTerm w1.node.snap w1.node.log 1 w1.node.commit 0 (A3Bool.mk true false false) w1.node.next w1.node.match_) w1.out)) fun y5 =>
        cond ((2 != y5.node.id_))
          (ob (send 2 (Msg.mk 1 0 0 0 r0.1 r0.2 0 false [] s_empty) y5) fun y6 =>
          some y6)
          (some y5))
        (cond ((2 != w1.node.id_))
          (ob (send 2 (Msg.mk 1 0 0 0 r0.1 r0.2 0 false [] s_empty) (Worker.mk (Node.mk w1.node.id_ (w64 (w1.node.term_ + 1)) w1.node.id_ w1.node.base w1.node.baseTerm w1.node.snap w1.node.log 1 w1.node.commit 0 (A3Bool.mk true false false) w1.node.next w1.node.match_) w1.out)) fun y7 =>
          some y7)
          (some (Worker.mk (Node.mk w1.node.id_ (w64 (w1.node.term_ + 1)) w1.node.id_ w1.node.base w1.node.baseTerm w1.node.snap w1.node.log 1 w1.node.commit 0 (A3Bool.mk true false false) w1.node.next w1.node.match_) w1.out)))))
    (cond (decide (w1.node.id_ = 1))
      (ob (last_ (Node.mk w1.node.id_ (w64 (w1.node.term_ + 1)) w1.node.id_ w1.node.base w1.node.baseTerm w1.node.snap w1.node.log 1 w1.node.commit 0 (A3Bool.mk false true false) w1.node.next w1.node.match_)) fun r8 =>
      cond ((0 != w1.node.id_))
        (ob (send 0 (Msg.mk 1 0 0 0 r8.1 r8.2 0 false [] s_empty) (Worker.mk (Node.mk w1.node.id_ (w64 (w1.node.term_ + 1)) w1.node.id_ w1.node.base w1.node.baseTerm w1.node.snap w1.node.log 1 w1.node.commit 0 (A3Bool.mk false true false) w1.node.next w1.node.match_) w1.out)) fun y9 =>
        cond ((1 != y9.node.id_))
          (ob (send 1 (Msg.mk 1 0 0 0 r8.1 r8.2 0 false [] s_empty) y9) fun y10 =>
          cond ((2 != y10.node.id_))
            (ob (send 2 (Msg.mk 1 0 0 0 r8.1 r8.2 0 false [] s_empty) y10) fun y11 =>
            some y11)
            (some y10))
          (cond ((2 != y9.node.id_))
            (ob (send 2 (Msg.mk 1 0 0 0 r8.1 r8.2 0 false [] s_empty) y9) fun y12 =>
            some y12)
            (some y9)))
        (cond ((1 != w1.node.id_))
          (ob (send 1 (Msg.mk 1 0 0 0 r8.1 r8.2 0 false [] s_empty) (Worker.mk (Node.mk w1.node.id_ (w64 (w1.node.term_ + 1)) w1.node.id_ w1.node.base w1.node.baseTerm w1.node.snap w1.node.log 1 w1.node.commit 0 (A3Bool.mk false true false) w1.node.next w1.node.match_) w1.out)) fun y13 =>
          cond ((2 != y13.node.id_))
            (ob (send 2 (Msg.mk 1 0 0 0 r8.1 r8.2 0 false [] s_empty) y13) fun y14 =>
            some y14)
            (some y13))
          (cond ((2 != w1.node.id_))
            (ob (send 2 (Msg.mk 1 0 0 0 r8.1 r8.2 0 false [] s_empty) (Worker.mk (Node.mk w1.node.id_ (w64 (w1.node.term_ + 1)) w1.node.id_ w1.node.base w1.node.baseTerm w1.node.snap w1.node.log 1 w1.node.commit 0 (A3Bool.mk false true false) w1.node.next w1.node.match_) w1.out)) fun y15 =>
            some y15)
            (some (Worker.mk (Node.mk w1.node.id_ (w64 (w1.node.term_ + 1)) w1.node.id_ w1.node.base w1.node.baseTerm w1.node.snap w1.node.log 1 w1.node.commit 0 (A3Bool.mk false true false) w1.node.next w1.node.match_) w1.out)))))
      (cond (decide (w1.node.id_ = 2))
        (ob (last_ (Node.mk w1.node.id_ (w64 (w1.node.term_ + 1)) w1.node.id_ w1.node.base w1.node.baseTerm w1.node.snap w1.node.log 1 w1.node.commit 0 (A3Bool.mk false false true) w1.node.next w1.node.match_)) fun r16 =>
        cond ((0 != w1.node.id_))
          (ob (send 0 (Msg.mk 1 0 0 0 r16.1 r16.2 0 false [] s_empty) (Worker.mk (Node.mk w1.node.id_ (w64 (w1.node.term_ + 1)) w1.node.id_ w1.node.base w1.node.baseTerm w1.node.snap w1.node.log 1 w1.node.commit 0 (A3Bool.mk false false true) w1.node.next w1.node.match_) w1.out)) fun y17 =>
          cond ((1 != y17.node.id_))
            (ob (send 1 (Msg.mk 1 0 0 0 r16.1 r16.2 0 false [] s_empty) y17) fun y18 =>
            cond ((2 != y18.node.id_))
              (ob (send 2 (Msg.mk 1 0 0 0 r16.1 r16.2 0 false [] s_empty) y18) fun y19 =>
              some y19)
              (some y18))
            (cond ((2 != y17.node.id_))
              (ob (send 2 (Msg.mk 1 0 0 0 r16.1 r16.2 0 false [] s_empty) y17) fun y20 =>
              some y20)
              (some y17)))
          (cond ((1 != w1.node.id_))
            (ob (send 1 (Msg.mk 1 0 0 0 r16.1 r16.2 0 false [] s_empty) (Worker.mk (Node.mk w1.node.id_ (w64 (w1.node.term_ + 1)) w1.node.id_ w1.node.base w1.node.baseTerm w1.node.snap w1.node.log 1 w1.node.commit 0 (A3Bool.mk false false true) w1.node.next w1.node.match_) w1.out)) fun y21 =>
            cond ((2 != y21.node.id_))
              (ob (send 2 (Msg.mk 1 0 0 0 r16.1 r16.2 0 false [] s_empty) y21) fun y22 =>
              some y22)
              (some y21))
            (cond ((2 != w1.node.id_))
              (ob (send 2 (Msg.mk 1 0 0 0 r16.1 r16.2 0 false [] s_empty) (Worker.mk (Node.mk w1.node.id_ (w64 (w1.node.term_ + 1)) w1.node.id_ w1.node.base w1.node.baseTerm w1.node.snap w1.node.log 1 w1.node.commit 0 (A3Bool.mk false false true) w1.node.next w1.node.match_) w1.out)) fun y23 =>
              some y23)
              (some (Worker.mk (Node.mk w1.node.id_ (w64 (w1.node.term_ + 1)) w1.node.id_ w1.node.base w1.node.baseTerm w1.node.snap w1.node.log 1 w1.node.commit 0 (A3Bool.mk false false true) w1.node.next w1.node.match_) w1.out)))))
        (none)))
def ch_stand : Cod (Cst TL) (Worker) := Cod.iso (Cod.cst 2 (Cod.cons (Cod.xs (Cod.sc (Cod.ptr 0 0))) (Cod.nil)) (Cod.cons (Cod.var 0 68 (Cod.cons (Cod.im (Cod.int .i64)) (Cod.cons (Cod.im (Cod.int .i64)) (Cod.cons (Cod.im (Cod.int .i64)) (Cod.cons (Cod.im (Cod.int .i64)) (Cod.cons (Cod.im (Cod.int .i64)) (Cod.cons (Cod.im Cod.str) (Cod.cons (Cod.im (Cod.fz j_lEntry)) (Cod.cons (Cod.im (Cod.int .i64)) (Cod.cons (Cod.im (Cod.int .i64)) (Cod.cons (Cod.im (Cod.int .i64)) (Cod.cons (Cod.im Cod.bool) (Cod.cons (Cod.im Cod.bool) (Cod.cons (Cod.im Cod.bool) (Cod.cons (Cod.im (Cod.int .i64)) (Cod.cons (Cod.im (Cod.int .i64)) (Cod.cons (Cod.im (Cod.int .i64)) (Cod.cons (Cod.im (Cod.int .i64)) (Cod.cons (Cod.im (Cod.int .i64)) (Cod.cons (Cod.im (Cod.int .i64)) (Cod.cons (Cod.ar 1) (Cod.nil)))))))))))))))))))))) (Cod.cons (Cod.arr 1 39 j_lMsg) (Cod.nil)))) (fun p => (Worker.mk (Node.mk p.2.1.1 p.2.1.2.1 p.2.1.2.2.1 p.2.1.2.2.2.1 p.2.1.2.2.2.2.1 p.2.1.2.2.2.2.2.1 p.2.1.2.2.2.2.2.2.1 p.2.1.2.2.2.2.2.2.2.1 p.2.1.2.2.2.2.2.2.2.2.1 p.2.1.2.2.2.2.2.2.2.2.2.1 (A3Bool.mk p.2.1.2.2.2.2.2.2.2.2.2.2.1 p.2.1.2.2.2.2.2.2.2.2.2.2.2.1 p.2.1.2.2.2.2.2.2.2.2.2.2.2.2.1) (A3Int.mk p.2.1.2.2.2.2.2.2.2.2.2.2.2.2.2.1 p.2.1.2.2.2.2.2.2.2.2.2.2.2.2.2.2.1 p.2.1.2.2.2.2.2.2.2.2.2.2.2.2.2.2.2.1) (A3Int.mk p.2.1.2.2.2.2.2.2.2.2.2.2.2.2.2.2.2.2.1 p.2.1.2.2.2.2.2.2.2.2.2.2.2.2.2.2.2.2.2.1 p.2.1.2.2.2.2.2.2.2.2.2.2.2.2.2.2.2.2.2.2.1)) p.2.2.1)) (fun (x : Worker) => (((), ()), ((x.node.id_, (x.node.term_, (x.node.vote, (x.node.base, (x.node.baseTerm, (x.node.snap, (x.node.log, (x.node.role, (x.node.commit, (x.node.wait, (x.node.votes.a0, (x.node.votes.a1, (x.node.votes.a2, (x.node.next.a0, (x.node.next.a1, (x.node.next.a2, (x.node.match_.a0, (x.node.match_.a1, (x.node.match_.a2, ((), ())))))))))))))))))))), (x.out, ())))) (fun _ => rfl)
def co_stand : Cod (Cst TL) (Worker) := Cod.iso (Cod.cst 5 (Cod.cons (Cod.xt (Cod.nil)) (Cod.nil)) (Cod.cons (Cod.var 0 68 (Cod.cons (Cod.im (Cod.int .i64)) (Cod.cons (Cod.im (Cod.int .i64)) (Cod.cons (Cod.im (Cod.int .i64)) (Cod.cons (Cod.im (Cod.int .i64)) (Cod.cons (Cod.im (Cod.int .i64)) (Cod.cons (Cod.im Cod.str) (Cod.cons (Cod.im (Cod.fz j_lEntry)) (Cod.cons (Cod.im (Cod.int .i64)) (Cod.cons (Cod.im (Cod.int .i64)) (Cod.cons (Cod.im (Cod.int .i64)) (Cod.cons (Cod.im Cod.bool) (Cod.cons (Cod.im Cod.bool) (Cod.cons (Cod.im Cod.bool) (Cod.cons (Cod.im (Cod.int .i64)) (Cod.cons (Cod.im (Cod.int .i64)) (Cod.cons (Cod.im (Cod.int .i64)) (Cod.cons (Cod.im (Cod.int .i64)) (Cod.cons (Cod.im (Cod.int .i64)) (Cod.cons (Cod.im (Cod.int .i64)) (Cod.cons (Cod.ar 4) (Cod.nil)))))))))))))))))))))) (Cod.cons (Cod.dead 1) (Cod.cons (Cod.arr 4 39 j_lMsg) (Cod.nil))))) (fun p => (Worker.mk (Node.mk p.2.1.1 p.2.1.2.1 p.2.1.2.2.1 p.2.1.2.2.2.1 p.2.1.2.2.2.2.1 p.2.1.2.2.2.2.2.1 p.2.1.2.2.2.2.2.2.1 p.2.1.2.2.2.2.2.2.2.1 p.2.1.2.2.2.2.2.2.2.2.1 p.2.1.2.2.2.2.2.2.2.2.2.1 (A3Bool.mk p.2.1.2.2.2.2.2.2.2.2.2.2.1 p.2.1.2.2.2.2.2.2.2.2.2.2.2.1 p.2.1.2.2.2.2.2.2.2.2.2.2.2.2.1) (A3Int.mk p.2.1.2.2.2.2.2.2.2.2.2.2.2.2.2.1 p.2.1.2.2.2.2.2.2.2.2.2.2.2.2.2.2.1 p.2.1.2.2.2.2.2.2.2.2.2.2.2.2.2.2.2.1) (A3Int.mk p.2.1.2.2.2.2.2.2.2.2.2.2.2.2.2.2.2.2.1 p.2.1.2.2.2.2.2.2.2.2.2.2.2.2.2.2.2.2.2.1 p.2.1.2.2.2.2.2.2.2.2.2.2.2.2.2.2.2.2.2.2.1)) p.2.2.2.1)) (fun (x : Worker) => (((), ()), ((x.node.id_, (x.node.term_, (x.node.vote, (x.node.base, (x.node.baseTerm, (x.node.snap, (x.node.log, (x.node.role, (x.node.commit, (x.node.wait, (x.node.votes.a0, (x.node.votes.a1, (x.node.votes.a2, (x.node.next.a0, (x.node.next.a1, (x.node.next.a2, (x.node.match_.a0, (x.node.match_.a1, (x.node.match_.a2, ((), ())))))))))))))))))))), ((), (x.out, ()))))) (fun _ => rfl)
def un_stand (p : Worker) : Option (Worker) := stand p
noncomputable def sf_stand : SFn TL := SFn.one ch_stand.dec un_stand .normal co_stand.enc
noncomputable def cs_stand : List (Nat × DFn TL) := [(12, df_last_)]
noncomputable def ss_stand : List (Nat × SFn TL) := [(46, sf_send)]
noncomputable def env_stand : Env := envOf tab sl sh [(33, fd33), (31, fd31), (49, fd49)] [(12, .pure), (46, .sum)]
theorem env_stand_ok : EnvOK Try.prog (mkD cs_stand ss_stand) env_stand := envOK_of base (all_cons (st33.okl rfl (all_nil)) (all_cons (st31.okl rfl (all_nil)) (all_cons (st49.okl rfl (all_nil)) (all_nil)))) (all_cons (okD rfl ok_last_) (all_cons (okS rfl ok_send) (all_nil)))
theorem run_stand (x : Worker) : Out.run (mkO cs_stand ss_stand) (evSum env_stand 12 20 33 (ch_stand.enc x)) (back1 co_stand) = un_stand x := by kernel_rfl
theorem ok_stand : SOK Try.prog 33 sf_stand := sum_one env_stand_ok (loops := 12) (n := 20) st33.enters ch_stand co_stand un_stand run_stand
/-- replica.Tick -/
def tick (n1 : Node) : Option (Node × (List Msg)) :=
  ob (own n1.log) fun r0 =>
  cond ((n1.role == 2))
    (cond ((0 != n1.id_))
      (ob (owe 0 (Worker.mk (Node.mk n1.id_ n1.term_ n1.vote n1.base n1.baseTerm n1.snap r0 n1.role n1.commit n1.wait n1.votes n1.next n1.match_) [])) fun y1 =>
      cond ((1 != y1.node.id_))
        (ob (owe 1 y1) fun y2 =>
        cond ((2 != y2.node.id_))
          (ob (owe 2 y2) fun y3 =>
          ob (own y3.node.log) fun r8 =>
          some ((Node.mk y3.node.id_ y3.node.term_ y3.node.vote y3.node.base y3.node.baseTerm y3.node.snap r8 y3.node.role y3.node.commit y3.node.wait y3.node.votes y3.node.next y3.node.match_), y3.out))
          (ob (own y2.node.log) fun r9 =>
          some ((Node.mk y2.node.id_ y2.node.term_ y2.node.vote y2.node.base y2.node.baseTerm y2.node.snap r9 y2.node.role y2.node.commit y2.node.wait y2.node.votes y2.node.next y2.node.match_), y2.out)))
        (cond ((2 != y1.node.id_))
          (ob (owe 2 y1) fun y4 =>
          ob (own y4.node.log) fun r10 =>
          some ((Node.mk y4.node.id_ y4.node.term_ y4.node.vote y4.node.base y4.node.baseTerm y4.node.snap r10 y4.node.role y4.node.commit y4.node.wait y4.node.votes y4.node.next y4.node.match_), y4.out))
          (ob (own y1.node.log) fun r11 =>
          some ((Node.mk y1.node.id_ y1.node.term_ y1.node.vote y1.node.base y1.node.baseTerm y1.node.snap r11 y1.node.role y1.node.commit y1.node.wait y1.node.votes y1.node.next y1.node.match_), y1.out))))
      (cond ((1 != n1.id_))
        (ob (owe 1 (Worker.mk (Node.mk n1.id_ n1.term_ n1.vote n1.base n1.baseTerm n1.snap r0 n1.role n1.commit n1.wait n1.votes n1.next n1.match_) [])) fun y5 =>
        cond ((2 != y5.node.id_))
          (ob (owe 2 y5) fun y6 =>
          ob (own y6.node.log) fun r12 =>
          some ((Node.mk y6.node.id_ y6.node.term_ y6.node.vote y6.node.base y6.node.baseTerm y6.node.snap r12 y6.node.role y6.node.commit y6.node.wait y6.node.votes y6.node.next y6.node.match_), y6.out))
          (ob (own y5.node.log) fun r13 =>
          some ((Node.mk y5.node.id_ y5.node.term_ y5.node.vote y5.node.base y5.node.baseTerm y5.node.snap r13 y5.node.role y5.node.commit y5.node.wait y5.node.votes y5.node.next y5.node.match_), y5.out)))
        (cond ((2 != n1.id_))
          (ob (owe 2 (Worker.mk (Node.mk n1.id_ n1.term_ n1.vote n1.base n1.baseTerm n1.snap r0 n1.role n1.commit n1.wait n1.votes n1.next n1.match_) [])) fun y7 =>
          ob (own y7.node.log) fun r14 =>
          some ((Node.mk y7.node.id_ y7.node.term_ y7.node.vote y7.node.base y7.node.baseTerm y7.node.snap r14 y7.node.role y7.node.commit y7.node.wait y7.node.votes y7.node.next y7.node.match_), y7.out))
          (ob (own r0) fun r15 =>
          some ((Node.mk n1.id_ n1.term_ n1.vote n1.base n1.baseTerm n1.snap r15 n1.role n1.commit n1.wait n1.votes n1.next n1.match_), [])))))
    (cond ((cond (decide ((w64 (n1.wait + 1)) ≥ (w64 (5 + (w64 (3 * n1.id_)))))) (decide (n1.term_ < 1073741824)) false))
      (ob (stand (Worker.mk (Node.mk n1.id_ n1.term_ n1.vote n1.base n1.baseTerm n1.snap r0 n1.role n1.commit (w64 (n1.wait + 1)) n1.votes n1.next n1.match_) [])) fun y16 =>
      ob (own y16.node.log) fun r17 =>
      some ((Node.mk y16.node.id_ y16.node.term_ y16.node.vote y16.node.base y16.node.baseTerm y16.node.snap r17 y16.node.role y16.node.commit y16.node.wait y16.node.votes y16.node.next y16.node.match_), y16.out))
      (ob (own r0) fun r18 =>
      some ((Node.mk n1.id_ n1.term_ n1.vote n1.base n1.baseTerm n1.snap r18 n1.role n1.commit (w64 (n1.wait + 1)) n1.votes n1.next n1.match_), [])))
def un_tick (p : Node) : Option (Node × (List Msg)) := tick p
noncomputable def df_tick : DFn TL := DFn.of (DA.one (DT.agg dc_Node)) un_tick (DA.cons (DT.agg dc_Node) (DA.one (DT.one di_lMsg)))
noncomputable def cs_tick : List (Nat × DFn TL) := [(35, df_own)]
noncomputable def ss_tick : List (Nat × SFn TL) := [(32, sf_owe), (33, sf_stand)]
noncomputable def env_tick : Env := envOf tab sl sh [(15, fd15), (24, fd24), (31, fd31), (25, fd25)] [(35, (.fresh 32)), (32, .sum), (33, .sum)]
theorem env_tick_ok : EnvOK Try.prog (mkD cs_tick ss_tick) env_tick := envOK_of base (all_cons (st15.okl rfl (all_nil)) (all_cons (st24.okl rfl (all_nil)) (all_cons (st31.okl rfl (all_nil)) (all_cons (st25.okl rfl (all_nil)) (all_nil))))) (all_cons (okD rfl ok_own) (all_cons (okS rfl ok_owe) (all_cons (okS rfl ok_stand) (all_nil))))
theorem run_tick (x : Node) : Out.run (mkO cs_tick ss_tick) (evOrc env_tick 12 20 15 ((DA.one (DT.agg dc_Node) : DA TL (Node)).enc x)) (DA.cons (DT.agg dc_Node) (DA.one (DT.one di_lMsg)) : DA TL (Node × (List Msg))).dec = un_tick x := by kernel_rfl
theorem ok_tick : DOK Try.prog 15 .keep df_tick := data_of env_tick_ok (loops := 12) (n := 20) (.inl rfl) st15.enters (DA.one (DT.agg dc_Node)) un_tick (DA.cons (DT.agg dc_Node) (DA.one (DT.one di_lMsg))) run_tick
/-- replica.worker).vote -/
def vote (m1 : Msg) (w1 : Worker) : Option (Worker) :=
  ob (last_ w1.node) fun r0 =>
  cond ((cond (m1.term_ == w1.node.term_) (cond (w1.node.vote == (-1)) (cond (decide (m1.logTerm > r0.2)) true (cond (m1.logTerm == r0.2) (decide (m1.index ≥ r0.1)) false)) (cond (w1.node.vote == m1.from_) (cond (decide (m1.logTerm > r0.2)) true (cond (m1.logTerm == r0.2) (decide (m1.index ≥ r0.1)) false)) false)) false))
    (ob (send m1.from_ (Msg.mk 2 0 0 0 0 0 0 (cond (m1.term_ == w1.node.term_) (cond (w1.node.vote == (-1)) (cond (decide (m1.logTerm > r0.2)) true (cond (m1.logTerm == r0.2) (decide (m1.index ≥ r0.1)) false)) (cond (w1.node.vote == m1.from_) (cond (decide (m1.logTerm > r0.2)) true (cond (m1.logTerm == r0.2) (decide (m1.index ≥ r0.1)) false)) false)) false) [] s_empty) (Worker.mk (Node.mk w1.node.id_ w1.node.term_ m1.from_ w1.node.base w1.node.baseTerm w1.node.snap w1.node.log w1.node.role w1.node.commit 0 w1.node.votes w1.node.next w1.node.match_) w1.out)) fun y1 =>
    some y1)
    (ob (send m1.from_ (Msg.mk 2 0 0 0 0 0 0 (cond (m1.term_ == w1.node.term_) (cond (w1.node.vote == (-1)) (cond (decide (m1.logTerm > r0.2)) true (cond (m1.logTerm == r0.2) (decide (m1.index ≥ r0.1)) false)) (cond (w1.node.vote == m1.from_) (cond (decide (m1.logTerm > r0.2)) true (cond (m1.logTerm == r0.2) (decide (m1.index ≥ r0.1)) false)) false)) false) [] s_empty) w1) fun y2 =>
    some y2)
def ch_vote : Cod (Cst TL) (Msg × Worker) := Cod.iso (Cod.cst 2 (Cod.cons (Cod.xs (Cod.sc (Cod.ptr 0 0))) (Cod.cons (Cod.xs (Cod.sa (Cod.cons (Cod.im (Cod.int .i64)) (Cod.cons (Cod.im (Cod.int .i64)) (Cod.cons (Cod.im (Cod.int .i64)) (Cod.cons (Cod.im (Cod.int .i64)) (Cod.cons (Cod.im (Cod.int .i64)) (Cod.cons (Cod.im (Cod.int .i64)) (Cod.cons (Cod.im (Cod.int .i64)) (Cod.cons (Cod.im Cod.bool) (Cod.cons (Cod.im (Cod.fz j_lEntry)) (Cod.cons (Cod.im Cod.str) (Cod.nil))))))))))))) (Cod.nil))) (Cod.cons (Cod.var 0 68 (Cod.cons (Cod.im (Cod.int .i64)) (Cod.cons (Cod.im (Cod.int .i64)) (Cod.cons (Cod.im (Cod.int .i64)) (Cod.cons (Cod.im (Cod.int .i64)) (Cod.cons (Cod.im (Cod.int .i64)) (Cod.cons (Cod.im Cod.str) (Cod.cons (Cod.im (Cod.fz j_lEntry)) (Cod.cons (Cod.im (Cod.int .i64)) (Cod.cons (Cod.im (Cod.int .i64)) (Cod.cons (Cod.im (Cod.int .i64)) (Cod.cons (Cod.im Cod.bool) (Cod.cons (Cod.im Cod.bool) (Cod.cons (Cod.im Cod.bool) (Cod.cons (Cod.im (Cod.int .i64)) (Cod.cons (Cod.im (Cod.int .i64)) (Cod.cons (Cod.im (Cod.int .i64)) (Cod.cons (Cod.im (Cod.int .i64)) (Cod.cons (Cod.im (Cod.int .i64)) (Cod.cons (Cod.im (Cod.int .i64)) (Cod.cons (Cod.ar 1) (Cod.nil)))))))))))))))))))))) (Cod.cons (Cod.arr 1 39 j_lMsg) (Cod.nil)))) (fun p => ((Msg.mk p.1.2.1.1 p.1.2.1.2.1 p.1.2.1.2.2.1 p.1.2.1.2.2.2.1 p.1.2.1.2.2.2.2.1 p.1.2.1.2.2.2.2.2.1 p.1.2.1.2.2.2.2.2.2.1 p.1.2.1.2.2.2.2.2.2.2.1 p.1.2.1.2.2.2.2.2.2.2.2.1 p.1.2.1.2.2.2.2.2.2.2.2.2.1), (Worker.mk (Node.mk p.2.1.1 p.2.1.2.1 p.2.1.2.2.1 p.2.1.2.2.2.1 p.2.1.2.2.2.2.1 p.2.1.2.2.2.2.2.1 p.2.1.2.2.2.2.2.2.1 p.2.1.2.2.2.2.2.2.2.1 p.2.1.2.2.2.2.2.2.2.2.1 p.2.1.2.2.2.2.2.2.2.2.2.1 (A3Bool.mk p.2.1.2.2.2.2.2.2.2.2.2.2.1 p.2.1.2.2.2.2.2.2.2.2.2.2.2.1 p.2.1.2.2.2.2.2.2.2.2.2.2.2.2.1) (A3Int.mk p.2.1.2.2.2.2.2.2.2.2.2.2.2.2.2.1 p.2.1.2.2.2.2.2.2.2.2.2.2.2.2.2.2.1 p.2.1.2.2.2.2.2.2.2.2.2.2.2.2.2.2.2.1) (A3Int.mk p.2.1.2.2.2.2.2.2.2.2.2.2.2.2.2.2.2.2.1 p.2.1.2.2.2.2.2.2.2.2.2.2.2.2.2.2.2.2.2.1 p.2.1.2.2.2.2.2.2.2.2.2.2.2.2.2.2.2.2.2.2.1)) p.2.2.1))) (fun (x : Msg × Worker) => (((), ((x.1.kind, (x.1.from_, (x.1.to_, (x.1.term_, (x.1.index, (x.1.logTerm, (x.1.commit, (x.1.yes, (x.1.entries, (x.1.snap, ())))))))))), ())), ((x.2.node.id_, (x.2.node.term_, (x.2.node.vote, (x.2.node.base, (x.2.node.baseTerm, (x.2.node.snap, (x.2.node.log, (x.2.node.role, (x.2.node.commit, (x.2.node.wait, (x.2.node.votes.a0, (x.2.node.votes.a1, (x.2.node.votes.a2, (x.2.node.next.a0, (x.2.node.next.a1, (x.2.node.next.a2, (x.2.node.match_.a0, (x.2.node.match_.a1, (x.2.node.match_.a2, ((), ())))))))))))))))))))), (x.2.out, ())))) (fun _ => rfl)
def co_vote : Cod (Cst TL) (Worker) := Cod.iso (Cod.cst 5 (Cod.cons (Cod.xt (Cod.nil)) (Cod.nil)) (Cod.cons (Cod.var 0 68 (Cod.cons (Cod.im (Cod.int .i64)) (Cod.cons (Cod.im (Cod.int .i64)) (Cod.cons (Cod.im (Cod.int .i64)) (Cod.cons (Cod.im (Cod.int .i64)) (Cod.cons (Cod.im (Cod.int .i64)) (Cod.cons (Cod.im Cod.str) (Cod.cons (Cod.im (Cod.fz j_lEntry)) (Cod.cons (Cod.im (Cod.int .i64)) (Cod.cons (Cod.im (Cod.int .i64)) (Cod.cons (Cod.im (Cod.int .i64)) (Cod.cons (Cod.im Cod.bool) (Cod.cons (Cod.im Cod.bool) (Cod.cons (Cod.im Cod.bool) (Cod.cons (Cod.im (Cod.int .i64)) (Cod.cons (Cod.im (Cod.int .i64)) (Cod.cons (Cod.im (Cod.int .i64)) (Cod.cons (Cod.im (Cod.int .i64)) (Cod.cons (Cod.im (Cod.int .i64)) (Cod.cons (Cod.im (Cod.int .i64)) (Cod.cons (Cod.ar 4) (Cod.nil)))))))))))))))))))))) (Cod.cons (Cod.dead 1) (Cod.cons (Cod.arr 4 39 j_lMsg) (Cod.nil))))) (fun p => (Worker.mk (Node.mk p.2.1.1 p.2.1.2.1 p.2.1.2.2.1 p.2.1.2.2.2.1 p.2.1.2.2.2.2.1 p.2.1.2.2.2.2.2.1 p.2.1.2.2.2.2.2.2.1 p.2.1.2.2.2.2.2.2.2.1 p.2.1.2.2.2.2.2.2.2.2.1 p.2.1.2.2.2.2.2.2.2.2.2.1 (A3Bool.mk p.2.1.2.2.2.2.2.2.2.2.2.2.1 p.2.1.2.2.2.2.2.2.2.2.2.2.2.1 p.2.1.2.2.2.2.2.2.2.2.2.2.2.2.1) (A3Int.mk p.2.1.2.2.2.2.2.2.2.2.2.2.2.2.2.1 p.2.1.2.2.2.2.2.2.2.2.2.2.2.2.2.2.1 p.2.1.2.2.2.2.2.2.2.2.2.2.2.2.2.2.2.1) (A3Int.mk p.2.1.2.2.2.2.2.2.2.2.2.2.2.2.2.2.2.2.1 p.2.1.2.2.2.2.2.2.2.2.2.2.2.2.2.2.2.2.2.1 p.2.1.2.2.2.2.2.2.2.2.2.2.2.2.2.2.2.2.2.2.1)) p.2.2.2.1)) (fun (x : Worker) => (((), ()), ((x.node.id_, (x.node.term_, (x.node.vote, (x.node.base, (x.node.baseTerm, (x.node.snap, (x.node.log, (x.node.role, (x.node.commit, (x.node.wait, (x.node.votes.a0, (x.node.votes.a1, (x.node.votes.a2, (x.node.next.a0, (x.node.next.a1, (x.node.next.a2, (x.node.match_.a0, (x.node.match_.a1, (x.node.match_.a2, ((), ())))))))))))))))))))), ((), (x.out, ()))))) (fun _ => rfl)
def un_vote (p : Msg × Worker) : Option (Worker) := vote p.1 p.2
noncomputable def sf_vote : SFn TL := SFn.one ch_vote.dec un_vote .normal co_vote.enc
noncomputable def cs_vote : List (Nat × DFn TL) := [(12, df_last_)]
noncomputable def ss_vote : List (Nat × SFn TL) := [(46, sf_send)]
noncomputable def env_vote : Env := envOf tab sl sh [(26, fd26)] [(12, .pure), (46, .sum)]
theorem env_vote_ok : EnvOK Try.prog (mkD cs_vote ss_vote) env_vote := envOK_of base (all_cons (st26.okl rfl (all_nil)) (all_nil)) (all_cons (okD rfl ok_last_) (all_cons (okS rfl ok_send) (all_nil)))
theorem run_vote (x : Msg × Worker) : Out.run (mkO cs_vote ss_vote) (evSum env_vote 12 20 26 (ch_vote.enc x)) (back1 co_vote) = un_vote x := by kernel_rfl
theorem ok_vote : SOK Try.prog 26 sf_vote := sum_one env_vote_ok (loops := 12) (n := 20) st26.enters ch_vote co_vote un_vote run_vote
/-- replica.worker).voted -/
def voted (m1 : Msg) (w1 : Worker) : Option (Worker) :=
  cond ((cond (m1.term_ != w1.node.term_) true (cond (w1.node.role != 1) true (!m1.yes))))
    (some w1)
    (cond (decide (m1.from_ = 0))
      (cond ((decide ((cond w1.node.votes.a2 (w64 ((cond w1.node.votes.a1 2 1) + 1)) (cond w1.node.votes.a1 2 1)) < 2)))
        (some (Worker.mk (Node.mk w1.node.id_ w1.node.term_ w1.node.vote w1.node.base w1.node.baseTerm w1.node.snap w1.node.log w1.node.role w1.node.commit w1.node.wait (A3Bool.mk true w1.node.votes.a1 w1.node.votes.a2) w1.node.next w1.node.match_) w1.out))
        (cond (fits ((w1.node.log ++ [(Entry.mk w1.node.term_ s_empty)]).length))
          (ob (last_ (Node.mk w1.node.id_ w1.node.term_ w1.node.vote w1.node.base w1.node.baseTerm w1.node.snap (w1.node.log ++ [(Entry.mk w1.node.term_ s_empty)]) 2 w1.node.commit w1.node.wait (A3Bool.mk true w1.node.votes.a1 w1.node.votes.a2) w1.node.next w1.node.match_)) fun r0 =>
          cond (decide (w1.node.id_ = 0))
            (cond ((0 != w1.node.id_))
              (ob (owe 0 (Worker.mk (Node.mk w1.node.id_ w1.node.term_ w1.node.vote w1.node.base w1.node.baseTerm w1.node.snap (w1.node.log ++ [(Entry.mk w1.node.term_ s_empty)]) 2 w1.node.commit w1.node.wait (A3Bool.mk true w1.node.votes.a1 w1.node.votes.a2) (A3Int.mk r0.1 r0.1 r0.1) (A3Int.mk r0.1 0 0)) w1.out)) fun y1 =>
              cond ((1 != y1.node.id_))
                (ob (owe 1 y1) fun y2 =>
                cond ((2 != y2.node.id_))
                  (ob (owe 2 y2) fun y3 =>
                  some y3)
                  (some y2))
                (cond ((2 != y1.node.id_))
                  (ob (owe 2 y1) fun y4 =>
                  some y4)
                  (some y1)))
              (cond ((1 != w1.node.id_))
                (ob (owe 1 (Worker.mk (Node.mk w1.node.id_ w1.node.term_ w1.node.vote w1.node.base w1.node.baseTerm w1.node.snap (w1.node.log ++ [(Entry.mk w1.node.term_ s_empty)]) 2 w1.node.commit w1.node.wait (A3Bool.mk true w1.node.votes.a1 w1.node.votes.a2) (A3Int.mk r0.1 r0.1 r0.1) (A3Int.mk r0.1 0 0)) w1.out)) fun y5 =>
                cond ((2 != y5.node.id_))
                  (ob (owe 2 y5) fun y6 =>
                  some y6)
                  (some y5))
                (cond ((2 != w1.node.id_))
                  (ob (owe 2 (Worker.mk (Node.mk w1.node.id_ w1.node.term_ w1.node.vote w1.node.base w1.node.baseTerm w1.node.snap (w1.node.log ++ [(Entry.mk w1.node.term_ s_empty)]) 2 w1.node.commit w1.node.wait (A3Bool.mk true w1.node.votes.a1 w1.node.votes.a2) (A3Int.mk r0.1 r0.1 r0.1) (A3Int.mk r0.1 0 0)) w1.out)) fun y7 =>
                  some y7)
                  (some (Worker.mk (Node.mk w1.node.id_ w1.node.term_ w1.node.vote w1.node.base w1.node.baseTerm w1.node.snap (w1.node.log ++ [(Entry.mk w1.node.term_ s_empty)]) 2 w1.node.commit w1.node.wait (A3Bool.mk true w1.node.votes.a1 w1.node.votes.a2) (A3Int.mk r0.1 r0.1 r0.1) (A3Int.mk r0.1 0 0)) w1.out)))))
            (cond (decide (w1.node.id_ = 1))
              (cond ((0 != w1.node.id_))
                (ob (owe 0 (Worker.mk (Node.mk w1.node.id_ w1.node.term_ w1.node.vote w1.node.base w1.node.baseTerm w1.node.snap (w1.node.log ++ [(Entry.mk w1.node.term_ s_empty)]) 2 w1.node.commit w1.node.wait (A3Bool.mk true w1.node.votes.a1 w1.node.votes.a2) (A3Int.mk r0.1 r0.1 r0.1) (A3Int.mk 0 r0.1 0)) w1.out)) fun y8 =>
                cond ((1 != y8.node.id_))
                  (ob (owe 1 y8) fun y9 =>
                  cond ((2 != y9.node.id_))
                    (ob (owe 2 y9) fun y10 =>
                    some y10)
                    (some y9))
                  (cond ((2 != y8.node.id_))
                    (ob (owe 2 y8) fun y11 =>
                    some y11)
                    (some y8)))
                (cond ((1 != w1.node.id_))
                  (ob (owe 1 (Worker.mk (Node.mk w1.node.id_ w1.node.term_ w1.node.vote w1.node.base w1.node.baseTerm w1.node.snap (w1.node.log ++ [(Entry.mk w1.node.term_ s_empty)]) 2 w1.node.commit w1.node.wait (A3Bool.mk true w1.node.votes.a1 w1.node.votes.a2) (A3Int.mk r0.1 r0.1 r0.1) (A3Int.mk 0 r0.1 0)) w1.out)) fun y12 =>
                  cond ((2 != y12.node.id_))
                    (ob (owe 2 y12) fun y13 =>
                    some y13)
                    (some y12))
                  (cond ((2 != w1.node.id_))
                    (ob (owe 2 (Worker.mk (Node.mk w1.node.id_ w1.node.term_ w1.node.vote w1.node.base w1.node.baseTerm w1.node.snap (w1.node.log ++ [(Entry.mk w1.node.term_ s_empty)]) 2 w1.node.commit w1.node.wait (A3Bool.mk true w1.node.votes.a1 w1.node.votes.a2) (A3Int.mk r0.1 r0.1 r0.1) (A3Int.mk 0 r0.1 0)) w1.out)) fun y14 =>
                    some y14)
                    (some (Worker.mk (Node.mk w1.node.id_ w1.node.term_ w1.node.vote w1.node.base w1.node.baseTerm w1.node.snap (w1.node.log ++ [(Entry.mk w1.node.term_ s_empty)]) 2 w1.node.commit w1.node.wait (A3Bool.mk true w1.node.votes.a1 w1.node.votes.a2) (A3Int.mk r0.1 r0.1 r0.1) (A3Int.mk 0 r0.1 0)) w1.out)))))
              (cond (decide (w1.node.id_ = 2))
                (cond ((0 != w1.node.id_))
                  (ob (owe 0 (Worker.mk (Node.mk w1.node.id_ w1.node.term_ w1.node.vote w1.node.base w1.node.baseTerm w1.node.snap (w1.node.log ++ [(Entry.mk w1.node.term_ s_empty)]) 2 w1.node.commit w1.node.wait (A3Bool.mk true w1.node.votes.a1 w1.node.votes.a2) (A3Int.mk r0.1 r0.1 r0.1) (A3Int.mk 0 0 r0.1)) w1.out)) fun y15 =>
                  cond ((1 != y15.node.id_))
                    (ob (owe 1 y15) fun y16 =>
                    cond ((2 != y16.node.id_))
                      (ob (owe 2 y16) fun y17 =>
                      some y17)
                      (some y16))
                    (cond ((2 != y15.node.id_))
                      (ob (owe 2 y15) fun y18 =>
                      some y18)
                      (some y15)))
                  (cond ((1 != w1.node.id_))
                    (ob (owe 1 (Worker.mk (Node.mk w1.node.id_ w1.node.term_ w1.node.vote w1.node.base w1.node.baseTerm w1.node.snap (w1.node.log ++ [(Entry.mk w1.node.term_ s_empty)]) 2 w1.node.commit w1.node.wait (A3Bool.mk true w1.node.votes.a1 w1.node.votes.a2) (A3Int.mk r0.1 r0.1 r0.1) (A3Int.mk 0 0 r0.1)) w1.out)) fun y19 =>
                    cond ((2 != y19.node.id_))
                      (ob (owe 2 y19) fun y20 =>
                      some y20)
                      (some y19))
                    (cond ((2 != w1.node.id_))
                      (ob (owe 2 (Worker.mk (Node.mk w1.node.id_ w1.node.term_ w1.node.vote w1.node.base w1.node.baseTerm w1.node.snap (w1.node.log ++ [(Entry.mk w1.node.term_ s_empty)]) 2 w1.node.commit w1.node.wait (A3Bool.mk true w1.node.votes.a1 w1.node.votes.a2) (A3Int.mk r0.1 r0.1 r0.1) (A3Int.mk 0 0 r0.1)) w1.out)) fun y21 =>
                      some y21)
                      (some (Worker.mk (Node.mk w1.node.id_ w1.node.term_ w1.node.vote w1.node.base w1.node.baseTerm w1.node.snap (w1.node.log ++ [(Entry.mk w1.node.term_ s_empty)]) 2 w1.node.commit w1.node.wait (A3Bool.mk true w1.node.votes.a1 w1.node.votes.a2) (A3Int.mk r0.1 r0.1 r0.1) (A3Int.mk 0 0 r0.1)) w1.out)))))
                (none))))
          (none)))
      (cond (decide (m1.from_ = 1))
        (cond ((decide ((cond w1.node.votes.a2 (w64 ((w64 ((cond w1.node.votes.a0 1 0) + 1)) + 1)) (w64 ((cond w1.node.votes.a0 1 0) + 1))) < 2)))
          (some (Worker.mk (Node.mk w1.node.id_ w1.node.term_ w1.node.vote w1.node.base w1.node.baseTerm w1.node.snap w1.node.log w1.node.role w1.node.commit w1.node.wait (A3Bool.mk w1.node.votes.a0 true w1.node.votes.a2) w1.node.next w1.node.match_) w1.out))
          (cond (fits ((w1.node.log ++ [(Entry.mk w1.node.term_ s_empty)]).length))
            (ob (last_ (Node.mk w1.node.id_ w1.node.term_ w1.node.vote w1.node.base w1.node.baseTerm w1.node.snap (w1.node.log ++ [(Entry.mk w1.node.term_ s_empty)]) 2 w1.node.commit w1.node.wait (A3Bool.mk w1.node.votes.a0 true w1.node.votes.a2) w1.node.next w1.node.match_)) fun r22 =>
            cond (decide (w1.node.id_ = 0))
              (cond ((0 != w1.node.id_))
                (ob (owe 0 (Worker.mk (Node.mk w1.node.id_ w1.node.term_ w1.node.vote w1.node.base w1.node.baseTerm w1.node.snap (w1.node.log ++ [(Entry.mk w1.node.term_ s_empty)]) 2 w1.node.commit w1.node.wait (A3Bool.mk w1.node.votes.a0 true w1.node.votes.a2) (A3Int.mk r22.1 r22.1 r22.1) (A3Int.mk r22.1 0 0)) w1.out)) fun y23 =>
                cond ((1 != y23.node.id_))
                  (ob (owe 1 y23) fun y24 =>
                  cond ((2 != y24.node.id_))
                    (ob (owe 2 y24) fun y25 =>
                    some y25)
                    (some y24))
                  (cond ((2 != y23.node.id_))
                    (ob (owe 2 y23) fun y26 =>
                    some y26)
                    (some y23)))
                (cond ((1 != w1.node.id_))
                  (ob (owe 1 (Worker.mk (Node.mk w1.node.id_ w1.node.term_ w1.node.vote w1.node.base w1.node.baseTerm w1.node.snap (w1.node.log ++ [(Entry.mk w1.node.term_ s_empty)]) 2 w1.node.commit w1.node.wait (A3Bool.mk w1.node.votes.a0 true w1.node.votes.a2) (A3Int.mk r22.1 r22.1 r22.1) (A3Int.mk r22.1 0 0)) w1.out)) fun y27 =>
                  cond ((2 != y27.node.id_))
                    (ob (owe 2 y27) fun y28 =>
                    some y28)
                    (some y27))
                  (cond ((2 != w1.node.id_))
                    (ob (owe 2 (Worker.mk (Node.mk w1.node.id_ w1.node.term_ w1.node.vote w1.node.base w1.node.baseTerm w1.node.snap (w1.node.log ++ [(Entry.mk w1.node.term_ s_empty)]) 2 w1.node.commit w1.node.wait (A3Bool.mk w1.node.votes.a0 true w1.node.votes.a2) (A3Int.mk r22.1 r22.1 r22.1) (A3Int.mk r22.1 0 0)) w1.out)) fun y29 =>
                    some y29)
                    (some (Worker.mk (Node.mk w1.node.id_ w1.node.term_ w1.node.vote w1.node.base w1.node.baseTerm w1.node.snap (w1.node.log ++ [(Entry.mk w1.node.term_ s_empty)]) 2 w1.node.commit w1.node.wait (A3Bool.mk w1.node.votes.a0 true w1.node.votes.a2) (A3Int.mk r22.1 r22.1 r22.1) (A3Int.mk r22.1 0 0)) w1.out)))))
              (cond (decide (w1.node.id_ = 1))
                (cond ((0 != w1.node.id_))
                  (ob (owe 0 (Worker.mk (Node.mk w1.node.id_ w1.node.term_ w1.node.vote w1.node.base w1.node.baseTerm w1.node.snap (w1.node.log ++ [(Entry.mk w1.node.term_ s_empty)]) 2 w1.node.commit w1.node.wait (A3Bool.mk w1.node.votes.a0 true w1.node.votes.a2) (A3Int.mk r22.1 r22.1 r22.1) (A3Int.mk 0 r22.1 0)) w1.out)) fun y30 =>
                  cond ((1 != y30.node.id_))
                    (ob (owe 1 y30) fun y31 =>
                    cond ((2 != y31.node.id_))
                      (ob (owe 2 y31) fun y32 =>
                      some y32)
                      (some y31))
                    (cond ((2 != y30.node.id_))
                      (ob (owe 2 y30) fun y33 =>
                      some y33)
                      (some y30)))
                  (cond ((1 != w1.node.id_))
                    (ob (owe 1 (Worker.mk (Node.mk w1.node.id_ w1.node.term_ w1.node.vote w1.node.base w1.node.baseTerm w1.node.snap (w1.node.log ++ [(Entry.mk w1.node.term_ s_empty)]) 2 w1.node.commit w1.node.wait (A3Bool.mk w1.node.votes.a0 true w1.node.votes.a2) (A3Int.mk r22.1 r22.1 r22.1) (A3Int.mk 0 r22.1 0)) w1.out)) fun y34 =>
                    cond ((2 != y34.node.id_))
                      (ob (owe 2 y34) fun y35 =>
                      some y35)
                      (some y34))
                    (cond ((2 != w1.node.id_))
                      (ob (owe 2 (Worker.mk (Node.mk w1.node.id_ w1.node.term_ w1.node.vote w1.node.base w1.node.baseTerm w1.node.snap (w1.node.log ++ [(Entry.mk w1.node.term_ s_empty)]) 2 w1.node.commit w1.node.wait (A3Bool.mk w1.node.votes.a0 true w1.node.votes.a2) (A3Int.mk r22.1 r22.1 r22.1) (A3Int.mk 0 r22.1 0)) w1.out)) fun y36 =>
                      some y36)
                      (some (Worker.mk (Node.mk w1.node.id_ w1.node.term_ w1.node.vote w1.node.base w1.node.baseTerm w1.node.snap (w1.node.log ++ [(Entry.mk w1.node.term_ s_empty)]) 2 w1.node.commit w1.node.wait (A3Bool.mk w1.node.votes.a0 true w1.node.votes.a2) (A3Int.mk r22.1 r22.1 r22.1) (A3Int.mk 0 r22.1 0)) w1.out)))))
                (cond (decide (w1.node.id_ = 2))
                  (cond ((0 != w1.node.id_))
                    (ob (owe 0 (Worker.mk (Node.mk w1.node.id_ w1.node.term_ w1.node.vote w1.node.base w1.node.baseTerm w1.node.snap (w1.node.log ++ [(Entry.mk w1.node.term_ s_empty)]) 2 w1.node.commit w1.node.wait (A3Bool.mk w1.node.votes.a0 true w1.node.votes.a2) (A3Int.mk r22.1 r22.1 r22.1) (A3Int.mk 0 0 r22.1)) w1.out)) fun y37 =>
                    cond ((1 != y37.node.id_))
                      (ob (owe 1 y37) fun y38 =>
                      cond ((2 != y38.node.id_))
                        (ob (owe 2 y38) fun y39 =>
                        some y39)
                        (some y38))
                      (cond ((2 != y37.node.id_))
                        (ob (owe 2 y37) fun y40 =>
                        some y40)
                        (some y37)))
                    (cond ((1 != w1.node.id_))
                      (ob (owe 1 (Worker.mk (Node.mk w1.node.id_ w1.node.term_ w1.node.vote w1.node.base w1.node.baseTerm w1.node.snap (w1.node.log ++ [(Entry.mk w1.node.term_ s_empty)]) 2 w1.node.commit w1.node.wait (A3Bool.mk w1.node.votes.a0 true w1.node.votes.a2) (A3Int.mk r22.1 r22.1 r22.1) (A3Int.mk 0 0 r22.1)) w1.out)) fun y41 =>
                      cond ((2 != y41.node.id_))
                        (ob (owe 2 y41) fun y42 =>
                        some y42)
                        (some y41))
                      (cond ((2 != w1.node.id_))
                        (ob (owe 2 (Worker.mk (Node.mk w1.node.id_ w1.node.term_ w1.node.vote w1.node.base w1.node.baseTerm w1.node.snap (w1.node.log ++ [(Entry.mk w1.node.term_ s_empty)]) 2 w1.node.commit w1.node.wait (A3Bool.mk w1.node.votes.a0 true w1.node.votes.a2) (A3Int.mk r22.1 r22.1 r22.1) (A3Int.mk 0 0 r22.1)) w1.out)) fun y43 =>
                        some y43)
                        (some (Worker.mk (Node.mk w1.node.id_ w1.node.term_ w1.node.vote w1.node.base w1.node.baseTerm w1.node.snap (w1.node.log ++ [(Entry.mk w1.node.term_ s_empty)]) 2 w1.node.commit w1.node.wait (A3Bool.mk w1.node.votes.a0 true w1.node.votes.a2) (A3Int.mk r22.1 r22.1 r22.1) (A3Int.mk 0 0 r22.1)) w1.out)))))
                  (none))))
            (none)))
        (cond (decide (m1.from_ = 2))
          (cond ((decide ((w64 ((cond w1.node.votes.a1 (w64 ((cond w1.node.votes.a0 1 0) + 1)) (cond w1.node.votes.a0 1 0)) + 1)) < 2)))
            (some (Worker.mk (Node.mk w1.node.id_ w1.node.term_ w1.node.vote w1.node.base w1.node.baseTerm w1.node.snap w1.node.log w1.node.role w1.node.commit w1.node.wait (A3Bool.mk w1.node.votes.a0 w1.node.votes.a1 true) w1.node.next w1.node.match_) w1.out))
            (cond (fits ((w1.node.log ++ [(Entry.mk w1.node.term_ s_empty)]).length))
              (ob (last_ (Node.mk w1.node.id_ w1.node.term_ w1.node.vote w1.node.base w1.node.baseTerm w1.node.snap (w1.node.log ++ [(Entry.mk w1.node.term_ s_empty)]) 2 w1.node.commit w1.node.wait (A3Bool.mk w1.node.votes.a0 w1.node.votes.a1 true) w1.node.next w1.node.match_)) fun r44 =>
              cond (decide (w1.node.id_ = 0))
                (cond ((0 != w1.node.id_))
                  (ob (owe 0 (Worker.mk (Node.mk w1.node.id_ w1.node.term_ w1.node.vote w1.node.base w1.node.baseTerm w1.node.snap (w1.node.log ++ [(Entry.mk w1.node.term_ s_empty)]) 2 w1.node.commit w1.node.wait (A3Bool.mk w1.node.votes.a0 w1.node.votes.a1 true) (A3Int.mk r44.1 r44.1 r44.1) (A3Int.mk r44.1 0 0)) w1.out)) fun y45 =>
                  cond ((1 != y45.node.id_))
                    (ob (owe 1 y45) fun y46 =>
                    cond ((2 != y46.node.id_))
                      (ob (owe 2 y46) fun y47 =>
                      some y47)
                      (some y46))
                    (cond ((2 != y45.node.id_))
                      (ob (owe 2 y45) fun y48 =>
                      some y48)
                      (some y45)))
                  (cond ((1 != w1.node.id_))
                    (ob (owe 1 (Worker.mk (Node.mk w1.node.id_ w1.node.term_ w1.node.vote w1.node.base w1.node.baseTerm w1.node.snap (w1.node.log ++ [(Entry.mk w1.node.term_ s_empty)]) 2 w1.node.commit w1.node.wait (A3Bool.mk w1.node.votes.a0 w1.node.votes.a1 true) (A3Int.mk r44.1 r44.1 r44.1) (A3Int.mk r44.1 0 0)) w1.out)) fun y49 =>
                    cond ((2 != y49.node.id_))
                      (ob (owe 2 y49) fun y50 =>
                      some y50)
                      (some y49))
                    (cond ((2 != w1.node.id_))
                      (ob (owe 2 (Worker.mk (Node.mk w1.node.id_ w1.node.term_ w1.node.vote w1.node.base w1.node.baseTerm w1.node.snap (w1.node.log ++ [(Entry.mk w1.node.term_ s_empty)]) 2 w1.node.commit w1.node.wait (A3Bool.mk w1.node.votes.a0 w1.node.votes.a1 true) (A3Int.mk r44.1 r44.1 r44.1) (A3Int.mk r44.1 0 0)) w1.out)) fun y51 =>
                      some y51)
                      (some (Worker.mk (Node.mk w1.node.id_ w1.node.term_ w1.node.vote w1.node.base w1.node.baseTerm w1.node.snap (w1.node.log ++ [(Entry.mk w1.node.term_ s_empty)]) 2 w1.node.commit w1.node.wait (A3Bool.mk w1.node.votes.a0 w1.node.votes.a1 true) (A3Int.mk r44.1 r44.1 r44.1) (A3Int.mk r44.1 0 0)) w1.out)))))
                (cond (decide (w1.node.id_ = 1))
                  (cond ((0 != w1.node.id_))
                    (ob (owe 0 (Worker.mk (Node.mk w1.node.id_ w1.node.term_ w1.node.vote w1.node.base w1.node.baseTerm w1.node.snap (w1.node.log ++ [(Entry.mk w1.node.term_ s_empty)]) 2 w1.node.commit w1.node.wait (A3Bool.mk w1.node.votes.a0 w1.node.votes.a1 true) (A3Int.mk r44.1 r44.1 r44.1) (A3Int.mk 0 r44.1 0)) w1.out)) fun y52 =>
                    cond ((1 != y52.node.id_))
                      (ob (owe 1 y52) fun y53 =>
                      cond ((2 != y53.node.id_))
                        (ob (owe 2 y53) fun y54 =>
                        some y54)
                        (some y53))
                      (cond ((2 != y52.node.id_))
                        (ob (owe 2 y52) fun y55 =>
                        some y55)
                        (some y52)))
                    (cond ((1 != w1.node.id_))
                      (ob (owe 1 (Worker.mk (Node.mk w1.node.id_ w1.node.term_ w1.node.vote w1.node.base w1.node.baseTerm w1.node.snap (w1.node.log ++ [(Entry.mk w1.node.term_ s_empty)]) 2 w1.node.commit w1.node.wait (A3Bool.mk w1.node.votes.a0 w1.node.votes.a1 true) (A3Int.mk r44.1 r44.1 r44.1) (A3Int.mk 0 r44.1 0)) w1.out)) fun y56 =>
                      cond ((2 != y56.node.id_))
                        (ob (owe 2 y56) fun y57 =>
                        some y57)
                        (some y56))
                      (cond ((2 != w1.node.id_))
                        (ob (owe 2 (Worker.mk (Node.mk w1.node.id_ w1.node.term_ w1.node.vote w1.node.base w1.node.baseTerm w1.node.snap (w1.node.log ++ [(Entry.mk w1.node.term_ s_empty)]) 2 w1.node.commit w1.node.wait (A3Bool.mk w1.node.votes.a0 w1.node.votes.a1 true) (A3Int.mk r44.1 r44.1 r44.1) (A3Int.mk 0 r44.1 0)) w1.out)) fun y58 =>
                        some y58)
                        (some (Worker.mk (Node.mk w1.node.id_ w1.node.term_ w1.node.vote w1.node.base w1.node.baseTerm w1.node.snap (w1.node.log ++ [(Entry.mk w1.node.term_ s_empty)]) 2 w1.node.commit w1.node.wait (A3Bool.mk w1.node.votes.a0 w1.node.votes.a1 true) (A3Int.mk r44.1 r44.1 r44.1) (A3Int.mk 0 r44.1 0)) w1.out)))))
                  (cond (decide (w1.node.id_ = 2))
                    (cond ((0 != w1.node.id_))
                      (ob (owe 0 (Worker.mk (Node.mk w1.node.id_ w1.node.term_ w1.node.vote w1.node.base w1.node.baseTerm w1.node.snap (w1.node.log ++ [(Entry.mk w1.node.term_ s_empty)]) 2 w1.node.commit w1.node.wait (A3Bool.mk w1.node.votes.a0 w1.node.votes.a1 true) (A3Int.mk r44.1 r44.1 r44.1) (A3Int.mk 0 0 r44.1)) w1.out)) fun y59 =>
                      cond ((1 != y59.node.id_))
                        (ob (owe 1 y59) fun y60 =>
                        cond ((2 != y60.node.id_))
                          (ob (owe 2 y60) fun y61 =>
                          some y61)
                          (some y60))
                        (cond ((2 != y59.node.id_))
                          (ob (owe 2 y59) fun y62 =>
                          some y62)
                          (some y59)))
                      (cond ((1 != w1.node.id_))
                        (ob (owe 1 (Worker.mk (Node.mk w1.node.id_ w1.node.term_ w1.node.vote w1.node.base w1.node.baseTerm w1.node.snap (w1.node.log ++ [(Entry.mk w1.node.term_ s_empty)]) 2 w1.node.commit w1.node.wait (A3Bool.mk w1.node.votes.a0 w1.node.votes.a1 true) (A3Int.mk r44.1 r44.1 r44.1) (A3Int.mk 0 0 r44.1)) w1.out)) fun y63 =>
                        cond ((2 != y63.node.id_))
                          (ob (owe 2 y63) fun y64 =>
                          some y64)
                          (some y63))
                        (cond ((2 != w1.node.id_))
                          (ob (owe 2 (Worker.mk (Node.mk w1.node.id_ w1.node.term_ w1.node.vote w1.node.base w1.node.baseTerm w1.node.snap (w1.node.log ++ [(Entry.mk w1.node.term_ s_empty)]) 2 w1.node.commit w1.node.wait (A3Bool.mk w1.node.votes.a0 w1.node.votes.a1 true) (A3Int.mk r44.1 r44.1 r44.1) (A3Int.mk 0 0 r44.1)) w1.out)) fun y65 =>
                          some y65)
                          (some (Worker.mk (Node.mk w1.node.id_ w1.node.term_ w1.node.vote w1.node.base w1.node.baseTerm w1.node.snap (w1.node.log ++ [(Entry.mk w1.node.term_ s_empty)]) 2 w1.node.commit w1.node.wait (A3Bool.mk w1.node.votes.a0 w1.node.votes.a1 true) (A3Int.mk r44.1 r44.1 r44.1) (A3Int.mk 0 0 r44.1)) w1.out)))))
                    (none))))
              (none)))
          (none))))
def ch_voted : Cod (Cst TL) (Msg × Worker) := Cod.iso (Cod.cst 3 (Cod.cons (Cod.xs (Cod.sc (Cod.ptr 0 0))) (Cod.cons (Cod.xs (Cod.sa (Cod.cons (Cod.im (Cod.int .i64)) (Cod.cons (Cod.im (Cod.int .i64)) (Cod.cons (Cod.im (Cod.int .i64)) (Cod.cons (Cod.im (Cod.int .i64)) (Cod.cons (Cod.im (Cod.int .i64)) (Cod.cons (Cod.im (Cod.int .i64)) (Cod.cons (Cod.im (Cod.int .i64)) (Cod.cons (Cod.im Cod.bool) (Cod.cons (Cod.im (Cod.fz j_lEntry)) (Cod.cons (Cod.im Cod.str) (Cod.nil))))))))))))) (Cod.nil))) (Cod.cons (Cod.var 0 68 (Cod.cons (Cod.im (Cod.int .i64)) (Cod.cons (Cod.im (Cod.int .i64)) (Cod.cons (Cod.im (Cod.int .i64)) (Cod.cons (Cod.im (Cod.int .i64)) (Cod.cons (Cod.im (Cod.int .i64)) (Cod.cons (Cod.im Cod.str) (Cod.cons (Cod.ar 1) (Cod.cons (Cod.im (Cod.int .i64)) (Cod.cons (Cod.im (Cod.int .i64)) (Cod.cons (Cod.im (Cod.int .i64)) (Cod.cons (Cod.im Cod.bool) (Cod.cons (Cod.im Cod.bool) (Cod.cons (Cod.im Cod.bool) (Cod.cons (Cod.im (Cod.int .i64)) (Cod.cons (Cod.im (Cod.int .i64)) (Cod.cons (Cod.im (Cod.int .i64)) (Cod.cons (Cod.im (Cod.int .i64)) (Cod.cons (Cod.im (Cod.int .i64)) (Cod.cons (Cod.im (Cod.int .i64)) (Cod.cons (Cod.ar 2) (Cod.nil)))))))))))))))))))))) (Cod.cons (Cod.arr 1 32 j_lEntry) (Cod.cons (Cod.arr 2 39 j_lMsg) (Cod.nil))))) (fun p => ((Msg.mk p.1.2.1.1 p.1.2.1.2.1 p.1.2.1.2.2.1 p.1.2.1.2.2.2.1 p.1.2.1.2.2.2.2.1 p.1.2.1.2.2.2.2.2.1 p.1.2.1.2.2.2.2.2.2.1 p.1.2.1.2.2.2.2.2.2.2.1 p.1.2.1.2.2.2.2.2.2.2.2.1 p.1.2.1.2.2.2.2.2.2.2.2.2.1), (Worker.mk (Node.mk p.2.1.1 p.2.1.2.1 p.2.1.2.2.1 p.2.1.2.2.2.1 p.2.1.2.2.2.2.1 p.2.1.2.2.2.2.2.1 p.2.2.1 p.2.1.2.2.2.2.2.2.2.1 p.2.1.2.2.2.2.2.2.2.2.1 p.2.1.2.2.2.2.2.2.2.2.2.1 (A3Bool.mk p.2.1.2.2.2.2.2.2.2.2.2.2.1 p.2.1.2.2.2.2.2.2.2.2.2.2.2.1 p.2.1.2.2.2.2.2.2.2.2.2.2.2.2.1) (A3Int.mk p.2.1.2.2.2.2.2.2.2.2.2.2.2.2.2.1 p.2.1.2.2.2.2.2.2.2.2.2.2.2.2.2.2.1 p.2.1.2.2.2.2.2.2.2.2.2.2.2.2.2.2.2.1) (A3Int.mk p.2.1.2.2.2.2.2.2.2.2.2.2.2.2.2.2.2.2.1 p.2.1.2.2.2.2.2.2.2.2.2.2.2.2.2.2.2.2.2.1 p.2.1.2.2.2.2.2.2.2.2.2.2.2.2.2.2.2.2.2.2.1)) p.2.2.2.1))) (fun (x : Msg × Worker) => (((), ((x.1.kind, (x.1.from_, (x.1.to_, (x.1.term_, (x.1.index, (x.1.logTerm, (x.1.commit, (x.1.yes, (x.1.entries, (x.1.snap, ())))))))))), ())), ((x.2.node.id_, (x.2.node.term_, (x.2.node.vote, (x.2.node.base, (x.2.node.baseTerm, (x.2.node.snap, ((), (x.2.node.role, (x.2.node.commit, (x.2.node.wait, (x.2.node.votes.a0, (x.2.node.votes.a1, (x.2.node.votes.a2, (x.2.node.next.a0, (x.2.node.next.a1, (x.2.node.next.a2, (x.2.node.match_.a0, (x.2.node.match_.a1, (x.2.node.match_.a2, ((), ())))))))))))))))))))), (x.2.node.log, (x.2.out, ()))))) (fun _ => rfl)
def co_voted : Cod (Cst TL) (Worker) := Cod.iso (Cod.cst 7 (Cod.cons (Cod.xt (Cod.nil)) (Cod.nil)) (Cod.cons (Cod.var 0 68 (Cod.cons (Cod.im (Cod.int .i64)) (Cod.cons (Cod.im (Cod.int .i64)) (Cod.cons (Cod.im (Cod.int .i64)) (Cod.cons (Cod.im (Cod.int .i64)) (Cod.cons (Cod.im (Cod.int .i64)) (Cod.cons (Cod.im Cod.str) (Cod.cons (Cod.im (Cod.fz j_lEntry)) (Cod.cons (Cod.im (Cod.int .i64)) (Cod.cons (Cod.im (Cod.int .i64)) (Cod.cons (Cod.im (Cod.int .i64)) (Cod.cons (Cod.im Cod.bool) (Cod.cons (Cod.im Cod.bool) (Cod.cons (Cod.im Cod.bool) (Cod.cons (Cod.im (Cod.int .i64)) (Cod.cons (Cod.im (Cod.int .i64)) (Cod.cons (Cod.im (Cod.int .i64)) (Cod.cons (Cod.im (Cod.int .i64)) (Cod.cons (Cod.im (Cod.int .i64)) (Cod.cons (Cod.im (Cod.int .i64)) (Cod.cons (Cod.ar 6) (Cod.nil)))))))))))))))))))))) (Cod.cons (Cod.dead 1) (Cod.cons (Cod.dead 2) (Cod.cons (Cod.arr 6 39 j_lMsg) (Cod.nil)))))) (fun p => (Worker.mk (Node.mk p.2.1.1 p.2.1.2.1 p.2.1.2.2.1 p.2.1.2.2.2.1 p.2.1.2.2.2.2.1 p.2.1.2.2.2.2.2.1 p.2.1.2.2.2.2.2.2.1 p.2.1.2.2.2.2.2.2.2.1 p.2.1.2.2.2.2.2.2.2.2.1 p.2.1.2.2.2.2.2.2.2.2.2.1 (A3Bool.mk p.2.1.2.2.2.2.2.2.2.2.2.2.1 p.2.1.2.2.2.2.2.2.2.2.2.2.2.1 p.2.1.2.2.2.2.2.2.2.2.2.2.2.2.1) (A3Int.mk p.2.1.2.2.2.2.2.2.2.2.2.2.2.2.2.1 p.2.1.2.2.2.2.2.2.2.2.2.2.2.2.2.2.1 p.2.1.2.2.2.2.2.2.2.2.2.2.2.2.2.2.2.1) (A3Int.mk p.2.1.2.2.2.2.2.2.2.2.2.2.2.2.2.2.2.2.1 p.2.1.2.2.2.2.2.2.2.2.2.2.2.2.2.2.2.2.2.1 p.2.1.2.2.2.2.2.2.2.2.2.2.2.2.2.2.2.2.2.2.1)) p.2.2.2.2.1)) (fun (x : Worker) => (((), ()), ((x.node.id_, (x.node.term_, (x.node.vote, (x.node.base, (x.node.baseTerm, (x.node.snap, (x.node.log, (x.node.role, (x.node.commit, (x.node.wait, (x.node.votes.a0, (x.node.votes.a1, (x.node.votes.a2, (x.node.next.a0, (x.node.next.a1, (x.node.next.a2, (x.node.match_.a0, (x.node.match_.a1, (x.node.match_.a2, ((), ())))))))))))))))))))), ((), ((), (x.out, ())))))) (fun _ => rfl)
def un_voted (p : Msg × Worker) : Option (Worker) := voted p.1 p.2
noncomputable def sf_voted : SFn TL := SFn.one ch_voted.dec un_voted .normal co_voted.enc
noncomputable def cs_voted : List (Nat × DFn TL) := [(12, df_last_)]
noncomputable def ss_voted : List (Nat × SFn TL) := [(32, sf_owe)]
noncomputable def env_voted : Env := envOf tab sl sh [(27, fd27), (31, fd31)] [(12, .pure), (32, .sum)]
theorem env_voted_ok : EnvOK Try.prog (mkD cs_voted ss_voted) env_voted := envOK_of base (all_cons (st27.okl rfl (all_nil)) (all_cons (st31.okl rfl (all_nil)) (all_nil))) (all_cons (okD rfl ok_last_) (all_cons (okS rfl ok_owe) (all_nil)))
theorem run_voted (x : Msg × Worker) : Out.run (mkO cs_voted ss_voted) (evSum env_voted 12 20 27 (ch_voted.enc x)) (back1 co_voted) = un_voted x := by kernel_rfl
theorem ok_voted : SOK Try.prog 27 sf_voted := sum_one env_voted_ok (loops := 12) (n := 20) st27.enters ch_voted co_voted un_voted run_voted
/-- replica.worker).added -/
def added (i1 : Int) (b1 : Bool) (i2 : Int) (w1 : Worker) : Option (Worker) :=
  ob (send i1 (Msg.mk 4 0 0 0 i2 0 0 b1 [] s_empty) w1) fun y0 =>
  some y0
def ch_added : Cod (Cst TL) (Int × Bool × Int × Worker) := Cod.iso (Cod.cst 2 (Cod.cons (Cod.xs (Cod.sc (Cod.ptr 0 0))) (Cod.cons (Cod.xs (Cod.sc (Cod.im (Cod.int .i64)))) (Cod.cons (Cod.xs (Cod.sc (Cod.im Cod.bool))) (Cod.cons (Cod.xs (Cod.sc (Cod.im (Cod.int .i64)))) (Cod.nil))))) (Cod.cons (Cod.var 0 68 (Cod.cons (Cod.im (Cod.int .i64)) (Cod.cons (Cod.im (Cod.int .i64)) (Cod.cons (Cod.im (Cod.int .i64)) (Cod.cons (Cod.im (Cod.int .i64)) (Cod.cons (Cod.im (Cod.int .i64)) (Cod.cons (Cod.im Cod.str) (Cod.cons (Cod.im (Cod.fz j_lEntry)) (Cod.cons (Cod.im (Cod.int .i64)) (Cod.cons (Cod.im (Cod.int .i64)) (Cod.cons (Cod.im (Cod.int .i64)) (Cod.cons (Cod.im Cod.bool) (Cod.cons (Cod.im Cod.bool) (Cod.cons (Cod.im Cod.bool) (Cod.cons (Cod.im (Cod.int .i64)) (Cod.cons (Cod.im (Cod.int .i64)) (Cod.cons (Cod.im (Cod.int .i64)) (Cod.cons (Cod.im (Cod.int .i64)) (Cod.cons (Cod.im (Cod.int .i64)) (Cod.cons (Cod.im (Cod.int .i64)) (Cod.cons (Cod.ar 1) (Cod.nil)))))))))))))))))))))) (Cod.cons (Cod.arr 1 39 j_lMsg) (Cod.nil)))) (fun p => (p.1.2.1, p.1.2.2.1, p.1.2.2.2.1, (Worker.mk (Node.mk p.2.1.1 p.2.1.2.1 p.2.1.2.2.1 p.2.1.2.2.2.1 p.2.1.2.2.2.2.1 p.2.1.2.2.2.2.2.1 p.2.1.2.2.2.2.2.2.1 p.2.1.2.2.2.2.2.2.2.1 p.2.1.2.2.2.2.2.2.2.2.1 p.2.1.2.2.2.2.2.2.2.2.2.1 (A3Bool.mk p.2.1.2.2.2.2.2.2.2.2.2.2.1 p.2.1.2.2.2.2.2.2.2.2.2.2.2.1 p.2.1.2.2.2.2.2.2.2.2.2.2.2.2.1) (A3Int.mk p.2.1.2.2.2.2.2.2.2.2.2.2.2.2.2.1 p.2.1.2.2.2.2.2.2.2.2.2.2.2.2.2.2.1 p.2.1.2.2.2.2.2.2.2.2.2.2.2.2.2.2.2.1) (A3Int.mk p.2.1.2.2.2.2.2.2.2.2.2.2.2.2.2.2.2.2.1 p.2.1.2.2.2.2.2.2.2.2.2.2.2.2.2.2.2.2.2.1 p.2.1.2.2.2.2.2.2.2.2.2.2.2.2.2.2.2.2.2.2.1)) p.2.2.1))) (fun (x : Int × Bool × Int × Worker) => (((), (x.1, (x.2.1, (x.2.2.1, ())))), ((x.2.2.2.node.id_, (x.2.2.2.node.term_, (x.2.2.2.node.vote, (x.2.2.2.node.base, (x.2.2.2.node.baseTerm, (x.2.2.2.node.snap, (x.2.2.2.node.log, (x.2.2.2.node.role, (x.2.2.2.node.commit, (x.2.2.2.node.wait, (x.2.2.2.node.votes.a0, (x.2.2.2.node.votes.a1, (x.2.2.2.node.votes.a2, (x.2.2.2.node.next.a0, (x.2.2.2.node.next.a1, (x.2.2.2.node.next.a2, (x.2.2.2.node.match_.a0, (x.2.2.2.node.match_.a1, (x.2.2.2.node.match_.a2, ((), ())))))))))))))))))))), (x.2.2.2.out, ())))) (fun _ => rfl)
def co_added : Cod (Cst TL) (Worker) := Cod.iso (Cod.cst 5 (Cod.cons (Cod.xt (Cod.nil)) (Cod.nil)) (Cod.cons (Cod.var 0 68 (Cod.cons (Cod.im (Cod.int .i64)) (Cod.cons (Cod.im (Cod.int .i64)) (Cod.cons (Cod.im (Cod.int .i64)) (Cod.cons (Cod.im (Cod.int .i64)) (Cod.cons (Cod.im (Cod.int .i64)) (Cod.cons (Cod.im Cod.str) (Cod.cons (Cod.im (Cod.fz j_lEntry)) (Cod.cons (Cod.im (Cod.int .i64)) (Cod.cons (Cod.im (Cod.int .i64)) (Cod.cons (Cod.im (Cod.int .i64)) (Cod.cons (Cod.im Cod.bool) (Cod.cons (Cod.im Cod.bool) (Cod.cons (Cod.im Cod.bool) (Cod.cons (Cod.im (Cod.int .i64)) (Cod.cons (Cod.im (Cod.int .i64)) (Cod.cons (Cod.im (Cod.int .i64)) (Cod.cons (Cod.im (Cod.int .i64)) (Cod.cons (Cod.im (Cod.int .i64)) (Cod.cons (Cod.im (Cod.int .i64)) (Cod.cons (Cod.ar 4) (Cod.nil)))))))))))))))))))))) (Cod.cons (Cod.dead 1) (Cod.cons (Cod.arr 4 39 j_lMsg) (Cod.nil))))) (fun p => (Worker.mk (Node.mk p.2.1.1 p.2.1.2.1 p.2.1.2.2.1 p.2.1.2.2.2.1 p.2.1.2.2.2.2.1 p.2.1.2.2.2.2.2.1 p.2.1.2.2.2.2.2.2.1 p.2.1.2.2.2.2.2.2.2.1 p.2.1.2.2.2.2.2.2.2.2.1 p.2.1.2.2.2.2.2.2.2.2.2.1 (A3Bool.mk p.2.1.2.2.2.2.2.2.2.2.2.2.1 p.2.1.2.2.2.2.2.2.2.2.2.2.2.1 p.2.1.2.2.2.2.2.2.2.2.2.2.2.2.1) (A3Int.mk p.2.1.2.2.2.2.2.2.2.2.2.2.2.2.2.1 p.2.1.2.2.2.2.2.2.2.2.2.2.2.2.2.2.1 p.2.1.2.2.2.2.2.2.2.2.2.2.2.2.2.2.2.1) (A3Int.mk p.2.1.2.2.2.2.2.2.2.2.2.2.2.2.2.2.2.2.1 p.2.1.2.2.2.2.2.2.2.2.2.2.2.2.2.2.2.2.2.1 p.2.1.2.2.2.2.2.2.2.2.2.2.2.2.2.2.2.2.2.2.1)) p.2.2.2.1)) (fun (x : Worker) => (((), ()), ((x.node.id_, (x.node.term_, (x.node.vote, (x.node.base, (x.node.baseTerm, (x.node.snap, (x.node.log, (x.node.role, (x.node.commit, (x.node.wait, (x.node.votes.a0, (x.node.votes.a1, (x.node.votes.a2, (x.node.next.a0, (x.node.next.a1, (x.node.next.a2, (x.node.match_.a0, (x.node.match_.a1, (x.node.match_.a2, ((), ())))))))))))))))))))), ((), (x.out, ()))))) (fun _ => rfl)
def un_added (p : Int × Bool × Int × Worker) : Option (Worker) := added p.1 p.2.1 p.2.2.1 p.2.2.2
noncomputable def sf_added : SFn TL := SFn.one ch_added.dec un_added .normal co_added.enc
noncomputable def cs_added : List (Nat × DFn TL) := []
noncomputable def ss_added : List (Nat × SFn TL) := [(46, sf_send)]
noncomputable def env_added : Env := envOf tab sl sh [(47, fd47)] [(46, .sum)]
theorem env_added_ok : EnvOK Try.prog (mkD cs_added ss_added) env_added := envOK_of base (all_cons (st47.okl rfl (all_nil)) (all_nil)) (all_cons (okS rfl ok_send) (all_nil))
theorem run_added (x : Int × Bool × Int × Worker) : Out.run (mkO cs_added ss_added) (evSum env_added 12 20 47 (ch_added.enc x)) (back1 co_added) = un_added x := by kernel_rfl
theorem ok_added : SOK Try.prog 47 sf_added := sum_one env_added_ok (loops := 12) (n := 20) st47.enters ch_added co_added un_added run_added
/-- a loop of replica.worker).add -/
def step_L28_10 (l1 : List Entry) (i1 : Int) (i2 : Int) (w1 : Worker) (m1 : Msg) : Option (((List Entry) × Int × Int × Worker × Msg) ⊕ (Worker × Msg)) :=
  cond ((decide (i2 < i1)))
    (cond (decide (0 ≤ i2))
      (ob (l1[i2.toNat]?) fun e0 =>
      cond ((decide ((w64 ((w64 (m1.index - w1.node.base)) + i2)) < (w1.node.log.length : Int))))
        (cond (decide (0 ≤ (w64 ((w64 (m1.index - w1.node.base)) + i2))))
          (cond (decide ((w64 ((w64 (m1.index - w1.node.base)) + i2)) < (w1.node.log.length : Int)))
            (ob (w1.node.log[((w64 ((w64 (m1.index - w1.node.base)) + i2))).toNat]?) fun e1 =>
            cond ((e1.term_ == e0.term_))
              (some (.inl (l1, i1, (w64 (i2 + 1)), w1, m1)))
              (cond (decide (0 ≤ (min2 (w64 ((w64 (m1.index - w1.node.base)) + i2)) (w1.node.log.length : Int))))
                (cond (decide ((min2 (w64 ((w64 (m1.index - w1.node.base)) + i2)) (w1.node.log.length : Int)) ≤ (w1.node.log.length : Int)))
                  (cond (fits (((w1.node.log.take (((min2 (w64 ((w64 (m1.index - w1.node.base)) + i2)) (w1.node.log.length : Int))).toNat)) ++ [e0]).length))
                    (some (.inl (l1, i1, (w64 (i2 + 1)), (Worker.mk (Node.mk w1.node.id_ w1.node.term_ w1.node.vote w1.node.base w1.node.baseTerm w1.node.snap ((w1.node.log.take (((min2 (w64 ((w64 (m1.index - w1.node.base)) + i2)) (w1.node.log.length : Int))).toNat)) ++ [e0]) w1.node.role w1.node.commit w1.node.wait w1.node.votes w1.node.next w1.node.match_) w1.out), m1)))
                    (none))
                  (none))
                (none)))
            (none))
          (none))
        (cond (decide (0 ≤ (min2 (w64 ((w64 (m1.index - w1.node.base)) + i2)) (w1.node.log.length : Int))))
          (cond (decide ((min2 (w64 ((w64 (m1.index - w1.node.base)) + i2)) (w1.node.log.length : Int)) ≤ (w1.node.log.length : Int)))
            (cond (fits (((w1.node.log.take (((min2 (w64 ((w64 (m1.index - w1.node.base)) + i2)) (w1.node.log.length : Int))).toNat)) ++ [e0]).length))
              (some (.inl (l1, i1, (w64 (i2 + 1)), (Worker.mk (Node.mk w1.node.id_ w1.node.term_ w1.node.vote w1.node.base w1.node.baseTerm w1.node.snap ((w1.node.log.take (((min2 (w64 ((w64 (m1.index - w1.node.base)) + i2)) (w1.node.log.length : Int))).toNat)) ++ [e0]) w1.node.role w1.node.commit w1.node.wait w1.node.votes w1.node.next w1.node.match_) w1.out), m1)))
              (none))
            (none))
          (none)))
      (none))
    (some (.inr (w1, m1)))
def stp_L28_10 (p : (List Entry) × Int × Int × Worker × Msg) : Option (((List Entry) × Int × Int × Worker × Msg) ⊕ (Worker × Msg)) := step_L28_10 p.1 p.2.1 p.2.2.1 p.2.2.2.1 p.2.2.2.2
def L28_10 (l1 : List Entry) (i1 : Int) (i2 : Int) (w1 : Worker) (m1 : Msg) : Option (Worker × Msg) := iterO stp_L28_10 ((i1 - i2).toNat + 2) (l1, i1, i2, w1, m1)
def ch_L28_10 : Cod (Cst TL) ((List Entry) × Int × Int × Worker × Msg) := Cod.iso (Cod.cst 4 (Cod.cons (Cod.xs (Cod.sc (Cod.ptr 0 0))) (Cod.cons (Cod.xs (Cod.sc (Cod.ptr 1 0))) (Cod.cons (Cod.xs (Cod.sc (Cod.im (Cod.fz j_lEntry)))) (Cod.cons (Cod.xs (Cod.sc (Cod.im (Cod.int .i64)))) (Cod.cons (Cod.xs (Cod.sc (Cod.im (Cod.int .i64)))) (Cod.nil)))))) (Cod.cons (Cod.var 0 68 (Cod.cons (Cod.im (Cod.int .i64)) (Cod.cons (Cod.im (Cod.int .i64)) (Cod.cons (Cod.im (Cod.int .i64)) (Cod.cons (Cod.im (Cod.int .i64)) (Cod.cons (Cod.im (Cod.int .i64)) (Cod.cons (Cod.im Cod.str) (Cod.cons (Cod.ar 2) (Cod.cons (Cod.im (Cod.int .i64)) (Cod.cons (Cod.im (Cod.int .i64)) (Cod.cons (Cod.im (Cod.int .i64)) (Cod.cons (Cod.im Cod.bool) (Cod.cons (Cod.im Cod.bool) (Cod.cons (Cod.im Cod.bool) (Cod.cons (Cod.im (Cod.int .i64)) (Cod.cons (Cod.im (Cod.int .i64)) (Cod.cons (Cod.im (Cod.int .i64)) (Cod.cons (Cod.im (Cod.int .i64)) (Cod.cons (Cod.im (Cod.int .i64)) (Cod.cons (Cod.im (Cod.int .i64)) (Cod.cons (Cod.ar 3) (Cod.nil)))))))))))))))))))))) (Cod.cons (Cod.var 1 39 (Cod.cons (Cod.im (Cod.int .i64)) (Cod.cons (Cod.im (Cod.int .i64)) (Cod.cons (Cod.im (Cod.int .i64)) (Cod.cons (Cod.im (Cod.int .i64)) (Cod.cons (Cod.im (Cod.int .i64)) (Cod.cons (Cod.im (Cod.int .i64)) (Cod.cons (Cod.im (Cod.int .i64)) (Cod.cons (Cod.im Cod.bool) (Cod.cons (Cod.im (Cod.fz j_lEntry)) (Cod.cons (Cod.im Cod.str) (Cod.nil)))))))))))) (Cod.cons (Cod.arr 2 32 j_lEntry) (Cod.cons (Cod.arr 3 39 j_lMsg) (Cod.nil)))))) (fun p => (p.1.2.2.1, p.1.2.2.2.1, p.1.2.2.2.2.1, (Worker.mk (Node.mk p.2.1.1 p.2.1.2.1 p.2.1.2.2.1 p.2.1.2.2.2.1 p.2.1.2.2.2.2.1 p.2.1.2.2.2.2.2.1 p.2.2.2.1 p.2.1.2.2.2.2.2.2.2.1 p.2.1.2.2.2.2.2.2.2.2.1 p.2.1.2.2.2.2.2.2.2.2.2.1 (A3Bool.mk p.2.1.2.2.2.2.2.2.2.2.2.2.1 p.2.1.2.2.2.2.2.2.2.2.2.2.2.1 p.2.1.2.2.2.2.2.2.2.2.2.2.2.2.1) (A3Int.mk p.2.1.2.2.2.2.2.2.2.2.2.2.2.2.2.1 p.2.1.2.2.2.2.2.2.2.2.2.2.2.2.2.2.1 p.2.1.2.2.2.2.2.2.2.2.2.2.2.2.2.2.2.1) (A3Int.mk p.2.1.2.2.2.2.2.2.2.2.2.2.2.2.2.2.2.2.1 p.2.1.2.2.2.2.2.2.2.2.2.2.2.2.2.2.2.2.2.1 p.2.1.2.2.2.2.2.2.2.2.2.2.2.2.2.2.2.2.2.2.1)) p.2.2.2.2.1), (Msg.mk p.2.2.1.1 p.2.2.1.2.1 p.2.2.1.2.2.1 p.2.2.1.2.2.2.1 p.2.2.1.2.2.2.2.1 p.2.2.1.2.2.2.2.2.1 p.2.2.1.2.2.2.2.2.2.1 p.2.2.1.2.2.2.2.2.2.2.1 p.2.2.1.2.2.2.2.2.2.2.2.1 p.2.2.1.2.2.2.2.2.2.2.2.2.1))) (fun (x : (List Entry) × Int × Int × Worker × Msg) => (((), ((), (x.1, (x.2.1, (x.2.2.1, ()))))), ((x.2.2.2.1.node.id_, (x.2.2.2.1.node.term_, (x.2.2.2.1.node.vote, (x.2.2.2.1.node.base, (x.2.2.2.1.node.baseTerm, (x.2.2.2.1.node.snap, ((), (x.2.2.2.1.node.role, (x.2.2.2.1.node.commit, (x.2.2.2.1.node.wait, (x.2.2.2.1.node.votes.a0, (x.2.2.2.1.node.votes.a1, (x.2.2.2.1.node.votes.a2, (x.2.2.2.1.node.next.a0, (x.2.2.2.1.node.next.a1, (x.2.2.2.1.node.next.a2, (x.2.2.2.1.node.match_.a0, (x.2.2.2.1.node.match_.a1, (x.2.2.2.1.node.match_.a2, ((), ())))))))))))))))))))), ((x.2.2.2.2.kind, (x.2.2.2.2.from_, (x.2.2.2.2.to_, (x.2.2.2.2.term_, (x.2.2.2.2.index, (x.2.2.2.2.logTerm, (x.2.2.2.2.commit, (x.2.2.2.2.yes, (x.2.2.2.2.entries, (x.2.2.2.2.snap, ())))))))))), (x.2.2.2.1.node.log, (x.2.2.2.1.out, ())))))) (fun _ => rfl)
def co0_L28_10 : Cod (Cst TL) (Worker × Msg) := Cod.iso (Cod.cst 8 (Cod.cons (Cod.xs (Cod.sc (Cod.ptr 0 0))) (Cod.cons (Cod.xs (Cod.sc (Cod.ptr 1 0))) (Cod.nil))) (Cod.cons (Cod.var 0 68 (Cod.cons (Cod.im (Cod.int .i64)) (Cod.cons (Cod.im (Cod.int .i64)) (Cod.cons (Cod.im (Cod.int .i64)) (Cod.cons (Cod.im (Cod.int .i64)) (Cod.cons (Cod.im (Cod.int .i64)) (Cod.cons (Cod.im Cod.str) (Cod.cons (Cod.ar 6) (Cod.cons (Cod.im (Cod.int .i64)) (Cod.cons (Cod.im (Cod.int .i64)) (Cod.cons (Cod.im (Cod.int .i64)) (Cod.cons (Cod.im Cod.bool) (Cod.cons (Cod.im Cod.bool) (Cod.cons (Cod.im Cod.bool) (Cod.cons (Cod.im (Cod.int .i64)) (Cod.cons (Cod.im (Cod.int .i64)) (Cod.cons (Cod.im (Cod.int .i64)) (Cod.cons (Cod.im (Cod.int .i64)) (Cod.cons (Cod.im (Cod.int .i64)) (Cod.cons (Cod.im (Cod.int .i64)) (Cod.cons (Cod.ar 7) (Cod.nil)))))))))))))))))))))) (Cod.cons (Cod.var 1 39 (Cod.cons (Cod.im (Cod.int .i64)) (Cod.cons (Cod.im (Cod.int .i64)) (Cod.cons (Cod.im (Cod.int .i64)) (Cod.cons (Cod.im (Cod.int .i64)) (Cod.cons (Cod.im (Cod.int .i64)) (Cod.cons (Cod.im (Cod.int .i64)) (Cod.cons (Cod.im (Cod.int .i64)) (Cod.cons (Cod.im Cod.bool) (Cod.cons (Cod.im (Cod.fz j_lEntry)) (Cod.cons (Cod.im Cod.str) (Cod.nil)))))))))))) (Cod.cons (Cod.arr 6 32 j_lEntry) (Cod.cons (Cod.arr 7 39 j_lMsg) (Cod.nil)))))) (fun p => ((Worker.mk (Node.mk p.2.1.1 p.2.1.2.1 p.2.1.2.2.1 p.2.1.2.2.2.1 p.2.1.2.2.2.2.1 p.2.1.2.2.2.2.2.1 p.2.2.2.1 p.2.1.2.2.2.2.2.2.2.1 p.2.1.2.2.2.2.2.2.2.2.1 p.2.1.2.2.2.2.2.2.2.2.2.1 (A3Bool.mk p.2.1.2.2.2.2.2.2.2.2.2.2.1 p.2.1.2.2.2.2.2.2.2.2.2.2.2.1 p.2.1.2.2.2.2.2.2.2.2.2.2.2.2.1) (A3Int.mk p.2.1.2.2.2.2.2.2.2.2.2.2.2.2.2.1 p.2.1.2.2.2.2.2.2.2.2.2.2.2.2.2.2.1 p.2.1.2.2.2.2.2.2.2.2.2.2.2.2.2.2.2.1) (A3Int.mk p.2.1.2.2.2.2.2.2.2.2.2.2.2.2.2.2.2.2.1 p.2.1.2.2.2.2.2.2.2.2.2.2.2.2.2.2.2.2.2.1 p.2.1.2.2.2.2.2.2.2.2.2.2.2.2.2.2.2.2.2.2.1)) p.2.2.2.2.1), (Msg.mk p.2.2.1.1 p.2.2.1.2.1 p.2.2.1.2.2.1 p.2.2.1.2.2.2.1 p.2.2.1.2.2.2.2.1 p.2.2.1.2.2.2.2.2.1 p.2.2.1.2.2.2.2.2.2.1 p.2.2.1.2.2.2.2.2.2.2.1 p.2.2.1.2.2.2.2.2.2.2.2.1 p.2.2.1.2.2.2.2.2.2.2.2.2.1))) (fun (x : Worker × Msg) => (((), ((), ())), ((x.1.node.id_, (x.1.node.term_, (x.1.node.vote, (x.1.node.base, (x.1.node.baseTerm, (x.1.node.snap, ((), (x.1.node.role, (x.1.node.commit, (x.1.node.wait, (x.1.node.votes.a0, (x.1.node.votes.a1, (x.1.node.votes.a2, (x.1.node.next.a0, (x.1.node.next.a1, (x.1.node.next.a2, (x.1.node.match_.a0, (x.1.node.match_.a1, (x.1.node.match_.a2, ((), ())))))))))))))))))))), ((x.2.kind, (x.2.from_, (x.2.to_, (x.2.term_, (x.2.index, (x.2.logTerm, (x.2.commit, (x.2.yes, (x.2.entries, (x.2.snap, ())))))))))), (x.1.node.log, (x.1.out, ())))))) (fun _ => rfl)
noncomputable def sl_L28_10 : SFn TL := SFn.one ch_L28_10.dec (fun p => L28_10 p.1 p.2.1 p.2.2.1 p.2.2.2.1 p.2.2.2.2) (.exit 1) co0_L28_10.enc
noncomputable def cs_lL28_10 : List (Nat × DFn TL) := []
noncomputable def ss_lL28_10 : List (Nat × SFn TL) := []
noncomputable def env_lL28_10 : Env := envOf tab sl sh [] []
theorem env_lL28_10_ok : EnvOK Try.prog (mkD cs_lL28_10 ss_lL28_10) env_lL28_10 := envOK_of base (all_nil) (all_nil)
theorem run_L28_10 (x : (List Entry) × Int × Int × Worker × Msg) : Out.run (mkO cs_lL28_10 ss_lL28_10) (evRound env_lL28_10 12 20 fd28.an q_L28_10 (loopIn (loopsOf fd28.body) 10) (ch_L28_10.enc x)) (back ch_L28_10 co0_L28_10 fun e => exE e (.exit 1)) = stp_L28_10 x := by kernel_rfl
theorem ok_L28_10 : LoopOK Try.prog (oneS sl_L28_10) nt28 q_L28_10 (loopIn (loopsOf fd28.body) 10) :=
  loop_one env_lL28_10_ok (loops := 12) (k := 20) (an := fd28.an) (by kernel_rfl) (FnSt.subl rfl st28.keys (all_cons (.inl (by kernel_rfl)) (all_nil))) ch_L28_10 co0_L28_10 (.exit 1) rfl stp_L28_10 _ run_L28_10 (fun x y h => ⟨_, h⟩) (fun _ => below_iff.1 rfl)
/-- replica.worker).add -/
def add (m1 : Msg) (w1 : Worker) : Option (Worker) :=
  cond ((decide (m1.term_ < w1.node.term_)))
    (ob (added m1.from_ false 0 w1) fun y0 =>
    some y0)
    (ob (last_ (Node.mk w1.node.id_ w1.node.term_ w1.node.vote w1.node.base w1.node.baseTerm w1.node.snap w1.node.log 0 w1.node.commit 0 w1.node.votes w1.node.next w1.node.match_)) fun r1 =>
    cond ((decide (m1.index < w1.node.base)))
      (ob (added m1.from_ true w1.node.base (Worker.mk (Node.mk w1.node.id_ w1.node.term_ w1.node.vote w1.node.base w1.node.baseTerm w1.node.snap w1.node.log 0 w1.node.commit 0 w1.node.votes w1.node.next w1.node.match_) w1.out)) fun y2 =>
      some y2)
      (cond ((decide (m1.index > r1.1)))
        (ob (added m1.from_ false (min2 r1.1 (w64 (m1.index - 1))) (Worker.mk (Node.mk w1.node.id_ w1.node.term_ w1.node.vote w1.node.base w1.node.baseTerm w1.node.snap w1.node.log 0 w1.node.commit 0 w1.node.votes w1.node.next w1.node.match_) w1.out)) fun y4 =>
        some y4)
        (cond ((cond (decide ((w64 ((w64 (m1.index - w1.node.base)) - 1)) ≥ 0)) (decide ((w64 ((w64 (m1.index - w1.node.base)) - 1)) < (w1.node.log.length : Int))) false))
          (cond (decide (0 ≤ (w64 ((w64 (m1.index - w1.node.base)) - 1))))
            (cond (decide ((w64 ((w64 (m1.index - w1.node.base)) - 1)) < (w1.node.log.length : Int)))
              (ob (w1.node.log[((w64 ((w64 (m1.index - w1.node.base)) - 1))).toNat]?) fun e3 =>
              cond ((e3.term_ != m1.logTerm))
                (ob (added m1.from_ false (min2 r1.1 (w64 (m1.index - 1))) (Worker.mk (Node.mk w1.node.id_ w1.node.term_ w1.node.vote w1.node.base w1.node.baseTerm w1.node.snap w1.node.log 0 w1.node.commit 0 w1.node.votes w1.node.next w1.node.match_) w1.out)) fun y5 =>
                some y5)
                (ob (L28_10 m1.entries (m1.entries.length : Int) 0 (Worker.mk (Node.mk w1.node.id_ w1.node.term_ w1.node.vote w1.node.base w1.node.baseTerm w1.node.snap w1.node.log 0 w1.node.commit 0 w1.node.votes w1.node.next w1.node.match_) w1.out) m1) fun y7 =>
                cond ((decide (y7.2.commit > y7.1.node.commit)))
                  (ob (added y7.2.from_ true (w64 (y7.2.index + (y7.2.entries.length : Int))) (Worker.mk (Node.mk y7.1.node.id_ y7.1.node.term_ y7.1.node.vote y7.1.node.base y7.1.node.baseTerm y7.1.node.snap y7.1.node.log y7.1.node.role (max2 (min2 y7.2.commit (w64 (y7.2.index + (y7.2.entries.length : Int)))) y7.1.node.commit) y7.1.node.wait y7.1.node.votes y7.1.node.next y7.1.node.match_) y7.1.out)) fun y8 =>
                  some y8)
                  (ob (added y7.2.from_ true (w64 (y7.2.index + (y7.2.entries.length : Int))) y7.1) fun y9 =>
                  some y9)))
              (none))
            (none))
          (cond ((w1.node.baseTerm != m1.logTerm))
            (ob (added m1.from_ false (min2 r1.1 (w64 (m1.index - 1))) (Worker.mk (Node.mk w1.node.id_ w1.node.term_ w1.node.vote w1.node.base w1.node.baseTerm w1.node.snap w1.node.log 0 w1.node.commit 0 w1.node.votes w1.node.next w1.node.match_) w1.out)) fun y6 =>
            some y6)
            (ob (L28_10 m1.entries (m1.entries.length : Int) 0 (Worker.mk (Node.mk w1.node.id_ w1.node.term_ w1.node.vote w1.node.base w1.node.baseTerm w1.node.snap w1.node.log 0 w1.node.commit 0 w1.node.votes w1.node.next w1.node.match_) w1.out) m1) fun y10 =>
            cond ((decide (y10.2.commit > y10.1.node.commit)))
              (ob (added y10.2.from_ true (w64 (y10.2.index + (y10.2.entries.length : Int))) (Worker.mk (Node.mk y10.1.node.id_ y10.1.node.term_ y10.1.node.vote y10.1.node.base y10.1.node.baseTerm y10.1.node.snap y10.1.node.log y10.1.node.role (max2 (min2 y10.2.commit (w64 (y10.2.index + (y10.2.entries.length : Int)))) y10.1.node.commit) y10.1.node.wait y10.1.node.votes y10.1.node.next y10.1.node.match_) y10.1.out)) fun y11 =>
              some y11)
              (ob (added y10.2.from_ true (w64 (y10.2.index + (y10.2.entries.length : Int))) y10.1) fun y12 =>
              some y12))))))
def ch_add : Cod (Cst TL) (Msg × Worker) := Cod.iso (Cod.cst 3 (Cod.cons (Cod.xs (Cod.sc (Cod.ptr 0 0))) (Cod.cons (Cod.xs (Cod.sa (Cod.cons (Cod.im (Cod.int .i64)) (Cod.cons (Cod.im (Cod.int .i64)) (Cod.cons (Cod.im (Cod.int .i64)) (Cod.cons (Cod.im (Cod.int .i64)) (Cod.cons (Cod.im (Cod.int .i64)) (Cod.cons (Cod.im (Cod.int .i64)) (Cod.cons (Cod.im (Cod.int .i64)) (Cod.cons (Cod.im Cod.bool) (Cod.cons (Cod.im (Cod.fz j_lEntry)) (Cod.cons (Cod.im Cod.str) (Cod.nil))))))))))))) (Cod.nil))) (Cod.cons (Cod.var 0 68 (Cod.cons (Cod.im (Cod.int .i64)) (Cod.cons (Cod.im (Cod.int .i64)) (Cod.cons (Cod.im (Cod.int .i64)) (Cod.cons (Cod.im (Cod.int .i64)) (Cod.cons (Cod.im (Cod.int .i64)) (Cod.cons (Cod.im Cod.str) (Cod.cons (Cod.ar 1) (Cod.cons (Cod.im (Cod.int .i64)) (Cod.cons (Cod.im (Cod.int .i64)) (Cod.cons (Cod.im (Cod.int .i64)) (Cod.cons (Cod.im Cod.bool) (Cod.cons (Cod.im Cod.bool) (Cod.cons (Cod.im Cod.bool) (Cod.cons (Cod.im (Cod.int .i64)) (Cod.cons (Cod.im (Cod.int .i64)) (Cod.cons (Cod.im (Cod.int .i64)) (Cod.cons (Cod.im (Cod.int .i64)) (Cod.cons (Cod.im (Cod.int .i64)) (Cod.cons (Cod.im (Cod.int .i64)) (Cod.cons (Cod.ar 2) (Cod.nil)))))))))))))))))))))) (Cod.cons (Cod.arr 1 32 j_lEntry) (Cod.cons (Cod.arr 2 39 j_lMsg) (Cod.nil))))) (fun p => ((Msg.mk p.1.2.1.1 p.1.2.1.2.1 p.1.2.1.2.2.1 p.1.2.1.2.2.2.1 p.1.2.1.2.2.2.2.1 p.1.2.1.2.2.2.2.2.1 p.1.2.1.2.2.2.2.2.2.1 p.1.2.1.2.2.2.2.2.2.2.1 p.1.2.1.2.2.2.2.2.2.2.2.1 p.1.2.1.2.2.2.2.2.2.2.2.2.1), (Worker.mk (Node.mk p.2.1.1 p.2.1.2.1 p.2.1.2.2.1 p.2.1.2.2.2.1 p.2.1.2.2.2.2.1 p.2.1.2.2.2.2.2.1 p.2.2.1 p.2.1.2.2.2.2.2.2.2.1 p.2.1.2.2.2.2.2.2.2.2.1 p.2.1.2.2.2.2.2.2.2.2.2.1 (A3Bool.mk p.2.1.2.2.2.2.2.2.2.2.2.2.1 p.2.1.2.2.2.2.2.2.2.2.2.2.2.1 p.2.1.2.2.2.2.2.2.2.2.2.2.2.2.1) (A3Int.mk p.2.1.2.2.2.2.2.2.2.2.2.2.2.2.2.1 p.2.1.2.2.2.2.2.2.2.2.2.2.2.2.2.2.1 p.2.1.2.2.2.2.2.2.2.2.2.2.2.2.2.2.2.1) (A3Int.mk p.2.1.2.2.2.2.2.2.2.2.2.2.2.2.2.2.2.2.1 p.2.1.2.2.2.2.2.2.2.2.2.2.2.2.2.2.2.2.2.1 p.2.1.2.2.2.2.2.2.2.2.2.2.2.2.2.2.2.2.2.2.1)) p.2.2.2.1))) (fun (x : Msg × Worker) => (((), ((x.1.kind, (x.1.from_, (x.1.to_, (x.1.term_, (x.1.index, (x.1.logTerm, (x.1.commit, (x.1.yes, (x.1.entries, (x.1.snap, ())))))))))), ())), ((x.2.node.id_, (x.2.node.term_, (x.2.node.vote, (x.2.node.base, (x.2.node.baseTerm, (x.2.node.snap, ((), (x.2.node.role, (x.2.node.commit, (x.2.node.wait, (x.2.node.votes.a0, (x.2.node.votes.a1, (x.2.node.votes.a2, (x.2.node.next.a0, (x.2.node.next.a1, (x.2.node.next.a2, (x.2.node.match_.a0, (x.2.node.match_.a1, (x.2.node.match_.a2, ((), ())))))))))))))))))))), (x.2.node.log, (x.2.out, ()))))) (fun _ => rfl)
def co_add : Cod (Cst TL) (Worker) := Cod.iso (Cod.cst 7 (Cod.cons (Cod.xt (Cod.nil)) (Cod.nil)) (Cod.cons (Cod.var 0 68 (Cod.cons (Cod.im (Cod.int .i64)) (Cod.cons (Cod.im (Cod.int .i64)) (Cod.cons (Cod.im (Cod.int .i64)) (Cod.cons (Cod.im (Cod.int .i64)) (Cod.cons (Cod.im (Cod.int .i64)) (Cod.cons (Cod.im Cod.str) (Cod.cons (Cod.im (Cod.fz j_lEntry)) (Cod.cons (Cod.im (Cod.int .i64)) (Cod.cons (Cod.im (Cod.int .i64)) (Cod.cons (Cod.im (Cod.int .i64)) (Cod.cons (Cod.im Cod.bool) (Cod.cons (Cod.im Cod.bool) (Cod.cons (Cod.im Cod.bool) (Cod.cons (Cod.im (Cod.int .i64)) (Cod.cons (Cod.im (Cod.int .i64)) (Cod.cons (Cod.im (Cod.int .i64)) (Cod.cons (Cod.im (Cod.int .i64)) (Cod.cons (Cod.im (Cod.int .i64)) (Cod.cons (Cod.im (Cod.int .i64)) (Cod.cons (Cod.ar 6) (Cod.nil)))))))))))))))))))))) (Cod.cons (Cod.dead 1) (Cod.cons (Cod.dead 2) (Cod.cons (Cod.arr 6 39 j_lMsg) (Cod.nil)))))) (fun p => (Worker.mk (Node.mk p.2.1.1 p.2.1.2.1 p.2.1.2.2.1 p.2.1.2.2.2.1 p.2.1.2.2.2.2.1 p.2.1.2.2.2.2.2.1 p.2.1.2.2.2.2.2.2.1 p.2.1.2.2.2.2.2.2.2.1 p.2.1.2.2.2.2.2.2.2.2.1 p.2.1.2.2.2.2.2.2.2.2.2.1 (A3Bool.mk p.2.1.2.2.2.2.2.2.2.2.2.2.1 p.2.1.2.2.2.2.2.2.2.2.2.2.2.1 p.2.1.2.2.2.2.2.2.2.2.2.2.2.2.1) (A3Int.mk p.2.1.2.2.2.2.2.2.2.2.2.2.2.2.2.1 p.2.1.2.2.2.2.2.2.2.2.2.2.2.2.2.2.1 p.2.1.2.2.2.2.2.2.2.2.2.2.2.2.2.2.2.1) (A3Int.mk p.2.1.2.2.2.2.2.2.2.2.2.2.2.2.2.2.2.2.1 p.2.1.2.2.2.2.2.2.2.2.2.2.2.2.2.2.2.2.2.1 p.2.1.2.2.2.2.2.2.2.2.2.2.2.2.2.2.2.2.2.2.1)) p.2.2.2.2.1)) (fun (x : Worker) => (((), ()), ((x.node.id_, (x.node.term_, (x.node.vote, (x.node.base, (x.node.baseTerm, (x.node.snap, (x.node.log, (x.node.role, (x.node.commit, (x.node.wait, (x.node.votes.a0, (x.node.votes.a1, (x.node.votes.a2, (x.node.next.a0, (x.node.next.a1, (x.node.next.a2, (x.node.match_.a0, (x.node.match_.a1, (x.node.match_.a2, ((), ())))))))))))))))))))), ((), ((), (x.out, ())))))) (fun _ => rfl)
def un_add (p : Msg × Worker) : Option (Worker) := add p.1 p.2
noncomputable def sf_add : SFn TL := SFn.one ch_add.dec un_add .normal co_add.enc
noncomputable def cs_add : List (Nat × DFn TL) := [(12, df_last_)]
noncomputable def ss_add : List (Nat × SFn TL) := [(47, sf_added), (128010, sl_L28_10)]
noncomputable def env_add : Env := envOf tab sl sh [(28, fd28), (23, fd23)] [(47, .sum), (12, .pure)]
theorem env_add_ok : EnvOK Try.prog (mkD cs_add ss_add) env_add := envOK_of base (all_cons (st28.okl rfl (all_cons (LoopOK.cast ok_L28_10 rfl) (all_nil))) (all_cons (st23.okl rfl (all_nil)) (all_nil))) (all_cons (okS rfl ok_added) (all_cons (okD rfl ok_last_) (all_nil)))
theorem run_add (x : Msg × Worker) : Out.run (mkO cs_add ss_add) (evSum env_add 12 20 28 (ch_add.enc x)) (back1 co_add) = un_add x := by kernel_rfl
theorem ok_add : SOK Try.prog 28 sf_add := sum_one env_add_ok (loops := 12) (n := 20) st28.enters ch_add co_add un_add run_add
/-- a loop of replica.worker).reach -/
def step_L48_5 (i1 : Int) (i2 : Int) (l1 : List Entry) (i3 : Int) (i4 : Int) (a1 : A3Int) (i5 : Int) (w1 : Worker) (e1 : Entry) : Option ((Int × Int × (List Entry) × Int × Int × A3Int × Int × Worker × Entry) ⊕ (Int × Int × (List Entry) × Int × Int × Worker × Entry)) :=
  cond ((decide (i5 < 3)))
    (cond (decide (i5 = 0))
      (some (.inl (i1, (cond (decide (a1.a0 ≥ i1)) (w64 (i2 + 1)) i2), l1, i3, i4, a1, (w64 (i5 + 1)), w1, e1)))
      (cond (decide (i5 = 1))
        (some (.inl (i1, (cond (decide (a1.a1 ≥ i1)) (w64 (i2 + 1)) i2), l1, i3, i4, a1, (w64 (i5 + 1)), w1, e1)))
        (cond (decide (i5 = 2))
          (some (.inl (i1, (cond (decide (a1.a2 ≥ i1)) (w64 (i2 + 1)) i2), l1, i3, i4, a1, (w64 (i5 + 1)), w1, e1)))
          (none))))
    (some (.inr (i1, i2, l1, i3, i4, w1, e1)))
def stp_L48_5 (p : Int × Int × (List Entry) × Int × Int × A3Int × Int × Worker × Entry) : Option ((Int × Int × (List Entry) × Int × Int × A3Int × Int × Worker × Entry) ⊕ (Int × Int × (List Entry) × Int × Int × Worker × Entry)) := step_L48_5 p.1 p.2.1 p.2.2.1 p.2.2.2.1 p.2.2.2.2.1 p.2.2.2.2.2.1 p.2.2.2.2.2.2.1 p.2.2.2.2.2.2.2.1 p.2.2.2.2.2.2.2.2
def L48_5 (i1 : Int) (i2 : Int) (l1 : List Entry) (i3 : Int) (i4 : Int) (a1 : A3Int) (i5 : Int) (w1 : Worker) (e1 : Entry) : Option (Int × Int × (List Entry) × Int × Int × Worker × Entry) := iterO stp_L48_5 ((3 - i5).toNat + 2) (i1, i2, l1, i3, i4, a1, i5, w1, e1)
def ch_L48_5 : Cod (Cst TL) (Int × Int × (List Entry) × Int × Int × A3Int × Int × Worker × Entry) := Cod.iso (Cod.cst 3 (Cod.cons (Cod.xs (Cod.sc (Cod.ptr 0 0))) (Cod.cons (Cod.xs (Cod.sc (Cod.ptr 1 0))) (Cod.cons (Cod.xs (Cod.sc (Cod.im (Cod.int .i64)))) (Cod.cons (Cod.xs (Cod.sc (Cod.im (Cod.int .i64)))) (Cod.cons (Cod.xs (Cod.sc (Cod.im (Cod.fz j_lEntry)))) (Cod.cons (Cod.xs (Cod.sc (Cod.im (Cod.int .i64)))) (Cod.cons (Cod.xs (Cod.sc (Cod.im (Cod.int .i64)))) (Cod.cons (Cod.xs (Cod.sa (Cod.cons (Cod.im (Cod.int .i64)) (Cod.cons (Cod.im (Cod.int .i64)) (Cod.cons (Cod.im (Cod.int .i64)) (Cod.nil)))))) (Cod.cons (Cod.xs (Cod.sc (Cod.im (Cod.int .i64)))) (Cod.nil)))))))))) (Cod.cons (Cod.var 0 68 (Cod.cons (Cod.im (Cod.int .i64)) (Cod.cons (Cod.im (Cod.int .i64)) (Cod.cons (Cod.im (Cod.int .i64)) (Cod.cons (Cod.im (Cod.int .i64)) (Cod.cons (Cod.im (Cod.int .i64)) (Cod.cons (Cod.im Cod.str) (Cod.cons (Cod.im (Cod.fz j_lEntry)) (Cod.cons (Cod.im (Cod.int .i64)) (Cod.cons (Cod.im (Cod.int .i64)) (Cod.cons (Cod.im (Cod.int .i64)) (Cod.cons (Cod.im Cod.bool) (Cod.cons (Cod.im Cod.bool) (Cod.cons (Cod.im Cod.bool) (Cod.cons (Cod.im (Cod.int .i64)) (Cod.cons (Cod.im (Cod.int .i64)) (Cod.cons (Cod.im (Cod.int .i64)) (Cod.cons (Cod.im (Cod.int .i64)) (Cod.cons (Cod.im (Cod.int .i64)) (Cod.cons (Cod.im (Cod.int .i64)) (Cod.cons (Cod.ar 2) (Cod.nil)))))))))))))))))))))) (Cod.cons (Cod.var 1 32 (Cod.cons (Cod.im (Cod.int .i64)) (Cod.cons (Cod.im Cod.str) (Cod.nil)))) (Cod.cons (Cod.arr 2 39 j_lMsg) (Cod.nil))))) (fun p => (p.1.2.2.1, p.1.2.2.2.1, p.1.2.2.2.2.1, p.1.2.2.2.2.2.1, p.1.2.2.2.2.2.2.1, (A3Int.mk p.1.2.2.2.2.2.2.2.1.1 p.1.2.2.2.2.2.2.2.1.2.1 p.1.2.2.2.2.2.2.2.1.2.2.1), p.1.2.2.2.2.2.2.2.2.1, (Worker.mk (Node.mk p.2.1.1 p.2.1.2.1 p.2.1.2.2.1 p.2.1.2.2.2.1 p.2.1.2.2.2.2.1 p.2.1.2.2.2.2.2.1 p.2.1.2.2.2.2.2.2.1 p.2.1.2.2.2.2.2.2.2.1 p.2.1.2.2.2.2.2.2.2.2.1 p.2.1.2.2.2.2.2.2.2.2.2.1 (A3Bool.mk p.2.1.2.2.2.2.2.2.2.2.2.2.1 p.2.1.2.2.2.2.2.2.2.2.2.2.2.1 p.2.1.2.2.2.2.2.2.2.2.2.2.2.2.1) (A3Int.mk p.2.1.2.2.2.2.2.2.2.2.2.2.2.2.2.1 p.2.1.2.2.2.2.2.2.2.2.2.2.2.2.2.2.1 p.2.1.2.2.2.2.2.2.2.2.2.2.2.2.2.2.2.1) (A3Int.mk p.2.1.2.2.2.2.2.2.2.2.2.2.2.2.2.2.2.2.1 p.2.1.2.2.2.2.2.2.2.2.2.2.2.2.2.2.2.2.2.1 p.2.1.2.2.2.2.2.2.2.2.2.2.2.2.2.2.2.2.2.2.1)) p.2.2.2.1), (Entry.mk p.2.2.1.1 p.2.2.1.2.1))) (fun (x : Int × Int × (List Entry) × Int × Int × A3Int × Int × Worker × Entry) => (((), ((), (x.1, (x.2.1, (x.2.2.1, (x.2.2.2.1, (x.2.2.2.2.1, ((x.2.2.2.2.2.1.a0, (x.2.2.2.2.2.1.a1, (x.2.2.2.2.2.1.a2, ()))), (x.2.2.2.2.2.2.1, ()))))))))), ((x.2.2.2.2.2.2.2.1.node.id_, (x.2.2.2.2.2.2.2.1.node.term_, (x.2.2.2.2.2.2.2.1.node.vote, (x.2.2.2.2.2.2.2.1.node.base, (x.2.2.2.2.2.2.2.1.node.baseTerm, (x.2.2.2.2.2.2.2.1.node.snap, (x.2.2.2.2.2.2.2.1.node.log, (x.2.2.2.2.2.2.2.1.node.role, (x.2.2.2.2.2.2.2.1.node.commit, (x.2.2.2.2.2.2.2.1.node.wait, (x.2.2.2.2.2.2.2.1.node.votes.a0, (x.2.2.2.2.2.2.2.1.node.votes.a1, (x.2.2.2.2.2.2.2.1.node.votes.a2, (x.2.2.2.2.2.2.2.1.node.next.a0, (x.2.2.2.2.2.2.2.1.node.next.a1, (x.2.2.2.2.2.2.2.1.node.next.a2, (x.2.2.2.2.2.2.2.1.node.match_.a0, (x.2.2.2.2.2.2.2.1.node.match_.a1, (x.2.2.2.2.2.2.2.1.node.match_.a2, ((), ())))))))))))))))))))), ((x.2.2.2.2.2.2.2.2.term_, (x.2.2.2.2.2.2.2.2.cmd, ())), (x.2.2.2.2.2.2.2.1.out, ()))))) (fun _ => rfl)
def co0_L48_5 : Cod (Cst TL) (Int × Int × (List Entry) × Int × Int × Worker × Entry) := Cod.iso (Cod.cst 6 (Cod.cons (Cod.xs (Cod.sc (Cod.ptr 0 0))) (Cod.cons (Cod.xs (Cod.sc (Cod.ptr 1 0))) (Cod.cons (Cod.xs (Cod.sc (Cod.im (Cod.int .i64)))) (Cod.cons (Cod.xs (Cod.sc (Cod.im (Cod.int .i64)))) (Cod.cons (Cod.xs (Cod.sc (Cod.im (Cod.fz j_lEntry)))) (Cod.cons (Cod.xs (Cod.sc (Cod.im (Cod.int .i64)))) (Cod.cons (Cod.xs (Cod.sc (Cod.im (Cod.int .i64)))) (Cod.nil)))))))) (Cod.cons (Cod.var 0 68 (Cod.cons (Cod.im (Cod.int .i64)) (Cod.cons (Cod.im (Cod.int .i64)) (Cod.cons (Cod.im (Cod.int .i64)) (Cod.cons (Cod.im (Cod.int .i64)) (Cod.cons (Cod.im (Cod.int .i64)) (Cod.cons (Cod.im Cod.str) (Cod.cons (Cod.im (Cod.fz j_lEntry)) (Cod.cons (Cod.im (Cod.int .i64)) (Cod.cons (Cod.im (Cod.int .i64)) (Cod.cons (Cod.im (Cod.int .i64)) (Cod.cons (Cod.im Cod.bool) (Cod.cons (Cod.im Cod.bool) (Cod.cons (Cod.im Cod.bool) (Cod.cons (Cod.im (Cod.int .i64)) (Cod.cons (Cod.im (Cod.int .i64)) (Cod.cons (Cod.im (Cod.int .i64)) (Cod.cons (Cod.im (Cod.int .i64)) (Cod.cons (Cod.im (Cod.int .i64)) (Cod.cons (Cod.im (Cod.int .i64)) (Cod.cons (Cod.ar 5) (Cod.nil)))))))))))))))))))))) (Cod.cons (Cod.var 1 32 (Cod.cons (Cod.im (Cod.int .i64)) (Cod.cons (Cod.im Cod.str) (Cod.nil)))) (Cod.cons (Cod.arr 5 39 j_lMsg) (Cod.nil))))) (fun p => (p.1.2.2.1, p.1.2.2.2.1, p.1.2.2.2.2.1, p.1.2.2.2.2.2.1, p.1.2.2.2.2.2.2.1, (Worker.mk (Node.mk p.2.1.1 p.2.1.2.1 p.2.1.2.2.1 p.2.1.2.2.2.1 p.2.1.2.2.2.2.1 p.2.1.2.2.2.2.2.1 p.2.1.2.2.2.2.2.2.1 p.2.1.2.2.2.2.2.2.2.1 p.2.1.2.2.2.2.2.2.2.2.1 p.2.1.2.2.2.2.2.2.2.2.2.1 (A3Bool.mk p.2.1.2.2.2.2.2.2.2.2.2.2.1 p.2.1.2.2.2.2.2.2.2.2.2.2.2.1 p.2.1.2.2.2.2.2.2.2.2.2.2.2.2.1) (A3Int.mk p.2.1.2.2.2.2.2.2.2.2.2.2.2.2.2.1 p.2.1.2.2.2.2.2.2.2.2.2.2.2.2.2.2.1 p.2.1.2.2.2.2.2.2.2.2.2.2.2.2.2.2.2.1) (A3Int.mk p.2.1.2.2.2.2.2.2.2.2.2.2.2.2.2.2.2.2.1 p.2.1.2.2.2.2.2.2.2.2.2.2.2.2.2.2.2.2.2.1 p.2.1.2.2.2.2.2.2.2.2.2.2.2.2.2.2.2.2.2.2.1)) p.2.2.2.1), (Entry.mk p.2.2.1.1 p.2.2.1.2.1))) (fun (x : Int × Int × (List Entry) × Int × Int × Worker × Entry) => (((), ((), (x.1, (x.2.1, (x.2.2.1, (x.2.2.2.1, (x.2.2.2.2.1, ()))))))), ((x.2.2.2.2.2.1.node.id_, (x.2.2.2.2.2.1.node.term_, (x.2.2.2.2.2.1.node.vote, (x.2.2.2.2.2.1.node.base, (x.2.2.2.2.2.1.node.baseTerm, (x.2.2.2.2.2.1.node.snap, (x.2.2.2.2.2.1.node.log, (x.2.2.2.2.2.1.node.role, (x.2.2.2.2.2.1.node.commit, (x.2.2.2.2.2.1.node.wait, (x.2.2.2.2.2.1.node.votes.a0, (x.2.2.2.2.2.1.node.votes.a1, (x.2.2.2.2.2.1.node.votes.a2, (x.2.2.2.2.2.1.node.next.a0, (x.2.2.2.2.2.1.node.next.a1, (x.2.2.2.2.2.1.node.next.a2, (x.2.2.2.2.2.1.node.match_.a0, (x.2.2.2.2.2.1.node.match_.a1, (x.2.2.2.2.2.1.node.match_.a2, ((), ())))))))))))))))))))), ((x.2.2.2.2.2.2.term_, (x.2.2.2.2.2.2.cmd, ())), (x.2.2.2.2.2.1.out, ()))))) (fun _ => rfl)
noncomputable def sl_L48_5 : SFn TL := SFn.one ch_L48_5.dec (fun p => L48_5 p.1 p.2.1 p.2.2.1 p.2.2.2.1 p.2.2.2.2.1 p.2.2.2.2.2.1 p.2.2.2.2.2.2.1 p.2.2.2.2.2.2.2.1 p.2.2.2.2.2.2.2.2) (.exit 2) co0_L48_5.enc
noncomputable def cs_lL48_5 : List (Nat × DFn TL) := []
noncomputable def ss_lL48_5 : List (Nat × SFn TL) := []
noncomputable def env_lL48_5 : Env := envOf tab sl sh [] []
theorem env_lL48_5_ok : EnvOK Try.prog (mkD cs_lL48_5 ss_lL48_5) env_lL48_5 := envOK_of base (all_nil) (all_nil)
theorem run_L48_5 (x : Int × Int × (List Entry) × Int × Int × A3Int × Int × Worker × Entry) : Out.run (mkO cs_lL48_5 ss_lL48_5) (evRound env_lL48_5 12 20 fd48.an q_L48_5 (loopIn (loopsOf fd48.body) 5) (ch_L48_5.enc x)) (back ch_L48_5 co0_L48_5 fun e => exE e (.exit 2)) = stp_L48_5 x := by kernel_rfl
theorem ok_L48_5 : LoopOK Try.prog (oneS sl_L48_5) nt48 q_L48_5 (loopIn (loopsOf fd48.body) 5) :=
  loop_one env_lL48_5_ok (loops := 12) (k := 20) (an := fd48.an) (by kernel_rfl) (FnSt.subl rfl st48.keys (all_cons (.inl (by kernel_rfl)) (all_cons (.inl (by kernel_rfl)) (all_nil)))) ch_L48_5 co0_L48_5 (.exit 2) rfl stp_L48_5 _ run_L48_5 (fun x y h => ⟨_, h⟩) (fun _ => below_iff.1 rfl)
/-- a loop of replica.worker).reach -/
def step_L48_1 (l1 : List Entry) (i1 : Int) (i2 : Int) (w1 : Worker) : Option (((List Entry) × Int × Int × Worker) ⊕ (Worker)) :=
  cond ((decide (i2 < i1)))
    (cond (decide (0 ≤ i2))
      (ob (l1[i2.toNat]?) fun e0 =>
      ob (L48_5 (w64 ((w64 (w1.node.base + i2)) + 1)) 0 l1 i1 i2 w1.node.match_ 0 w1 e0) fun y1 =>
      cond ((cond (decide (y1.2.1 ≥ 2)) (y1.2.2.2.2.2.2.term_ == y1.2.2.2.2.2.1.node.term_) false))
        (some (.inl (y1.2.2.1, y1.2.2.2.1, (w64 (y1.2.2.2.2.1 + 1)), (Worker.mk (Node.mk y1.2.2.2.2.2.1.node.id_ y1.2.2.2.2.2.1.node.term_ y1.2.2.2.2.2.1.node.vote y1.2.2.2.2.2.1.node.base y1.2.2.2.2.2.1.node.baseTerm y1.2.2.2.2.2.1.node.snap y1.2.2.2.2.2.1.node.log y1.2.2.2.2.2.1.node.role (max2 y1.2.2.2.2.2.1.node.commit y1.1) y1.2.2.2.2.2.1.node.wait y1.2.2.2.2.2.1.node.votes y1.2.2.2.2.2.1.node.next y1.2.2.2.2.2.1.node.match_) y1.2.2.2.2.2.1.out))))
        (some (.inl (y1.2.2.1, y1.2.2.2.1, (w64 (y1.2.2.2.2.1 + 1)), y1.2.2.2.2.2.1))))
      (none))
    (some (.inr w1))
def stp_L48_1 (p : (List Entry) × Int × Int × Worker) : Option (((List Entry) × Int × Int × Worker) ⊕ (Worker)) := step_L48_1 p.1 p.2.1 p.2.2.1 p.2.2.2
def L48_1 (l1 : List Entry) (i1 : Int) (i2 : Int) (w1 : Worker) : Option (Worker) := iterO stp_L48_1 ((i1 - i2).toNat + 2) (l1, i1, i2, w1)
def ch_L48_1 : Cod (Cst TL) ((List Entry) × Int × Int × Worker) := Cod.iso (Cod.cst 2 (Cod.cons (Cod.xs (Cod.sc (Cod.ptr 0 0))) (Cod.cons (Cod.xs (Cod.sc (Cod.im (Cod.fz j_lEntry)))) (Cod.cons (Cod.xs (Cod.sc (Cod.im (Cod.int .i64)))) (Cod.cons (Cod.xs (Cod.sc (Cod.im (Cod.int .i64)))) (Cod.nil))))) (Cod.cons (Cod.var 0 68 (Cod.cons (Cod.im (Cod.int .i64)) (Cod.cons (Cod.im (Cod.int .i64)) (Cod.cons (Cod.im (Cod.int .i64)) (Cod.cons (Cod.im (Cod.int .i64)) (Cod.cons (Cod.im (Cod.int .i64)) (Cod.cons (Cod.im Cod.str) (Cod.cons (Cod.im (Cod.fz j_lEntry)) (Cod.cons (Cod.im (Cod.int .i64)) (Cod.cons (Cod.im (Cod.int .i64)) (Cod.cons (Cod.im (Cod.int .i64)) (Cod.cons (Cod.im Cod.bool) (Cod.cons (Cod.im Cod.bool) (Cod.cons (Cod.im Cod.bool) (Cod.cons (Cod.im (Cod.int .i64)) (Cod.cons (Cod.im (Cod.int .i64)) (Cod.cons (Cod.im (Cod.int .i64)) (Cod.cons (Cod.im (Cod.int .i64)) (Cod.cons (Cod.im (Cod.int .i64)) (Cod.cons (Cod.im (Cod.int .i64)) (Cod.cons (Cod.ar 1) (Cod.nil)))))))))))))))))))))) (Cod.cons (Cod.arr 1 39 j_lMsg) (Cod.nil)))) (fun p => (p.1.2.1, p.1.2.2.1, p.1.2.2.2.1, (Worker.mk (Node.mk p.2.1.1 p.2.1.2.1 p.2.1.2.2.1 p.2.1.2.2.2.1 p.2.1.2.2.2.2.1 p.2.1.2.2.2.2.2.1 p.2.1.2.2.2.2.2.2.1 p.2.1.2.2.2.2.2.2.2.1 p.2.1.2.2.2.2.2.2.2.2.1 p.2.1.2.2.2.2.2.2.2.2.2.1 (A3Bool.mk p.2.1.2.2.2.2.2.2.2.2.2.2.1 p.2.1.2.2.2.2.2.2.2.2.2.2.2.1 p.2.1.2.2.2.2.2.2.2.2.2.2.2.2.1) (A3Int.mk p.2.1.2.2.2.2.2.2.2.2.2.2.2.2.2.1 p.2.1.2.2.2.2.2.2.2.2.2.2.2.2.2.2.1 p.2.1.2.2.2.2.2.2.2.2.2.2.2.2.2.2.2.1) (A3Int.mk p.2.1.2.2.2.2.2.2.2.2.2.2.2.2.2.2.2.2.1 p.2.1.2.2.2.2.2.2.2.2.2.2.2.2.2.2.2.2.2.1 p.2.1.2.2.2.2.2.2.2.2.2.2.2.2.2.2.2.2.2.2.1)) p.2.2.1))) (fun (x : (List Entry) × Int × Int × Worker) => (((), (x.1, (x.2.1, (x.2.2.1, ())))), ((x.2.2.2.node.id_, (x.2.2.2.node.term_, (x.2.2.2.node.vote, (x.2.2.2.node.base, (x.2.2.2.node.baseTerm, (x.2.2.2.node.snap, (x.2.2.2.node.log, (x.2.2.2.node.role, (x.2.2.2.node.commit, (x.2.2.2.node.wait, (x.2.2.2.node.votes.a0, (x.2.2.2.node.votes.a1, (x.2.2.2.node.votes.a2, (x.2.2.2.node.next.a0, (x.2.2.2.node.next.a1, (x.2.2.2.node.next.a2, (x.2.2.2.node.match_.a0, (x.2.2.2.node.match_.a1, (x.2.2.2.node.match_.a2, ((), ())))))))))))))))))))), (x.2.2.2.out, ())))) (fun _ => rfl)
def co0_L48_1 : Cod (Cst TL) (Worker) := Cod.iso (Cod.cst 4 (Cod.nil) (Cod.cons (Cod.var 0 68 (Cod.cons (Cod.im (Cod.int .i64)) (Cod.cons (Cod.im (Cod.int .i64)) (Cod.cons (Cod.im (Cod.int .i64)) (Cod.cons (Cod.im (Cod.int .i64)) (Cod.cons (Cod.im (Cod.int .i64)) (Cod.cons (Cod.im Cod.str) (Cod.cons (Cod.im (Cod.fz j_lEntry)) (Cod.cons (Cod.im (Cod.int .i64)) (Cod.cons (Cod.im (Cod.int .i64)) (Cod.cons (Cod.im (Cod.int .i64)) (Cod.cons (Cod.im Cod.bool) (Cod.cons (Cod.im Cod.bool) (Cod.cons (Cod.im Cod.bool) (Cod.cons (Cod.im (Cod.int .i64)) (Cod.cons (Cod.im (Cod.int .i64)) (Cod.cons (Cod.im (Cod.int .i64)) (Cod.cons (Cod.im (Cod.int .i64)) (Cod.cons (Cod.im (Cod.int .i64)) (Cod.cons (Cod.im (Cod.int .i64)) (Cod.cons (Cod.ar 3) (Cod.nil)))))))))))))))))))))) (Cod.cons (Cod.arr 3 39 j_lMsg) (Cod.nil)))) (fun p => (Worker.mk (Node.mk p.2.1.1 p.2.1.2.1 p.2.1.2.2.1 p.2.1.2.2.2.1 p.2.1.2.2.2.2.1 p.2.1.2.2.2.2.2.1 p.2.1.2.2.2.2.2.2.1 p.2.1.2.2.2.2.2.2.2.1 p.2.1.2.2.2.2.2.2.2.2.1 p.2.1.2.2.2.2.2.2.2.2.2.1 (A3Bool.mk p.2.1.2.2.2.2.2.2.2.2.2.2.1 p.2.1.2.2.2.2.2.2.2.2.2.2.2.1 p.2.1.2.2.2.2.2.2.2.2.2.2.2.2.1) (A3Int.mk p.2.1.2.2.2.2.2.2.2.2.2.2.2.2.2.1 p.2.1.2.2.2.2.2.2.2.2.2.2.2.2.2.2.1 p.2.1.2.2.2.2.2.2.2.2.2.2.2.2.2.2.2.1) (A3Int.mk p.2.1.2.2.2.2.2.2.2.2.2.2.2.2.2.2.2.2.1 p.2.1.2.2.2.2.2.2.2.2.2.2.2.2.2.2.2.2.2.1 p.2.1.2.2.2.2.2.2.2.2.2.2.2.2.2.2.2.2.2.2.1)) p.2.2.1)) (fun (x : Worker) => ((), ((x.node.id_, (x.node.term_, (x.node.vote, (x.node.base, (x.node.baseTerm, (x.node.snap, (x.node.log, (x.node.role, (x.node.commit, (x.node.wait, (x.node.votes.a0, (x.node.votes.a1, (x.node.votes.a2, (x.node.next.a0, (x.node.next.a1, (x.node.next.a2, (x.node.match_.a0, (x.node.match_.a1, (x.node.match_.a2, ((), ())))))))))))))))))))), (x.out, ())))) (fun _ => rfl)
noncomputable def sl_L48_1 : SFn TL := SFn.one ch_L48_1.dec (fun p => L48_1 p.1 p.2.1 p.2.2.1 p.2.2.2) (.exit 0) co0_L48_1.enc
noncomputable def cs_lL48_1 : List (Nat × DFn TL) := []
noncomputable def ss_lL48_1 : List (Nat × SFn TL) := [(148005, sl_L48_5)]
noncomputable def env_lL48_1 : Env := envOf tab sl sh [] []
theorem env_lL48_1_ok : EnvOK Try.prog (mkD cs_lL48_1 ss_lL48_1) env_lL48_1 := envOK_of base (all_nil) (all_nil)
theorem run_L48_1 (x : (List Entry) × Int × Int × Worker) : Out.run (mkO cs_lL48_1 ss_lL48_1) (evRound env_lL48_1 12 20 fd48.an q_L48_1 (loopIn (loopsOf fd48.body) 1) (ch_L48_1.enc x)) (back ch_L48_1 co0_L48_1 fun e => exE e (.exit 0)) = stp_L48_1 x := by kernel_rfl
theorem ok_L48_1 : LoopOK Try.prog (oneS sl_L48_1) nt48 q_L48_1 (loopIn (loopsOf fd48.body) 1) :=
  loop_one env_lL48_1_ok (loops := 12) (k := 20) (an := fd48.an) (by kernel_rfl) (FnSt.subl rfl st48.keys (all_cons (.inl (by kernel_rfl)) (all_cons (.inr (LoopOK.cast ok_L48_5 rfl)) (all_nil)))) ch_L48_1 co0_L48_1 (.exit 0) rfl stp_L48_1 _ run_L48_1 (fun x y h => ⟨_, h⟩) (fun _ => below_iff.1 rfl)
/-- replica.worker).reach -/
def reach (w1 : Worker) : Option (Worker) :=
  ob (L48_1 w1.node.log (w1.node.log.length : Int) 0 w1) fun y0 =>
  some y0
def ch_reach : Cod (Cst TL) (Worker) := Cod.iso (Cod.cst 2 (Cod.cons (Cod.xs (Cod.sc (Cod.ptr 0 0))) (Cod.nil)) (Cod.cons (Cod.var 0 68 (Cod.cons (Cod.im (Cod.int .i64)) (Cod.cons (Cod.im (Cod.int .i64)) (Cod.cons (Cod.im (Cod.int .i64)) (Cod.cons (Cod.im (Cod.int .i64)) (Cod.cons (Cod.im (Cod.int .i64)) (Cod.cons (Cod.im Cod.str) (Cod.cons (Cod.im (Cod.fz j_lEntry)) (Cod.cons (Cod.im (Cod.int .i64)) (Cod.cons (Cod.im (Cod.int .i64)) (Cod.cons (Cod.im (Cod.int .i64)) (Cod.cons (Cod.im Cod.bool) (Cod.cons (Cod.im Cod.bool) (Cod.cons (Cod.im Cod.bool) (Cod.cons (Cod.im (Cod.int .i64)) (Cod.cons (Cod.im (Cod.int .i64)) (Cod.cons (Cod.im (Cod.int .i64)) (Cod.cons (Cod.im (Cod.int .i64)) (Cod.cons (Cod.im (Cod.int .i64)) (Cod.cons (Cod.im (Cod.int .i64)) (Cod.cons (Cod.ar 1) (Cod.nil)))))))))))))))))))))) (Cod.cons (Cod.arr 1 39 j_lMsg) (Cod.nil)))) (fun p => (Worker.mk (Node.mk p.2.1.1 p.2.1.2.1 p.2.1.2.2.1 p.2.1.2.2.2.1 p.2.1.2.2.2.2.1 p.2.1.2.2.2.2.2.1 p.2.1.2.2.2.2.2.2.1 p.2.1.2.2.2.2.2.2.2.1 p.2.1.2.2.2.2.2.2.2.2.1 p.2.1.2.2.2.2.2.2.2.2.2.1 (A3Bool.mk p.2.1.2.2.2.2.2.2.2.2.2.2.1 p.2.1.2.2.2.2.2.2.2.2.2.2.2.1 p.2.1.2.2.2.2.2.2.2.2.2.2.2.2.1) (A3Int.mk p.2.1.2.2.2.2.2.2.2.2.2.2.2.2.2.1 p.2.1.2.2.2.2.2.2.2.2.2.2.2.2.2.2.1 p.2.1.2.2.2.2.2.2.2.2.2.2.2.2.2.2.2.1) (A3Int.mk p.2.1.2.2.2.2.2.2.2.2.2.2.2.2.2.2.2.2.1 p.2.1.2.2.2.2.2.2.2.2.2.2.2.2.2.2.2.2.2.1 p.2.1.2.2.2.2.2.2.2.2.2.2.2.2.2.2.2.2.2.2.1)) p.2.2.1)) (fun (x : Worker) => (((), ()), ((x.node.id_, (x.node.term_, (x.node.vote, (x.node.base, (x.node.baseTerm, (x.node.snap, (x.node.log, (x.node.role, (x.node.commit, (x.node.wait, (x.node.votes.a0, (x.node.votes.a1, (x.node.votes.a2, (x.node.next.a0, (x.node.next.a1, (x.node.next.a2, (x.node.match_.a0, (x.node.match_.a1, (x.node.match_.a2, ((), ())))))))))))))))))))), (x.out, ())))) (fun _ => rfl)
def co_reach : Cod (Cst TL) (Worker) := Cod.iso (Cod.cst 5 (Cod.cons (Cod.xt (Cod.nil)) (Cod.nil)) (Cod.cons (Cod.var 0 68 (Cod.cons (Cod.im (Cod.int .i64)) (Cod.cons (Cod.im (Cod.int .i64)) (Cod.cons (Cod.im (Cod.int .i64)) (Cod.cons (Cod.im (Cod.int .i64)) (Cod.cons (Cod.im (Cod.int .i64)) (Cod.cons (Cod.im Cod.str) (Cod.cons (Cod.im (Cod.fz j_lEntry)) (Cod.cons (Cod.im (Cod.int .i64)) (Cod.cons (Cod.im (Cod.int .i64)) (Cod.cons (Cod.im (Cod.int .i64)) (Cod.cons (Cod.im Cod.bool) (Cod.cons (Cod.im Cod.bool) (Cod.cons (Cod.im Cod.bool) (Cod.cons (Cod.im (Cod.int .i64)) (Cod.cons (Cod.im (Cod.int .i64)) (Cod.cons (Cod.im (Cod.int .i64)) (Cod.cons (Cod.im (Cod.int .i64)) (Cod.cons (Cod.im (Cod.int .i64)) (Cod.cons (Cod.im (Cod.int .i64)) (Cod.cons (Cod.ar 4) (Cod.nil)))))))))))))))))))))) (Cod.cons (Cod.dead 1) (Cod.cons (Cod.arr 4 39 j_lMsg) (Cod.nil))))) (fun p => (Worker.mk (Node.mk p.2.1.1 p.2.1.2.1 p.2.1.2.2.1 p.2.1.2.2.2.1 p.2.1.2.2.2.2.1 p.2.1.2.2.2.2.2.1 p.2.1.2.2.2.2.2.2.1 p.2.1.2.2.2.2.2.2.2.1 p.2.1.2.2.2.2.2.2.2.2.1 p.2.1.2.2.2.2.2.2.2.2.2.1 (A3Bool.mk p.2.1.2.2.2.2.2.2.2.2.2.2.1 p.2.1.2.2.2.2.2.2.2.2.2.2.2.1 p.2.1.2.2.2.2.2.2.2.2.2.2.2.2.1) (A3Int.mk p.2.1.2.2.2.2.2.2.2.2.2.2.2.2.2.1 p.2.1.2.2.2.2.2.2.2.2.2.2.2.2.2.2.1 p.2.1.2.2.2.2.2.2.2.2.2.2.2.2.2.2.2.1) (A3Int.mk p.2.1.2.2.2.2.2.2.2.2.2.2.2.2.2.2.2.2.1 p.2.1.2.2.2.2.2.2.2.2.2.2.2.2.2.2.2.2.2.1 p.2.1.2.2.2.2.2.2.2.2.2.2.2.2.2.2.2.2.2.2.1)) p.2.2.2.1)) (fun (x : Worker) => (((), ()), ((x.node.id_, (x.node.term_, (x.node.vote, (x.node.base, (x.node.baseTerm, (x.node.snap, (x.node.log, (x.node.role, (x.node.commit, (x.node.wait, (x.node.votes.a0, (x.node.votes.a1, (x.node.votes.a2, (x.node.next.a0, (x.node.next.a1, (x.node.next.a2, (x.node.match_.a0, (x.node.match_.a1, (x.node.match_.a2, ((), ())))))))))))))))))))), ((), (x.out, ()))))) (fun _ => rfl)
def un_reach (p : Worker) : Option (Worker) := reach p
noncomputable def sf_reach : SFn TL := SFn.one ch_reach.dec un_reach .normal co_reach.enc
noncomputable def cs_reach : List (Nat × DFn TL) := []
noncomputable def ss_reach : List (Nat × SFn TL) := [(148001, sl_L48_1), (148005, sl_L48_5)]
noncomputable def env_reach : Env := envOf tab sl sh [(48, fd48)] []
theorem env_reach_ok : EnvOK Try.prog (mkD cs_reach ss_reach) env_reach := envOK_of base (all_cons (st48.okl rfl (all_cons (LoopOK.cast ok_L48_1 rfl) (all_cons (LoopOK.cast ok_L48_5 rfl) (all_nil)))) (all_nil)) (all_nil)
theorem run_reach (x : Worker) : Out.run (mkO cs_reach ss_reach) (evSum env_reach 12 20 48 (ch_reach.enc x)) (back1 co_reach) = un_reach x := by kernel_rfl
theorem ok_reach : SOK Try.prog 48 sf_reach := sum_one env_reach_ok (loops := 12) (n := 20) st48.enters ch_reach co_reach un_reach run_reach
end Go.Proofs.Ytoicjnggljeicaa
