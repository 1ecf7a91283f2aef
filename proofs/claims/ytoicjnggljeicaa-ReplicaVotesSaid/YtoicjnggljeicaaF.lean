/- By program (gen.py): the functions in their typed form. -/
import Derived.Test.YtoicjnggljeicaaF1
namespace Go.Proofs.Ytoicjnggljeicaa
open Go Go.Ev
set_option maxRecDepth 1000000

/-- a loop of escrowlaw15.ReplicaLeads -/
def step_L4_9 (i1 : Int) (i2 : Int) (s1 : ByteArray) (i3 : Int) (i4 : Int) (n1 : Node) : Option ((Int × Int × ByteArray × Int × Int × Node) ⊕ (Int × Int × ByteArray × Int × Node)) :=
  cond ((decide (i4 < (w64 (5 + (w64 (3 * i1)))))))
    (ob (tick n1) fun r0 =>
    some (.inl (i1, i2, s1, i3, (w64 (i4 + 1)), r0.1)))
    (some (.inr (i1, i2, s1, i3, n1)))
def stp_L4_9 (p : Int × Int × ByteArray × Int × Int × Node) : Option ((Int × Int × ByteArray × Int × Int × Node) ⊕ (Int × Int × ByteArray × Int × Node)) := step_L4_9 p.1 p.2.1 p.2.2.1 p.2.2.2.1 p.2.2.2.2.1 p.2.2.2.2.2
def L4_9 (i1 : Int) (i2 : Int) (s1 : ByteArray) (i3 : Int) (i4 : Int) (n1 : Node) : Option (Int × Int × ByteArray × Int × Node) := iterO stp_L4_9 (20) (i1, i2, s1, i3, i4, n1)
def ch_L4_9 : Cod (Cst TL) (Int × Int × ByteArray × Int × Int × Node) := Cod.iso (Cod.cst 1 (Cod.cons (Cod.xs (Cod.sc (Cod.im (Cod.int .i64)))) (Cod.cons (Cod.xs (Cod.sc (Cod.im (Cod.int .i64)))) (Cod.cons (Cod.xs (Cod.sc (Cod.im Cod.str))) (Cod.cons (Cod.xs (Cod.sc (Cod.ptr 0 0))) (Cod.cons (Cod.xs (Cod.sc (Cod.im (Cod.int .i64)))) (Cod.cons (Cod.xs (Cod.sc (Cod.im (Cod.int .i64)))) (Cod.nil))))))) (Cod.cons (Cod.var 0 28 (Cod.cons (Cod.im (Cod.int .i64)) (Cod.cons (Cod.im (Cod.int .i64)) (Cod.cons (Cod.im (Cod.int .i64)) (Cod.cons (Cod.im (Cod.int .i64)) (Cod.cons (Cod.im (Cod.int .i64)) (Cod.cons (Cod.im Cod.str) (Cod.cons (Cod.im (Cod.fz j_lEntry)) (Cod.cons (Cod.im (Cod.int .i64)) (Cod.cons (Cod.im (Cod.int .i64)) (Cod.cons (Cod.im (Cod.int .i64)) (Cod.cons (Cod.im Cod.bool) (Cod.cons (Cod.im Cod.bool) (Cod.cons (Cod.im Cod.bool) (Cod.cons (Cod.im (Cod.int .i64)) (Cod.cons (Cod.im (Cod.int .i64)) (Cod.cons (Cod.im (Cod.int .i64)) (Cod.cons (Cod.im (Cod.int .i64)) (Cod.cons (Cod.im (Cod.int .i64)) (Cod.cons (Cod.im (Cod.int .i64)) (Cod.nil))))))))))))))))))))) (Cod.nil))) (fun p => (p.1.1, p.1.2.1, p.1.2.2.1, p.1.2.2.2.2.1, p.1.2.2.2.2.2.1, (Node.mk p.2.1.1 p.2.1.2.1 p.2.1.2.2.1 p.2.1.2.2.2.1 p.2.1.2.2.2.2.1 p.2.1.2.2.2.2.2.1 p.2.1.2.2.2.2.2.2.1 p.2.1.2.2.2.2.2.2.2.1 p.2.1.2.2.2.2.2.2.2.2.1 p.2.1.2.2.2.2.2.2.2.2.2.1 (A3Bool.mk p.2.1.2.2.2.2.2.2.2.2.2.2.1 p.2.1.2.2.2.2.2.2.2.2.2.2.2.1 p.2.1.2.2.2.2.2.2.2.2.2.2.2.2.1) (A3Int.mk p.2.1.2.2.2.2.2.2.2.2.2.2.2.2.2.1 p.2.1.2.2.2.2.2.2.2.2.2.2.2.2.2.2.1 p.2.1.2.2.2.2.2.2.2.2.2.2.2.2.2.2.2.1) (A3Int.mk p.2.1.2.2.2.2.2.2.2.2.2.2.2.2.2.2.2.2.1 p.2.1.2.2.2.2.2.2.2.2.2.2.2.2.2.2.2.2.2.1 p.2.1.2.2.2.2.2.2.2.2.2.2.2.2.2.2.2.2.2.2.1)))) (fun (x : Int × Int × ByteArray × Int × Int × Node) => ((x.1, (x.2.1, (x.2.2.1, ((), (x.2.2.2.1, (x.2.2.2.2.1, ())))))), ((x.2.2.2.2.2.id_, (x.2.2.2.2.2.term_, (x.2.2.2.2.2.vote, (x.2.2.2.2.2.base, (x.2.2.2.2.2.baseTerm, (x.2.2.2.2.2.snap, (x.2.2.2.2.2.log, (x.2.2.2.2.2.role, (x.2.2.2.2.2.commit, (x.2.2.2.2.2.wait, (x.2.2.2.2.2.votes.a0, (x.2.2.2.2.2.votes.a1, (x.2.2.2.2.2.votes.a2, (x.2.2.2.2.2.next.a0, (x.2.2.2.2.2.next.a1, (x.2.2.2.2.2.next.a2, (x.2.2.2.2.2.match_.a0, (x.2.2.2.2.2.match_.a1, (x.2.2.2.2.2.match_.a2, ()))))))))))))))))))), ()))) (fun _ => rfl)
def co0_L4_9 : Cod (Cst TL) (Int × Int × ByteArray × Int × Node) := Cod.iso (Cod.cst 2 (Cod.cons (Cod.xs (Cod.sc (Cod.im (Cod.int .i64)))) (Cod.cons (Cod.xs (Cod.sc (Cod.im (Cod.int .i64)))) (Cod.cons (Cod.xs (Cod.sc (Cod.im Cod.str))) (Cod.cons (Cod.xs (Cod.sc (Cod.ptr 0 0))) (Cod.cons (Cod.xs (Cod.sc (Cod.im (Cod.int .i64)))) (Cod.nil)))))) (Cod.cons (Cod.var 0 28 (Cod.cons (Cod.im (Cod.int .i64)) (Cod.cons (Cod.im (Cod.int .i64)) (Cod.cons (Cod.im (Cod.int .i64)) (Cod.cons (Cod.im (Cod.int .i64)) (Cod.cons (Cod.im (Cod.int .i64)) (Cod.cons (Cod.im Cod.str) (Cod.cons (Cod.im (Cod.fz j_lEntry)) (Cod.cons (Cod.im (Cod.int .i64)) (Cod.cons (Cod.im (Cod.int .i64)) (Cod.cons (Cod.im (Cod.int .i64)) (Cod.cons (Cod.im Cod.bool) (Cod.cons (Cod.im Cod.bool) (Cod.cons (Cod.im Cod.bool) (Cod.cons (Cod.im (Cod.int .i64)) (Cod.cons (Cod.im (Cod.int .i64)) (Cod.cons (Cod.im (Cod.int .i64)) (Cod.cons (Cod.im (Cod.int .i64)) (Cod.cons (Cod.im (Cod.int .i64)) (Cod.cons (Cod.im (Cod.int .i64)) (Cod.nil))))))))))))))))))))) (Cod.nil))) (fun p => (p.1.1, p.1.2.1, p.1.2.2.1, p.1.2.2.2.2.1, (Node.mk p.2.1.1 p.2.1.2.1 p.2.1.2.2.1 p.2.1.2.2.2.1 p.2.1.2.2.2.2.1 p.2.1.2.2.2.2.2.1 p.2.1.2.2.2.2.2.2.1 p.2.1.2.2.2.2.2.2.2.1 p.2.1.2.2.2.2.2.2.2.2.1 p.2.1.2.2.2.2.2.2.2.2.2.1 (A3Bool.mk p.2.1.2.2.2.2.2.2.2.2.2.2.1 p.2.1.2.2.2.2.2.2.2.2.2.2.2.1 p.2.1.2.2.2.2.2.2.2.2.2.2.2.2.1) (A3Int.mk p.2.1.2.2.2.2.2.2.2.2.2.2.2.2.2.1 p.2.1.2.2.2.2.2.2.2.2.2.2.2.2.2.2.1 p.2.1.2.2.2.2.2.2.2.2.2.2.2.2.2.2.2.1) (A3Int.mk p.2.1.2.2.2.2.2.2.2.2.2.2.2.2.2.2.2.2.1 p.2.1.2.2.2.2.2.2.2.2.2.2.2.2.2.2.2.2.2.1 p.2.1.2.2.2.2.2.2.2.2.2.2.2.2.2.2.2.2.2.2.1)))) (fun (x : Int × Int × ByteArray × Int × Node) => ((x.1, (x.2.1, (x.2.2.1, ((), (x.2.2.2.1, ()))))), ((x.2.2.2.2.id_, (x.2.2.2.2.term_, (x.2.2.2.2.vote, (x.2.2.2.2.base, (x.2.2.2.2.baseTerm, (x.2.2.2.2.snap, (x.2.2.2.2.log, (x.2.2.2.2.role, (x.2.2.2.2.commit, (x.2.2.2.2.wait, (x.2.2.2.2.votes.a0, (x.2.2.2.2.votes.a1, (x.2.2.2.2.votes.a2, (x.2.2.2.2.next.a0, (x.2.2.2.2.next.a1, (x.2.2.2.2.next.a2, (x.2.2.2.2.match_.a0, (x.2.2.2.2.match_.a1, (x.2.2.2.2.match_.a2, ()))))))))))))))))))), ()))) (fun _ => rfl)
noncomputable def sl_L4_9 : SFn TL := SFn.one ch_L4_9.dec (fun p => L4_9 p.1 p.2.1 p.2.2.1 p.2.2.2.1 p.2.2.2.2.1 p.2.2.2.2.2) (.exit 0) co0_L4_9.enc
noncomputable def cs_lL4_9 : List (Nat × DFn TL) := [(15, df_tick)]
noncomputable def ss_lL4_9 : List (Nat × SFn TL) := []
noncomputable def env_lL4_9 : Env := envOf tab sl sh [] [(15, .keep)]
theorem env_lL4_9_ok : EnvOK Try.prog (mkD cs_lL4_9 ss_lL4_9) env_lL4_9 := envOK_of base (all_nil) (all_cons (okD rfl ok_tick) (all_nil))
theorem run_L4_9 (x : Int × Int × ByteArray × Int × Int × Node) : Out.run (mkO cs_lL4_9 ss_lL4_9) (evRound env_lL4_9 12 20 fd4.an q_L4_9 (loopIn (loopsOf fd4.body) 9) (ch_L4_9.enc x)) (back ch_L4_9 co0_L4_9 fun e => exE e (.exit 0)) = stp_L4_9 x := by kernel_rfl
theorem ok_L4_9 : LoopOK Try.prog (oneS sl_L4_9) nt4 q_L4_9 (loopIn (loopsOf fd4.body) 9) :=
  loop_one env_lL4_9_ok (loops := 12) (k := 20) (an := fd4.an) (by kernel_rfl) (FnSt.subl rfl st4.keys (all_cons (.inl (by kernel_rfl)) (all_nil))) ch_L4_9 co0_L4_9 (.exit 0) rfl stp_L4_9 _ run_L4_9 (fun x y h => ⟨_, h⟩) (fun _ => below_iff.1 rfl)
/-- escrowlaw15.ReplicaLeads (fails: [7]) -/
def replicaLeads (i1 : Int) (i2 : Int) (s1 : ByteArray) : Option (Bool) :=
  ob (known) fun r0 =>
  cond ((!r0))
    (some false)
    (cond ((decide ((s1.size : Int) > 40)))
      (some true)
      (ob (within i1 3) fun r1 =>
      ob (propose (Node.mk ((w64 ((r1.tmod 3) + 3)).tmod 3) 0 (-1) 0 0 s_empty [] 0 0 0 (A3Bool.mk false false false) (A3Int.mk 0 0 0) (A3Int.mk 0 0 0)) s_x) fun r2 =>
      ob (L4_9 r1 i2 s1 r2.2.2 0 (Node.mk ((w64 ((r1.tmod 3) + 3)).tmod 3) 0 (-1) 0 0 s_empty [] 0 0 0 (A3Bool.mk false false false) (A3Int.mk 0 0 0) (A3Int.mk 0 0 0))) fun y3 =>
      ob (within y3.2.1 2) fun r4 =>
      ob (take y3.2.2.2.2 (Msg.mk 2 ((w64 ((w64 (y3.1 + 1)) + r4)).tmod 3) y3.1 1 0 0 0 false [] s_empty)) fun r5 =>
      ob (take y3.2.2.2.2 (Msg.mk 2 ((w64 ((w64 (y3.1 + 1)) + r4)).tmod 3) y3.1 0 0 0 0 true [] s_empty)) fun r6 =>
      ob (take y3.2.2.2.2 (Msg.mk 2 ((w64 ((w64 (y3.1 + 1)) + r4)).tmod 3) y3.1 1 0 0 0 true [] s_empty)) fun r7 =>
      cond ((y3.2.2.2.1 != 21))
        (some false)
        (cond (((r5.2.length : Int) != 0))
          (some false)
          (cond (((r6.2.length : Int) != 0))
            (some false)
            (cond ((r5.1.role != 1))
              (some false)
              (cond ((r6.1.role != 1))
                (some false)
                (cond ((r7.1.role != 2))
                  (some false)
                  (cond (((r7.2.length : Int) != 2))
                    (some false)
                    (ob (r7.2[0]?) fun e8 =>
                    cond ((e8.kind != 3))
                      (some false)
                      (ob (r7.2[0]?) fun e9 =>
                      cond (((e9.entries.length : Int) != 1))
                        (some false)
                        (cond (((r7.1.log.length : Int) != 1))
                          (some false)
                          (ob (r7.1.log[0]?) fun e10 =>
                          cond ((!sEq e10.cmd s_empty))
                            (some false)
                            (ob (propose r7.1 y3.2.2.1) fun r11 =>
                            cond ((sEq y3.2.2.1 s_empty))
                              (cond ((r11.2.2 == 1))
                                (cond ((r11.2.1 == 0))
                                  (ob (same r7.1 r11.1) fun r12 =>
                                  some r12)
                                  (some false))
                                (some false))
                              (cond ((r11.2.2 == 0))
                                (cond ((r11.2.1 == 2))
                                  (ob (r11.1.log[1]?) fun e13 =>
                                  cond ((sEq e13.cmd y3.2.2.1))
                                    (ob (r11.1.log[1]?) fun e14 =>
                                    cond ((e14.term_ == 1))
                                      (cond (decide (y3.1 = 0))
                                        (some (r11.1.match_.a0 == 2))
                                        (cond (decide (y3.1 = 1))
                                          (some (r11.1.match_.a1 == 2))
                                          (cond (decide (y3.1 = 2))
                                            (some (r11.1.match_.a2 == 2))
                                            (none))))
                                      (some false))
                                    (some false))
                                  (some false))
                                (some false)))))))))))))))
def un_replicaLeads (p : Int × Int × ByteArray) : Option (Bool) := replicaLeads p.1 p.2.1 p.2.2
noncomputable def df_replicaLeads : DFn TL := DFn.of (DA.cons (DT.one (DI.int .i64)) (DA.cons (DT.one (DI.int .i64)) (DA.one (DT.one DI.str)))) un_replicaLeads (DA.one (DT.one DI.bool))
noncomputable def cs_replicaLeads : List (Nat × DFn TL) := [(9, df_known), (11, df_within), (14, df_propose), (13, df_take), (16, df_same)]
noncomputable def ss_replicaLeads : List (Nat × SFn TL) := [(104009, sl_L4_9)]
noncomputable def env_replicaLeads : Env := envOf tab sl sh [(4, fd4), (10, fd10)] [(9, .pure), (11, .pure), (14, .keep), (13, .keep), (16, .pure)]
theorem env_replicaLeads_ok : EnvOK Try.prog (mkD cs_replicaLeads ss_replicaLeads) env_replicaLeads := envOK_of base (all_cons (st4.okl rfl (all_cons (LoopOK.cast ok_L4_9 rfl) (all_nil))) (all_cons (st10.okl rfl (all_nil)) (all_nil))) (all_cons (okD rfl ok_known) (all_cons (okD rfl ok_within) (all_cons (okD rfl ok_propose) (all_cons (okD rfl ok_take) (all_cons (okD rfl ok_same) (all_nil))))))
theorem run_replicaLeads (x : Int × Int × ByteArray) : Out.run (mkO cs_replicaLeads ss_replicaLeads) (evOrc env_replicaLeads 12 20 4 ((DA.cons (DT.one (DI.int .i64)) (DA.cons (DT.one (DI.int .i64)) (DA.one (DT.one DI.str))) : DA TL (Int × Int × ByteArray)).enc x)) (DA.one (DT.one DI.bool) : DA TL (Bool)).dec = un_replicaLeads x := by kernel_rfl
theorem ok_replicaLeads : DOK Try.prog 4 .pure df_replicaLeads := data_of env_replicaLeads_ok (loops := 12) (n := 20) (.inr rfl) st4.enters (DA.cons (DT.one (DI.int .i64)) (DA.cons (DT.one (DI.int .i64)) (DA.one (DT.one DI.str)))) un_replicaLeads (DA.one (DT.one DI.bool)) run_replicaLeads
/-- escrowlaw15.ReplicaCommits -/
def replicaCommits (i1 : Int) (i2 : Int) (i3 : Int) : Option (Bool) :=
  ob (known) fun r0 =>
  cond ((!r0))
    (some false)
    (ob (within i1 8) fun r1 =>
    ob (lead 0 r1) fun r2 =>
    ob (within i2 (w64 (r1 + 2))) fun r3 =>
    ob (within i3 (w64 (r1 + 2))) fun r4 =>
    ob (take r2 (Msg.mk 4 1 0 1 r3 0 0 true [] s_empty)) fun r5 =>
    ob (take r5.1 (Msg.mk 4 2 0 1 r4 0 0 true [] s_empty)) fun r6 =>
    ob (take r6.1 (Msg.mk 4 1 0 0 (w64 (r1 + 1)) 0 0 true [] s_empty)) fun r7 =>
    cond ((r2.role == 2))
      (cond ((r2.commit == 0))
        (cond ((r5.1.commit == r3))
          (cond ((r6.1.commit == (max2 r3 r4)))
            (ob (same r6.1 r7.1) fun r8 =>
            some (cond r8 (cond (r6.1.next.a1 == (w64 (r3 + 1))) (r6.1.match_.a2 == r4) false) false))
            (some false))
          (some false))
        (some false))
      (some false))
def un_replicaCommits (p : Int × Int × Int) : Option (Bool) := replicaCommits p.1 p.2.1 p.2.2
noncomputable def df_replicaCommits : DFn TL := DFn.of (DA.cons (DT.one (DI.int .i64)) (DA.cons (DT.one (DI.int .i64)) (DA.one (DT.one (DI.int .i64))))) un_replicaCommits (DA.one (DT.one DI.bool))
noncomputable def cs_replicaCommits : List (Nat × DFn TL) := [(9, df_known), (11, df_within), (17, df_lead), (13, df_take), (16, df_same)]
noncomputable def ss_replicaCommits : List (Nat × SFn TL) := []
noncomputable def env_replicaCommits : Env := envOf tab sl sh [(5, fd5)] [(9, .pure), (11, .pure), (17, .keep), (13, .keep), (16, .pure)]
theorem env_replicaCommits_ok : EnvOK Try.prog (mkD cs_replicaCommits ss_replicaCommits) env_replicaCommits := envOK_of base (all_cons (st5.okl rfl (all_nil)) (all_nil)) (all_cons (okD rfl ok_known) (all_cons (okD rfl ok_within) (all_cons (okD rfl ok_lead) (all_cons (okD rfl ok_take) (all_cons (okD rfl ok_same) (all_nil))))))
theorem run_replicaCommits (x : Int × Int × Int) : Out.run (mkO cs_replicaCommits ss_replicaCommits) (evOrc env_replicaCommits 12 20 5 ((DA.cons (DT.one (DI.int .i64)) (DA.cons (DT.one (DI.int .i64)) (DA.one (DT.one (DI.int .i64)))) : DA TL (Int × Int × Int)).enc x)) (DA.one (DT.one DI.bool) : DA TL (Bool)).dec = un_replicaCommits x := by kernel_rfl
theorem ok_replicaCommits : DOK Try.prog 5 .pure df_replicaCommits := data_of env_replicaCommits_ok (loops := 12) (n := 20) (.inr rfl) st5.enters (DA.cons (DT.one (DI.int .i64)) (DA.cons (DT.one (DI.int .i64)) (DA.one (DT.one (DI.int .i64))))) un_replicaCommits (DA.one (DT.one DI.bool)) run_replicaCommits
/-- escrowlaw15.ReplicaSnaps -/
def replicaSnaps (i1 : Int) (i2 : Int) (b1 : Bool) : Option (Bool) :=
  ob (known) fun r0 =>
  cond ((!r0))
    (some false)
    (ob (within i1 6) fun r1 =>
    ob (lead 0 (w64 (1 + r1))) fun r2 =>
    ob (take r2 (Msg.mk 4 1 0 1 (w64 ((w64 (1 + r1)) + 1)) 0 0 true [] s_empty)) fun r3 =>
    ob (within i2 (w64 ((w64 (1 + r1)) + 1))) fun r4 =>
    ob (compact r3.1 (w64 (1 + r4)) s_snap) fun r5 =>
    ob (compact r5.1 (w64 (1 + r4)) s_again) fun r6 =>
    ob (compact r5.1 (w64 ((w64 (1 + r1)) + 2)) s_far) fun r7 =>
    ob (tick r5.1) fun r8 =>
    cond ((r5.2 != 0))
      (some false)
      (cond ((r6.2 != 1))
        (some false)
        (cond ((r7.2 != 1))
          (some false)
          (cond ((r5.1.base != (w64 (1 + r4))))
            (some false)
            (cond (((r5.1.log.length : Int) != (w64 ((w64 ((w64 (1 + r1)) + 1)) - (w64 (1 + r4))))))
              (some false)
              (cond (((r8.2.length : Int) != 2))
                (some false)
                (ob (same r8.1 r5.1) fun r9 =>
                cond ((!r9))
                  (some false)
                  (ob (r8.2[1]?) fun e10 =>
                  cond ((e10.kind != 5))
                    (some false)
                    (ob (r8.2[1]?) fun e11 =>
                    cond ((e11.index != (w64 (1 + r4))))
                      (some false)
                      (ob (r8.2[1]?) fun e12 =>
                      cond ((!sEq e12.snap s_snap))
                        (some false)
                        (ob (r8.2[0]?) fun e13 =>
                        cond ((e13.kind != 3))
                          (some false)
                          (ob (r8.2[0]?) fun e14 =>
                          cond ((e14.index != (w64 ((w64 (1 + r1)) + 1))))
                            (some false)
                            (cond (b1)
                              (ob (r8.2[1]?) fun e15 =>
                              ob (take (Node.mk 2 1 (-1) 0 0 s_empty [(Entry.mk 1 s_empty)] 0 0 0 (A3Bool.mk false false false) (A3Int.mk 0 0 0) (A3Int.mk 0 0 0)) e15) fun r16 =>
                              cond (((r16.2.length : Int) == 1))
                                (ob (r16.2[0]?) fun e17 =>
                                cond (e17.yes)
                                  (ob (r16.2[0]?) fun e18 =>
                                  some (cond (e18.index == (w64 (1 + r4))) (cond (r16.1.base == (w64 (1 + r4))) (cond (r16.1.commit == (w64 (1 + r4))) (cond (sEq r16.1.snap s_snap) (cond (r16.1.baseTerm == 1) (r16.1.role == 0) false) false) false) false) false))
                                  (some false))
                                (some false))
                              (ob (r8.2[1]?) fun e19 =>
                              ob (take (Node.mk 2 1 (-1) 0 0 s_empty [] 0 0 0 (A3Bool.mk false false false) (A3Int.mk 0 0 0) (A3Int.mk 0 0 0)) e19) fun r20 =>
                              cond (((r20.2.length : Int) == 1))
                                (ob (r20.2[0]?) fun e21 =>
                                cond (e21.yes)
                                  (ob (r20.2[0]?) fun e22 =>
                                  some (cond (e22.index == (w64 (1 + r4))) (cond (r20.1.base == (w64 (1 + r4))) (cond (r20.1.commit == (w64 (1 + r4))) (cond (sEq r20.1.snap s_snap) (cond (r20.1.baseTerm == 1) (r20.1.role == 0) false) false) false) false) false))
                                  (some false))
                                (some false)))))))))))))))
def un_replicaSnaps (p : Int × Int × Bool) : Option (Bool) := replicaSnaps p.1 p.2.1 p.2.2
noncomputable def df_replicaSnaps : DFn TL := DFn.of (DA.cons (DT.one (DI.int .i64)) (DA.cons (DT.one (DI.int .i64)) (DA.one (DT.one DI.bool)))) un_replicaSnaps (DA.one (DT.one DI.bool))
noncomputable def cs_replicaSnaps : List (Nat × DFn TL) := [(9, df_known), (11, df_within), (17, df_lead), (13, df_take), (18, df_compact), (15, df_tick), (16, df_same)]
noncomputable def ss_replicaSnaps : List (Nat × SFn TL) := []
noncomputable def env_replicaSnaps : Env := envOf tab sl sh [(6, fd6), (10, fd10)] [(9, .pure), (11, .pure), (17, .keep), (13, .keep), (18, .keep), (15, .keep), (16, .pure)]
theorem env_replicaSnaps_ok : EnvOK Try.prog (mkD cs_replicaSnaps ss_replicaSnaps) env_replicaSnaps := envOK_of base (all_cons (st6.okl rfl (all_nil)) (all_cons (st10.okl rfl (all_nil)) (all_nil))) (all_cons (okD rfl ok_known) (all_cons (okD rfl ok_within) (all_cons (okD rfl ok_lead) (all_cons (okD rfl ok_take) (all_cons (okD rfl ok_compact) (all_cons (okD rfl ok_tick) (all_cons (okD rfl ok_same) (all_nil))))))))
theorem run_replicaSnaps (x : Int × Int × Bool) : Out.run (mkO cs_replicaSnaps ss_replicaSnaps) (evOrc env_replicaSnaps 12 20 6 ((DA.cons (DT.one (DI.int .i64)) (DA.cons (DT.one (DI.int .i64)) (DA.one (DT.one DI.bool))) : DA TL (Int × Int × Bool)).enc x)) (DA.one (DT.one DI.bool) : DA TL (Bool)).dec = un_replicaSnaps x := by kernel_rfl
theorem ok_replicaSnaps : DOK Try.prog 6 .pure df_replicaSnaps := data_of env_replicaSnaps_ok (loops := 12) (n := 20) (.inr rfl) st6.enters (DA.cons (DT.one (DI.int .i64)) (DA.cons (DT.one (DI.int .i64)) (DA.one (DT.one DI.bool)))) un_replicaSnaps (DA.one (DT.one DI.bool)) run_replicaSnaps

end Go.Proofs.Ytoicjnggljeicaa
