/- The law EdgeNext: its three stages, as one look. -/
import Derived.Test.YtmajmilkimfojaaGreatEa
namespace Go.Proofs.YtmajmilkimfojaaGreat
open Go Go.Cx Go.RowKit

noncomputable def c7 : Code := match Tryz.f7.body with | some c => c | none => .skip
theorem body7 : Tryz.f7.body = some c7 := by kernel_rfl
noncomputable def sy (k : Nat) : Value := .complex .f32 k 2
noncomputable def fin7 (n : Nat) (env : Env) (U : W) (l : List (Nat × Bool)) : Bool :=
  allL (fun p => isB true (lawEnd Tryz.prog 100000 100 7 Tryz.f7 c7 (orc 1 (Nat.succ n) (numV p.1)) 10 (subE 2 2 (.bool p.2) env) U)) l
noncomputable def mid7 (n : Nat) (l : List (Nat × Bool)) (env : Env) (U : W) : Bool :=
  Ou.rec (motive := fun _ => Bool) (fun env U => fin7 n env U l) (fun _ _ _ => false) (fun _ _ => false) (fun _ _ _ => false) (fun _ => false)
    (stage Tryz.prog 100000 100 Tryz.f7 c7 (fun _ _ => none) 9 1 (subE 0 3 (numV n) env) U)
noncomputable def look7 (n : Nat) (l : List (Nat × Bool)) : Bool :=
  Ou.rec (motive := fun _ => Bool) (mid7 n l) (fun _ _ _ => false) (fun _ _ => false) (fun _ _ _ => false) (fun _ => false)
    (stage Tryz.prog 100000 100 Tryz.f7 c7 (orc 0 12 (sy 3)) 0 9 (env0 [sy 0, sy 1, sy 2] 0 env00) w02)

theorem none_ok {l : List Value} : OrcOk Tryz.prog (symG l) (fun _ _ => none) := fun _ _ _ _ h => by cases h
theorem xs0 : has (xsOf Tryz.f7 c7) 0 = true := by kernel_rfl
theorem xs2 : has (xsOf Tryz.f7 c7) 2 = true := by kernel_rfl
theorem nt7 : Tryz.f7.ntmps ≤ 256 := by decide

/-- what a look says -/
theorem look_calls {n s : Int} {b : Bool} {n0 s0 : Nat} (hn0 : n0 < 12) (hn : n % 12 = n0) (hs : s % ((Nat.succ n0 : Nat) : Int) = s0) {l : List (Nat × Bool)} (h : look7 n0 l = true) (hm : (s0, b) ∈ l) (w : World) :
    Calls Tryz.prog 7 #[.int .i64 n, .int .i64 s, .bool b] w fun e w' => e = .returned (.bool true) ∧ Below w.heap.size w w' := by
  refine Wins.calls (fuel := 100000) (depth := 100) (l := [.int .i64 n, .int .i64 s, .bool b, .int .i64 n0]) noNum mixed Tryz.func7 body7 (args := [sy 0, sy 1, sy 2]) (args' := [.int .i64 n, .int .i64 s, .bool b]) (by decide)
    (.cons (symG_rv rfl) (.cons (symG_rv rfl) (.cons (symG_rv rfl) .nil))) ?_ w
  unfold look7 at h
  cases h1 : stage Tryz.prog 100000 100 Tryz.f7 c7 (orc 0 12 (sy 3)) 0 9 (env0 [sy 0, sy 1, sy 2] 0 env00) w02 with
  | ex _ _ _ => rw [h1] at h; cases h
  | ret _ _ => rw [h1] at h; cases h
  | pan _ _ _ => rw [h1] at h; cases h
  | no _ => rw [h1] at h; cases h
  | go env U =>
    rw [h1] at h
    have h : mid7 n0 l env U = true := h
    refine Wins.stage noNum mixed nt7 (orc_ok (x := n) rfl (by decide) (by decide) fun g hg => ?_) 9 0 _ env _ U h1 ?_
    · have hx : ((12 : Nat) : Int) = 12 := rfl
      rw [hx, hn]
      exact (symG_rv (l := [.int .i64 n, .int .i64 s, .bool b, .int .i64 n0]) (k := 3) rfl).mono hg
    refine Wins.sub (t := 0) (k := 3) (v := numV n0) xs0 (by decide) rfl (fun g => RV.self rfl) ?_
    unfold mid7 at h
    cases h2 : stage Tryz.prog 100000 100 Tryz.f7 c7 (fun _ _ => none) 9 1 (subE 0 3 (numV n0) env) U with
    | ex _ _ _ => rw [h2] at h; cases h
    | ret _ _ => rw [h2] at h; cases h
    | pan _ _ _ => rw [h2] at h; cases h
    | no _ => rw [h2] at h; cases h
    | go env2 U2 =>
      rw [h2] at h
      have h : fin7 n0 env2 U2 l = true := h
      refine Wins.stage noNum mixed nt7 none_ok 1 9 _ env2 _ U2 h2 ?_
      refine Wins.sub (t := 2) (k := 2) (v := .bool b) xs2 (by decide) rfl (fun g => RV.self rfl) ?_
      unfold fin7 at h
      rw [allL_eq, List.all_eq_true] at h
      refine Wins.fin noNum mixed nt7 (orc_ok (k := 1) (m := Nat.succ n0) (v := numV s0) (x := s) rfl (Nat.succ_pos _) (by omega) fun g hg => ?_) (h (s0, b) hm)
      rw [hs]
      exact RV.self rfl

end Go.Proofs.YtmajmilkimfojaaGreat
