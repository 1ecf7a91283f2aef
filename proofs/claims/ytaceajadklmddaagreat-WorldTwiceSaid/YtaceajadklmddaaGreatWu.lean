/- Under: how many messages are under way; nothing turns. -/
import Derived.Test.YtaceajadklmddaaGreatXa
import Derived.Handy
import Derived.Tactics2
import Derived.WalkArith
import Derived.WalkKit
namespace Go.Proofs.YtaceajadklmddaaGreat
open Go Go.Proofs Go.RowKit Go.Cx

theorem under_walk (b : Nat) (a : Option Addr) (m c : Nat) (w : World) (h : w.cell? ⟨b, 2, none⟩ = some (.slice a m c)) : Calls Tryz.prog 10 #[.pointer (some ⟨b, 0, none⟩)] w fun e w' => e = .returned (.int .i64 m) ∧ w' = w := by
  go_enter Tryz.func10, Tryz.ntmps10
  go_wp2
  all_goals go_ret
  all_goals exact ⟨rfl, rfl⟩

/-- so many messages are under way in the world x -/
noncomputable def undB (x m : Nat) : Bool := match rd (WD 1 x).h ⟨2, 2, none⟩ 1 with | some [.slice _ n _] => Nat.beq n m | _ => false

theorem under_calls {x m : Nat} (h : undB x m = true) {w0 w : World} {u : Value} (hw : AtV x w0 [pw] [u] w) : Calls Tryz.prog 10 ⟨[u]⟩ w fun e w' => e = .returned (.int .i64 (m : Int)) ∧ w' = w := by
  obtain ⟨g, B, hB, hv⟩ := hw
  cases hv with
  | cons h1 _ =>
    obtain ⟨cp, hg, hc, rfl⟩ := (show RV g (.pointer (some ⟨2, 0, none⟩)) u from h1).ptr
    unfold undB at h
    split at h
    · rename_i a n c hrd
      have hnm := Nat.eq_of_beq_eq_true h
      subst hnm
      have hc0 : cp.cut = 0 := Nat.le_zero.1 hc
      obtain ⟨l', e1, e2, e3⟩ := rd_sound hB.rel hrd (cp := cp) hg (by rw [hc0]; exact Nat.zero_le _)
      cases e2 with
      | cons q1 e2 =>
        rename_i vv vs
        have e3 := e3 0 _ rfl
        have q2 := (RV.one (.cell q1)).slice
        have key : ∃ a' c', vv = Value.slice a' n c' := by
          cases q2 with
          | same hh => exact ⟨_, _, rfl⟩
          | slice _ _ _ _ _ => exact ⟨_, _, rfl⟩
          | slice0 => exact ⟨_, _, rfl⟩
        obtain ⟨a', c', rfl⟩ := key
        have e4 : w.cell? ⟨cp.blk, 2, none⟩ = some (.slice a' n c') := by
          have : ((⟨cp.blk, 2 - cp.cut, none⟩ : Addr).add 0) = ⟨cp.blk, 2, none⟩ := by rw [hc0]; rfl
          rw [← this]
          exact e3
        have := under_walk cp.blk a' n c' w e4
        rw [show (0 : Nat) - cp.cut = 0 from Nat.zero_sub _]
        exact this
    · cases h
end Go.Proofs.YtaceajadklmddaaGreat
