/- The law WorldTwice: its own code, walked; what it calls by what is known of them. -/
import Derived.Test.YtaceajadklmddaaGreatXa
import Derived.DataElems
import Derived.Lib.SliceRun
import Derived.LoopIn
import Derived.LoopNIn
import Derived.Handy
import Derived.Tactics2
import Derived.WalkArith
import Derived.Below
import Derived.Deep.RegionHeld
import Derived.Great.Walk
import Derived.Lib.AtoiErrMem
import Derived.OwnWalkIn
import Derived.WalkKit
import Derived.Deep.RegionHeld3
namespace Go.Proofs.YtaceajadklmddaaGreat
open Go Go.Proofs Go.RowKit Go.Lib

theorem w64n {y : Int} {n : Nat} (h : n ≤ 100) (e : y = n) : wrap64 y = n := by
  subst e
  unfold wrap64
  omega

section
variable {D : Nat → World → Value → World → Prop} {E : Nat → World → Value → Value → World → Prop} {S : Nat → World → Value → World → Prop} {und mu : Nat → Nat}

set_option maxHeartbeats 4000000 in
theorem walk_a (n : Nat) (x : Int) (a1 a2 : Option Addr) (n1 n2 c1 c2 : Nat) (w : World) (h1 : 1 ≤ n) (h4 : n ≤ 4) (hx : 1 + x % 4 = (n : Int))
    (hknown : ∀ w, Calls Tryz.prog 4 #[] w fun e w' => e = .returned (.bool true) ∧ Below w.heap.size w w')
    (hready : ∀ w0 w, Below w0.heap.size w0 w → Calls Tryz.prog 5 #[] w fun e w' => ∃ u, e = .returned u ∧ D 0 w0 u w')
    (hwithin : ∀ (x n : Int) w, 0 < n → n < 9223372036854775808 → Calls Tryz.prog 6 #[.int .i64 x, .int .i64 n] w fun e w' => e = .returned (.int .i64 (x % n)) ∧ w' = w)
    (hedge : ∀ j w0 u w, D j w0 u w → j < 4 → Calls Tryz.prog 7 #[u, .int .i64 0] w fun e w' => ∃ m, e = .returned m ∧ E j w0 u m w')
    (hdo : ∀ j w0 u m w, E j w0 u m w → j < 4 → Calls Tryz.prog 8 #[m, Value.agg #[.int .i64 (.ofNat 0), .int .i64 (.ofNat 0), .int .i64 (.ofNat 0), .int .i64 (.ofNat 0), .int .i64 (.ofNat 0), .int .i64 (.ofNat 2), .string ⟨⟨[107]⟩⟩, .string ⟨⟨[116]⟩⟩, .int .i64 (.ofNat 0), .int .i64 (.ofNat 0), .slice none 0 0]] w fun e w' => e = .returned (.int .i64 0) ∧ D (j + 1) w0 u w')
    (hsend0 : ∀ w0 u w, D n w0 u w → Calls Tryz.prog 9 #[u, .int .i64 0, .int .i64 0] w fun e w' => e = .returned (.bool true) ∧ S 0 w0 u w')
    (hsend : ∀ s w0 u w, S s w0 u w → s < 5 → Calls Tryz.prog 9 #[u, .int .i64 0, .int .i64 0] w fun e w' => e = .returned (.bool true) ∧ S (s + 1) w0 u w')
    (hund : ∀ s w0 u w, S s w0 u w → s < 83 → Calls Tryz.prog 10 #[u] w fun e w' => e = .returned (.int .i64 (und s)) ∧ w' = w)
    (hul : ∀ s, s < 83 → und s ≤ 12)
    (hbel : ∀ s w0 u w, S s w0 u w → Below w0.heap.size w0 w)
    (hdrew : ∀ s w0 u w, S s w0 u w → S s w0 u w.drew)
    (hcell : ∀ i, i < n2 → ∃ ad z, a2 = some ad ∧ w.cell? (ad.add i) = some (.int .i64 z))
    (hdel : ∀ s k w0 u w, S s w0 u w → s < 83 → k < und s → Calls Tryz.prog 11 #[u, .int .i64 k] w fun e w' => e = .returned (.bool true) ∧ ∃ t, t < 83 ∧ mu t < mu s ∧ S t w0 u w')
    (hmu : ∀ s, s < 83 → mu s ≤ 12) (hmu0 : ∀ s, s < 83 → 0 < und s → 0 < mu s)
    (htail : ∀ s w0 u wr (a : Act) (c : Code), c = tailC → S s w0 u wr → s < 83 → und s = 0 → a.tmps.size = 99 → a.defers = [] → a.tmps.getD 0 undef = .int .i64 (n : Int) → a.tmps.getD 7 undef = u →
      c.wp Tryz.prog (bodyPost Tryz.prog Tryz.f3 fun e w' => e = .returned (.bool true) ∧ Below w0.heap.size w0 w') a wr) :
    Calls Tryz.prog 3 #[.int .i64 x, .slice a1 n1 c1, .slice a2 n2 c2] w fun e w' => e = .returned (.bool true) ∧ Below w.heap.size w w' := by
  go_enter Tryz.func3, Tryz.ntmps3
  go_wp2_with (first
    | (go_at_call 4; refine (hknown _).mono ?_; rintro e w' ⟨rfl, hb⟩)
    | (go_at_call 5; refine (hready w _ (by assumption)).mono ?_; rintro e w' ⟨u, rfl, hD⟩)
    | (go_at_call 6; refine (hwithin _ _ _ (by omega) (by omega)).mono ?_; rintro e w' ⟨rfl, rfl⟩))
  have e0 : wrap64 (1 + x % 4) = (n : Int) := w64n (by omega) hx
  go_loopw [8] (fun k wr => ∃ j : Nat, k = .int .i64 j ∧ j ≤ n ∧ D j w u wr) (fun k _ => n - (RowKit.intOf k).toNat)
  case atStart => exact ⟨0, rfl, Nat.zero_le _, hD⟩
  case round =>
    obtain ⟨j, rfl, hj, hDj⟩ := hrel
    by_cases hlt : j < n
    · go_wp2_with (first
        | (go_at_call 7; refine (hedge _ _ _ _ hDj (by omega)).mono ?_; rintro e w' ⟨m, rfl, hE⟩)
        | (go_at_call 8; refine (hdo _ _ _ _ _ hE (by omega)).mono ?_; rintro e w' ⟨rfl, hD'⟩))
      exact ⟨⟨j + 1, by simp, by omega, hD'⟩, by simp [RowKit.intOf]; omega⟩
    · have hjn : j = n := by omega
      rw [hjn] at hDj
      clear hjn
      go_wp2
      clear hready hedge hdo
      go_loopw [9] (fun k wr => ∃ j : Nat, k = .int .i64 j ∧ j ≤ 6 ∧ (j = 0 → D n w u wr) ∧ (0 < j → S (j - 1) w u wr)) (fun k _ => 6 - (RowKit.intOf k).toNat)
      case atStart => exact ⟨0, rfl, by omega, fun _ => hDj, fun h => absurd h (by omega)⟩
      case round =>
        obtain ⟨i, rfl, hi, hi0, hi1⟩ := hrel
        by_cases hl : i ≤ n1 ∧ i < 6
        · obtain ⟨hl1, hl2⟩ := hl
          rcases Nat.eq_zero_or_pos i with h0 | h0
          · subst h0
            have hS := hi0 rfl
            go_wp2_with (go_at_call 9; refine (hsend0 _ _ _ hS).mono ?_; rintro e w' ⟨rfl, hS'⟩)
            exact ⟨⟨1, rfl, by omega, fun h => absurd h (by omega), fun _ => hS'⟩, by simp [RowKit.intOf]⟩
          · have hS := hi1 h0
            go_wp2_with (go_at_call 9; refine (hsend _ _ _ _ hS (by omega)).mono ?_; rintro e w' ⟨rfl, hS'⟩)
            have hS2 : S (i + 1 - 1) w u w' := by rw [show i + 1 - 1 = i - 1 + 1 from by omega]; exact hS'
            exact ⟨⟨i + 1, by simp, by omega, fun h => absurd h (by omega), fun _ => hS2⟩, by simp [RowKit.intOf]; omega⟩
        · have hpos : 0 < i := by omega
          have hS := hi1 hpos
          go_wp2
          all_goals clear hi0 hi1 hsend0 hsend
          all_goals
            go_loopw [10] (fun k wr => ∃ j s : Nat, k = .int .i64 j ∧ j ≤ 20 ∧ s < 83 ∧ S s w u wr) (fun k _ => 20 - (RowKit.intOf k).toNat)
            case atStart => exact ⟨0, i - 1, rfl, by omega, by omega, hS⟩
            case round =>
              clear hS
              obtain ⟨q, s, rfl, hq, hs, hS⟩ := hrel
              have h3 : (q < n2 ∧ q < 20 ∧ 0 < und s) ∨ (q < n2 ∧ q < 20 ∧ ¬ 0 < und s) ∨ ¬ (q < n2 ∧ q < 20) := by omega
              rcases h3 with ⟨hl1, hl2, hu⟩ | h3
              · obtain ⟨ad, z, rfl, hz⟩ := hcell q hl1
                have hbl := hbel _ _ _ _ hS
                have gz := (hbl.cell (Lib.lt_of_cell hz)).trans hz
                have hus := hul s hs
                go_wp2_with (first
                  | (go_at_call 10; refine (hund _ _ _ _ hS hs).mono ?_; rintro e w' ⟨rfl, rfl⟩))
                obtain ⟨k, hk, hku⟩ : ∃ k : Nat, z % (und s : Int) = k ∧ k < und s := ⟨(z % (und s : Int)).toNat, by
                  have := Int.emod_nonneg z (show (und s : Int) ≠ 0 by omega)
                  omega, by
                  have := Int.emod_lt_of_pos z (show (0 : Int) < und s by omega)
                  have := Int.emod_nonneg z (show (und s : Int) ≠ 0 by omega)
                  omega⟩
                have hw6 : ∀ w, Calls Tryz.prog 6 #[.int .i64 z, .int .i64 (und s : Int)] w fun e w' => e = .returned (.int .i64 (k : Int)) ∧ w' = w := fun w => by
                  have := hwithin z (und s) w (by omega) (by omega)
                  rw [hk] at this
                  exact this
                have hSd := hdrew _ _ _ _ hS
                clear hk
                go_region_held3 (fun w' => w'.cell? (ad.add q) = some (.int .i64 z)) (first | assumption | go_keep)
                  (first
                    | (go_at_call 10; refine (hund _ _ _ _ hSd hs).mono ?_; rintro e w' ⟨rfl, rfl⟩)
                    | (go_at_call 6; refine (hw6 _).mono ?_; rintro e w' ⟨rfl, rfl⟩)
                    | (go_at_call 11; refine (hdel _ _ _ _ _ hSd hs hku).mono ?_; rintro e w' ⟨rfl, t, ht, hmt, hS'⟩; have g' := ((hbel _ _ _ _ hS').cell (Lib.lt_of_cell hz)).trans hz))
                all_goals
                  go_wp2
                  exact ⟨⟨q + 1, t, by simp, by omega, ht, hS'⟩, by simp [RowKit.intOf]; omega⟩
              · have hus := hul s hs
                have hms := hmu s hs
                rcases h3 with ⟨hl1, hl2, hu⟩ | hl
                all_goals
                  go_wp2_with (first
                    | (go_at_call 10; refine (hund _ _ _ _ hS hs).mono ?_; rintro e w' ⟨rfl, rfl⟩))
                all_goals
                  clear hwithin
                  go_loopw [11] (fun k wr => ∃ b s : Nat, k = .int .i64 b ∧ s < 83 ∧ mu s + b ≤ 40 ∧ S s w u wr) (fun k _ => 40 - (RowKit.intOf k).toNat)
                  case atStart => exact ⟨0, s, rfl, hs, by omega, hS⟩
                  case round =>
                    clear hS hms hus
                    obtain ⟨b, s2, rfl, hs2, hb2, hS2⟩ := hrel
                    have hus2 := hul s2 hs2
                    by_cases hu2 : 0 < und s2
                    · have hm0 := hmu0 s2 hs2 hu2
                      have hd0 : ∀ w1, S s2 w u w1 → Calls Tryz.prog 11 #[u, .int .i64 0] w1 fun e w' => e = .returned (.bool true) ∧ ∃ t, t < 83 ∧ mu t < mu s2 ∧ S t w u w' := fun w1 h => hdel s2 0 w u w1 h hs2 hu2
                      go_wp2_with (first
                        | (go_at_call 10; refine (hund _ _ _ _ hS2 hs2).mono ?_; rintro e w' ⟨rfl, rfl⟩)
                        | (go_at_call 11; refine (hd0 _ hS2).mono ?_; rintro e w' ⟨rfl, t, ht, hmt, hS3⟩))
                      exact ⟨⟨b + 1, t, by simp, ht, by omega, hS3⟩, by simp [RowKit.intOf]; omega⟩
                    · first
                        | (rename_i hK; replace hK : Shut (∀ (a : Act) (w : World), _ → _) := hK)
                        | (rename_i hK _; replace hK : Shut (∀ (a : Act) (w : World), _ → _) := hK)
                      go_wp2_with (first
                        | (go_at_call 10; refine (hund _ _ _ _ hS2 hs2).mono ?_; rintro e w' ⟨rfl, rfl⟩))
                      all_goals
                        refine hK.out _ _ ?_
                        exact htail s2 w u _ _ _ (by kernel_rfl) hS2 hs2 (by omega) rfl rfl rfl rfl
end
end Go.Proofs.YtaceajadklmddaaGreat
