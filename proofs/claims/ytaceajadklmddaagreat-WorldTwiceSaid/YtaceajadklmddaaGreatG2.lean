/- The law WorldTwice: 2 operations. -/
import Derived.Test.YtaceajadklmddaaGreatWk
import Derived.Test.YtaceajadklmddaaGreatGa
import Derived.Test.YtaceajadklmddaaGreatY3
import Derived.Test.YtaceajadklmddaaGreatY4
import Derived.Test.YtaceajadklmddaaGreatY5
import Derived.Test.YtaceajadklmddaaGreatY6
import Derived.Test.YtaceajadklmddaaGreatY7
import Derived.Test.YtaceajadklmddaaGreatY8
namespace Go.Proofs.YtaceajadklmddaaGreat
open Go Go.Cx Go.RowKit

def und2 : Nat → Nat := fun s => match s with | 0 => 1 | 1 => 2 | 2 => 3 | 3 => 4 | 4 => 5 | 5 => 6 | 6 => 1 | 7 => 2 | 8 => 3 | 9 => 4 | 10 => 5 | 11 => 6 | 12 => 0 | 13 => 2 | 14 => 1 | 15 => 3 | 16 => 2 | 17 => 4 | 18 => 3 | 19 => 5 | 20 => 4 | 21 => 6 | 22 => 5 | 23 => 1 | 24 => 3 | 25 => 2 | 26 => 4 | 27 => 3 | 28 => 5 | 29 => 4 | 30 => 6 | 31 => 5 | 32 => 0 | 33 => 2 | 34 => 1 | 35 => 4 | 36 => 3 | 37 => 2 | 38 => 5 | 39 => 4 | 40 => 3 | 41 => 6 | 42 => 5 | 43 => 4 | 44 => 1 | 45 => 3 | 46 => 2 | 47 => 5 | 48 => 4 | 49 => 3 | 50 => 6 | 51 => 5 | 52 => 4 | 53 => 0 | 54 => 2 | 55 => 1 | 56 => 4 | 57 => 3 | 58 => 2 | 59 => 6 | 60 => 5 | 61 => 4 | 62 => 3 | 63 => 1 | 64 => 3 | 65 => 2 | 66 => 5 | 67 => 4 | 68 => 3 | 69 => 0 | 70 => 2 | 71 => 1 | 72 => 4 | 73 => 3 | 74 => 2 | 75 => 1 | 76 => 3 | 77 => 2 | 78 => 0 | 79 => 2 | 80 => 1 | 81 => 1 | 82 => 0 | _ => 0
def mu2 : Nat → Nat := fun s => match s with | 0 => 2 | 1 => 4 | 2 => 6 | 3 => 8 | 4 => 10 | 5 => 12 | 6 => 1 | 7 => 3 | 8 => 5 | 9 => 7 | 10 => 9 | 11 => 11 | 12 => 0 | 13 => 2 | 14 => 2 | 15 => 4 | 16 => 4 | 17 => 6 | 18 => 6 | 19 => 8 | 20 => 8 | 21 => 10 | 22 => 10 | 23 => 1 | 24 => 3 | 25 => 3 | 26 => 5 | 27 => 5 | 28 => 7 | 29 => 7 | 30 => 9 | 31 => 9 | 32 => 0 | 33 => 2 | 34 => 2 | 35 => 4 | 36 => 4 | 37 => 4 | 38 => 6 | 39 => 6 | 40 => 6 | 41 => 8 | 42 => 8 | 43 => 8 | 44 => 1 | 45 => 3 | 46 => 3 | 47 => 5 | 48 => 5 | 49 => 5 | 50 => 7 | 51 => 7 | 52 => 7 | 53 => 0 | 54 => 2 | 55 => 2 | 56 => 4 | 57 => 4 | 58 => 4 | 59 => 6 | 60 => 6 | 61 => 6 | 62 => 6 | 63 => 1 | 64 => 3 | 65 => 3 | 66 => 5 | 67 => 5 | 68 => 5 | 69 => 0 | 70 => 2 | 71 => 2 | 72 => 4 | 73 => 4 | 74 => 4 | 75 => 1 | 76 => 3 | 77 => 3 | 78 => 0 | 79 => 2 | 80 => 2 | 81 => 1 | 82 => 0 | _ => 0
noncomputable def G2 (s : Nat) (w0 : World) (u : Value) (w : World) : Prop := match s with | 0 => AtV S2_0 w0 [pw] [u] w | 1 => AtV S2_1 w0 [pw] [u] w | 2 => AtV S2_2 w0 [pw] [u] w | 3 => AtV S2_3 w0 [pw] [u] w | 4 => AtV S2_4 w0 [pw] [u] w | 5 => AtV S2_5 w0 [pw] [u] w | 6 => AtV S2_6 w0 [pw] [u] w | 7 => AtV S2_7 w0 [pw] [u] w | 8 => AtV S2_8 w0 [pw] [u] w | 9 => AtV S2_9 w0 [pw] [u] w | 10 => AtV S2_10 w0 [pw] [u] w | 11 => AtV S2_11 w0 [pw] [u] w | 12 => AtV S2_12 w0 [pw] [u] w | 13 => AtV S2_13 w0 [pw] [u] w | 14 => AtV S2_14 w0 [pw] [u] w | 15 => AtV S2_15 w0 [pw] [u] w | 16 => AtV S2_16 w0 [pw] [u] w | 17 => AtV S2_17 w0 [pw] [u] w | 18 => AtV S2_18 w0 [pw] [u] w | 19 => AtV S2_19 w0 [pw] [u] w | 20 => AtV S2_20 w0 [pw] [u] w | 21 => AtV S2_21 w0 [pw] [u] w | 22 => AtV S2_22 w0 [pw] [u] w | 23 => AtV S2_23 w0 [pw] [u] w | 24 => AtV S2_24 w0 [pw] [u] w | 25 => AtV S2_25 w0 [pw] [u] w | 26 => AtV S2_26 w0 [pw] [u] w | 27 => AtV S2_27 w0 [pw] [u] w | 28 => AtV S2_28 w0 [pw] [u] w | 29 => AtV S2_29 w0 [pw] [u] w | 30 => AtV S2_30 w0 [pw] [u] w | 31 => AtV S2_31 w0 [pw] [u] w | 32 => AtV S2_32 w0 [pw] [u] w | 33 => AtV S2_33 w0 [pw] [u] w | 34 => AtV S2_34 w0 [pw] [u] w | 35 => AtV S2_35 w0 [pw] [u] w | 36 => AtV S2_36 w0 [pw] [u] w | 37 => AtV S2_37 w0 [pw] [u] w | 38 => AtV S2_38 w0 [pw] [u] w | 39 => AtV S2_39 w0 [pw] [u] w | 40 => AtV S2_40 w0 [pw] [u] w | 41 => AtV S2_41 w0 [pw] [u] w | 42 => AtV S2_42 w0 [pw] [u] w | 43 => AtV S2_43 w0 [pw] [u] w | 44 => AtV S2_44 w0 [pw] [u] w | 45 => AtV S2_45 w0 [pw] [u] w | 46 => AtV S2_46 w0 [pw] [u] w | 47 => AtV S2_47 w0 [pw] [u] w | 48 => AtV S2_48 w0 [pw] [u] w | 49 => AtV S2_49 w0 [pw] [u] w | 50 => AtV S2_50 w0 [pw] [u] w | 51 => AtV S2_51 w0 [pw] [u] w | 52 => AtV S2_52 w0 [pw] [u] w | 53 => AtV S2_53 w0 [pw] [u] w | 54 => AtV S2_54 w0 [pw] [u] w | 55 => AtV S2_55 w0 [pw] [u] w | 56 => AtV S2_56 w0 [pw] [u] w | 57 => AtV S2_57 w0 [pw] [u] w | 58 => AtV S2_58 w0 [pw] [u] w | 59 => AtV S2_59 w0 [pw] [u] w | 60 => AtV S2_60 w0 [pw] [u] w | 61 => AtV S2_61 w0 [pw] [u] w | 62 => AtV S2_62 w0 [pw] [u] w | 63 => AtV S2_63 w0 [pw] [u] w | 64 => AtV S2_64 w0 [pw] [u] w | 65 => AtV S2_65 w0 [pw] [u] w | 66 => AtV S2_66 w0 [pw] [u] w | 67 => AtV S2_67 w0 [pw] [u] w | 68 => AtV S2_68 w0 [pw] [u] w | 69 => AtV S2_69 w0 [pw] [u] w | 70 => AtV S2_70 w0 [pw] [u] w | 71 => AtV S2_71 w0 [pw] [u] w | 72 => AtV S2_72 w0 [pw] [u] w | 73 => AtV S2_73 w0 [pw] [u] w | 74 => AtV S2_74 w0 [pw] [u] w | 75 => AtV S2_75 w0 [pw] [u] w | 76 => AtV S2_76 w0 [pw] [u] w | 77 => AtV S2_77 w0 [pw] [u] w | 78 => AtV S2_78 w0 [pw] [u] w | 79 => AtV S2_79 w0 [pw] [u] w | 80 => AtV S2_80 w0 [pw] [u] w | 81 => AtV S2_81 w0 [pw] [u] w | 82 => AtV S2_82 w0 [pw] [u] w | _ => False
theorem go2 {x y k : Nat} (t : Nat) (h : dB x k y = true) {m : Nat} {w0 w : World} {u : Value} (hw : AtV x w0 [pw] [u] w) (h1 : t < 83) (h2 : mu2 t < m) (hS : ∀ w', AtV y w0 [pw] [u] w' → G2 t w0 u w') : Calls Tryz.prog 11 #[u, .int .i64 (k : Int)] w fun e w' => e = .returned (.bool true) ∧ ∃ t, t < 83 ∧ mu2 t < m ∧ G2 t w0 u w' := goes (S := G2) (mu := mu2) (K := 83) h hw h1 h2 hS
theorem s2_0 : On G2 mu2 S2_0 1 2 := fun k _ _ _ h hk => match k, hk with
  | 0, _ => go2 6 d2_0_0 h (by decide) (by decide) fun _ h => h
  | k + 1, h => absurd h (by omega)
theorem s2_1 : On G2 mu2 S2_1 2 4 := fun k _ _ _ h hk => match k, hk with
  | 0, _ => go2 7 d2_1_0 h (by decide) (by decide) fun _ h => h
  | 1, _ => go2 7 d2_1_1 h (by decide) (by decide) fun _ h => h
  | k + 2, h => absurd h (by omega)
theorem s2_2 : On G2 mu2 S2_2 3 6 := fun k _ _ _ h hk => match k, hk with
  | 0, _ => go2 8 d2_2_0 h (by decide) (by decide) fun _ h => h
  | 1, _ => go2 8 d2_2_1 h (by decide) (by decide) fun _ h => h
  | 2, _ => go2 8 d2_2_2 h (by decide) (by decide) fun _ h => h
  | k + 3, h => absurd h (by omega)
theorem s2_3 : On G2 mu2 S2_3 4 8 := fun k _ _ _ h hk => match k, hk with
  | 0, _ => go2 9 d2_3_0 h (by decide) (by decide) fun _ h => h
  | 1, _ => go2 9 d2_3_1 h (by decide) (by decide) fun _ h => h
  | 2, _ => go2 9 d2_3_2 h (by decide) (by decide) fun _ h => h
  | 3, _ => go2 9 d2_3_3 h (by decide) (by decide) fun _ h => h
  | k + 4, h => absurd h (by omega)
theorem s2_4 : On G2 mu2 S2_4 5 10 := fun k _ _ _ h hk => match k, hk with
  | 0, _ => go2 10 d2_4_0 h (by decide) (by decide) fun _ h => h
  | 1, _ => go2 10 d2_4_1 h (by decide) (by decide) fun _ h => h
  | 2, _ => go2 10 d2_4_2 h (by decide) (by decide) fun _ h => h
  | 3, _ => go2 10 d2_4_3 h (by decide) (by decide) fun _ h => h
  | 4, _ => go2 10 d2_4_4 h (by decide) (by decide) fun _ h => h
  | k + 5, h => absurd h (by omega)
theorem s2_5 : On G2 mu2 S2_5 6 12 := fun k _ _ _ h hk => match k, hk with
  | 0, _ => go2 11 d2_5_0 h (by decide) (by decide) fun _ h => h
  | 1, _ => go2 11 d2_5_1 h (by decide) (by decide) fun _ h => h
  | 2, _ => go2 11 d2_5_2 h (by decide) (by decide) fun _ h => h
  | 3, _ => go2 11 d2_5_3 h (by decide) (by decide) fun _ h => h
  | 4, _ => go2 11 d2_5_4 h (by decide) (by decide) fun _ h => h
  | 5, _ => go2 11 d2_5_5 h (by decide) (by decide) fun _ h => h
  | k + 6, h => absurd h (by omega)
theorem s2_6 : On G2 mu2 S2_6 1 1 := fun k _ _ _ h hk => match k, hk with
  | 0, _ => go2 12 d2_6_0 h (by decide) (by decide) fun _ h => h
  | k + 1, h => absurd h (by omega)
theorem s2_7 : On G2 mu2 S2_7 2 3 := fun k _ _ _ h hk => match k, hk with
  | 0, _ => go2 13 d2_7_0 h (by decide) (by decide) fun _ h => h
  | 1, _ => go2 14 d2_7_1 h (by decide) (by decide) fun _ h => h
  | k + 2, h => absurd h (by omega)
theorem s2_8 : On G2 mu2 S2_8 3 5 := fun k _ _ _ h hk => match k, hk with
  | 0, _ => go2 15 d2_8_0 h (by decide) (by decide) fun _ h => h
  | 1, _ => go2 15 d2_8_1 h (by decide) (by decide) fun _ h => h
  | 2, _ => go2 16 d2_8_2 h (by decide) (by decide) fun _ h => h
  | k + 3, h => absurd h (by omega)
theorem s2_9 : On G2 mu2 S2_9 4 7 := fun k _ _ _ h hk => match k, hk with
  | 0, _ => go2 17 d2_9_0 h (by decide) (by decide) fun _ h => h
  | 1, _ => go2 17 d2_9_1 h (by decide) (by decide) fun _ h => h
  | 2, _ => go2 17 d2_9_2 h (by decide) (by decide) fun _ h => h
  | 3, _ => go2 18 d2_9_3 h (by decide) (by decide) fun _ h => h
  | k + 4, h => absurd h (by omega)
theorem s2_10 : On G2 mu2 S2_10 5 9 := fun k _ _ _ h hk => match k, hk with
  | 0, _ => go2 19 d2_10_0 h (by decide) (by decide) fun _ h => h
  | 1, _ => go2 19 d2_10_1 h (by decide) (by decide) fun _ h => h
  | 2, _ => go2 19 d2_10_2 h (by decide) (by decide) fun _ h => h
  | 3, _ => go2 19 d2_10_3 h (by decide) (by decide) fun _ h => h
  | 4, _ => go2 20 d2_10_4 h (by decide) (by decide) fun _ h => h
  | k + 5, h => absurd h (by omega)
theorem s2_11 : On G2 mu2 S2_11 6 11 := fun k _ _ _ h hk => match k, hk with
  | 0, _ => go2 21 d2_11_0 h (by decide) (by decide) fun _ h => h
  | 1, _ => go2 21 d2_11_1 h (by decide) (by decide) fun _ h => h
  | 2, _ => go2 21 d2_11_2 h (by decide) (by decide) fun _ h => h
  | 3, _ => go2 21 d2_11_3 h (by decide) (by decide) fun _ h => h
  | 4, _ => go2 21 d2_11_4 h (by decide) (by decide) fun _ h => h
  | 5, _ => go2 22 d2_11_5 h (by decide) (by decide) fun _ h => h
  | k + 6, h => absurd h (by omega)
theorem s2_13 : On G2 mu2 S2_13 2 2 := fun k _ _ _ h hk => match k, hk with
  | 0, _ => go2 23 d2_13_0 h (by decide) (by decide) fun _ h => h
  | 1, _ => go2 23 d2_13_1 h (by decide) (by decide) fun _ h => h
  | k + 2, h => absurd h (by omega)
theorem s2_14 : On G2 mu2 S2_14 1 2 := fun k _ _ _ h hk => match k, hk with
  | 0, _ => go2 23 d2_14_0 h (by decide) (by decide) fun _ h => h
  | k + 1, h => absurd h (by omega)
theorem s2_15 : On G2 mu2 S2_15 3 4 := fun k _ _ _ h hk => match k, hk with
  | 0, _ => go2 24 d2_15_0 h (by decide) (by decide) fun _ h => h
  | 1, _ => go2 25 d2_15_1 h (by decide) (by decide) fun _ h => h
  | 2, _ => go2 25 d2_15_2 h (by decide) (by decide) fun _ h => h
  | k + 3, h => absurd h (by omega)
theorem s2_16 : On G2 mu2 S2_16 2 4 := fun k _ _ _ h hk => match k, hk with
  | 0, _ => go2 25 d2_16_0 h (by decide) (by decide) fun _ h => h
  | 1, _ => go2 25 d2_16_1 h (by decide) (by decide) fun _ h => h
  | k + 2, h => absurd h (by omega)
theorem s2_17 : On G2 mu2 S2_17 4 6 := fun k _ _ _ h hk => match k, hk with
  | 0, _ => go2 26 d2_17_0 h (by decide) (by decide) fun _ h => h
  | 1, _ => go2 26 d2_17_1 h (by decide) (by decide) fun _ h => h
  | 2, _ => go2 27 d2_17_2 h (by decide) (by decide) fun _ h => h
  | 3, _ => go2 27 d2_17_3 h (by decide) (by decide) fun _ h => h
  | k + 4, h => absurd h (by omega)
theorem s2_18 : On G2 mu2 S2_18 3 6 := fun k _ _ _ h hk => match k, hk with
  | 0, _ => go2 27 d2_18_0 h (by decide) (by decide) fun _ h => h
  | 1, _ => go2 27 d2_18_1 h (by decide) (by decide) fun _ h => h
  | 2, _ => go2 27 d2_18_2 h (by decide) (by decide) fun _ h => h
  | k + 3, h => absurd h (by omega)
theorem s2_19 : On G2 mu2 S2_19 5 8 := fun k _ _ _ h hk => match k, hk with
  | 0, _ => go2 28 d2_19_0 h (by decide) (by decide) fun _ h => h
  | 1, _ => go2 28 d2_19_1 h (by decide) (by decide) fun _ h => h
  | 2, _ => go2 28 d2_19_2 h (by decide) (by decide) fun _ h => h
  | 3, _ => go2 29 d2_19_3 h (by decide) (by decide) fun _ h => h
  | 4, _ => go2 29 d2_19_4 h (by decide) (by decide) fun _ h => h
  | k + 5, h => absurd h (by omega)
theorem s2_20 : On G2 mu2 S2_20 4 8 := fun k _ _ _ h hk => match k, hk with
  | 0, _ => go2 29 d2_20_0 h (by decide) (by decide) fun _ h => h
  | 1, _ => go2 29 d2_20_1 h (by decide) (by decide) fun _ h => h
  | 2, _ => go2 29 d2_20_2 h (by decide) (by decide) fun _ h => h
  | 3, _ => go2 29 d2_20_3 h (by decide) (by decide) fun _ h => h
  | k + 4, h => absurd h (by omega)
theorem s2_21 : On G2 mu2 S2_21 6 10 := fun k _ _ _ h hk => match k, hk with
  | 0, _ => go2 30 d2_21_0 h (by decide) (by decide) fun _ h => h
  | 1, _ => go2 30 d2_21_1 h (by decide) (by decide) fun _ h => h
  | 2, _ => go2 30 d2_21_2 h (by decide) (by decide) fun _ h => h
  | 3, _ => go2 30 d2_21_3 h (by decide) (by decide) fun _ h => h
  | 4, _ => go2 31 d2_21_4 h (by decide) (by decide) fun _ h => h
  | 5, _ => go2 31 d2_21_5 h (by decide) (by decide) fun _ h => h
  | k + 6, h => absurd h (by omega)
theorem s2_22 : On G2 mu2 S2_22 5 10 := fun k _ _ _ h hk => match k, hk with
  | 0, _ => go2 31 d2_22_0 h (by decide) (by decide) fun _ h => h
  | 1, _ => go2 31 d2_22_1 h (by decide) (by decide) fun _ h => h
  | 2, _ => go2 31 d2_22_2 h (by decide) (by decide) fun _ h => h
  | 3, _ => go2 31 d2_22_3 h (by decide) (by decide) fun _ h => h
  | 4, _ => go2 31 d2_22_4 h (by decide) (by decide) fun _ h => h
  | k + 5, h => absurd h (by omega)
theorem s2_23 : On G2 mu2 S2_23 1 1 := fun k _ _ _ h hk => match k, hk with
  | 0, _ => go2 32 d2_23_0 h (by decide) (by decide) fun _ h => h
  | k + 1, h => absurd h (by omega)
theorem s2_24 : On G2 mu2 S2_24 3 3 := fun k _ _ _ h hk => match k, hk with
  | 0, _ => go2 33 d2_24_0 h (by decide) (by decide) fun _ h => h
  | 1, _ => go2 33 d2_24_1 h (by decide) (by decide) fun _ h => h
  | 2, _ => go2 33 d2_24_2 h (by decide) (by decide) fun _ h => h
  | k + 3, h => absurd h (by omega)
theorem s2_25 : On G2 mu2 S2_25 2 3 := fun k _ _ _ h hk => match k, hk with
  | 0, _ => go2 33 d2_25_0 h (by decide) (by decide) fun _ h => h
  | 1, _ => go2 34 d2_25_1 h (by decide) (by decide) fun _ h => h
  | k + 2, h => absurd h (by omega)
theorem s2_26 : On G2 mu2 S2_26 4 5 := fun k _ _ _ h hk => match k, hk with
  | 0, _ => go2 35 d2_26_0 h (by decide) (by decide) fun _ h => h
  | 1, _ => go2 36 d2_26_1 h (by decide) (by decide) fun _ h => h
  | 2, _ => go2 36 d2_26_2 h (by decide) (by decide) fun _ h => h
  | 3, _ => go2 36 d2_26_3 h (by decide) (by decide) fun _ h => h
  | k + 4, h => absurd h (by omega)
theorem s2_27 : On G2 mu2 S2_27 3 5 := fun k _ _ _ h hk => match k, hk with
  | 0, _ => go2 36 d2_27_0 h (by decide) (by decide) fun _ h => h
  | 1, _ => go2 36 d2_27_1 h (by decide) (by decide) fun _ h => h
  | 2, _ => go2 37 d2_27_2 h (by decide) (by decide) fun _ h => h
  | k + 3, h => absurd h (by omega)
theorem s2_28 : On G2 mu2 S2_28 5 7 := fun k _ _ _ h hk => match k, hk with
  | 0, _ => go2 38 d2_28_0 h (by decide) (by decide) fun _ h => h
  | 1, _ => go2 38 d2_28_1 h (by decide) (by decide) fun _ h => h
  | 2, _ => go2 39 d2_28_2 h (by decide) (by decide) fun _ h => h
  | 3, _ => go2 39 d2_28_3 h (by decide) (by decide) fun _ h => h
  | 4, _ => go2 39 d2_28_4 h (by decide) (by decide) fun _ h => h
  | k + 5, h => absurd h (by omega)
theorem s2_29 : On G2 mu2 S2_29 4 7 := fun k _ _ _ h hk => match k, hk with
  | 0, _ => go2 39 d2_29_0 h (by decide) (by decide) fun _ h => h
  | 1, _ => go2 39 d2_29_1 h (by decide) (by decide) fun _ h => h
  | 2, _ => go2 39 d2_29_2 h (by decide) (by decide) fun _ h => h
  | 3, _ => go2 40 d2_29_3 h (by decide) (by decide) fun _ h => h
  | k + 4, h => absurd h (by omega)
theorem s2_30 : On G2 mu2 S2_30 6 9 := fun k _ _ _ h hk => match k, hk with
  | 0, _ => go2 41 d2_30_0 h (by decide) (by decide) fun _ h => h
  | 1, _ => go2 41 d2_30_1 h (by decide) (by decide) fun _ h => h
  | 2, _ => go2 41 d2_30_2 h (by decide) (by decide) fun _ h => h
  | 3, _ => go2 42 d2_30_3 h (by decide) (by decide) fun _ h => h
  | 4, _ => go2 42 d2_30_4 h (by decide) (by decide) fun _ h => h
  | 5, _ => go2 42 d2_30_5 h (by decide) (by decide) fun _ h => h
  | k + 6, h => absurd h (by omega)
theorem s2_31 : On G2 mu2 S2_31 5 9 := fun k _ _ _ h hk => match k, hk with
  | 0, _ => go2 42 d2_31_0 h (by decide) (by decide) fun _ h => h
  | 1, _ => go2 42 d2_31_1 h (by decide) (by decide) fun _ h => h
  | 2, _ => go2 42 d2_31_2 h (by decide) (by decide) fun _ h => h
  | 3, _ => go2 42 d2_31_3 h (by decide) (by decide) fun _ h => h
  | 4, _ => go2 43 d2_31_4 h (by decide) (by decide) fun _ h => h
  | k + 5, h => absurd h (by omega)
theorem s2_33 : On G2 mu2 S2_33 2 2 := fun k _ _ _ h hk => match k, hk with
  | 0, _ => go2 44 d2_33_0 h (by decide) (by decide) fun _ h => h
  | 1, _ => go2 44 d2_33_1 h (by decide) (by decide) fun _ h => h
  | k + 2, h => absurd h (by omega)
theorem s2_34 : On G2 mu2 S2_34 1 2 := fun k _ _ _ h hk => match k, hk with
  | 0, _ => go2 44 d2_34_0 h (by decide) (by decide) fun _ h => h
  | k + 1, h => absurd h (by omega)
theorem s2_35 : On G2 mu2 S2_35 4 4 := fun k _ _ _ h hk => match k, hk with
  | 0, _ => go2 45 d2_35_0 h (by decide) (by decide) fun _ h => h
  | 1, _ => go2 45 d2_35_1 h (by decide) (by decide) fun _ h => h
  | 2, _ => go2 45 d2_35_2 h (by decide) (by decide) fun _ h => h
  | 3, _ => go2 45 d2_35_3 h (by decide) (by decide) fun _ h => h
  | k + 4, h => absurd h (by omega)
theorem s2_36 : On G2 mu2 S2_36 3 4 := fun k _ _ _ h hk => match k, hk with
  | 0, _ => go2 45 d2_36_0 h (by decide) (by decide) fun _ h => h
  | 1, _ => go2 46 d2_36_1 h (by decide) (by decide) fun _ h => h
  | 2, _ => go2 46 d2_36_2 h (by decide) (by decide) fun _ h => h
  | k + 3, h => absurd h (by omega)
theorem s2_37 : On G2 mu2 S2_37 2 4 := fun k _ _ _ h hk => match k, hk with
  | 0, _ => go2 46 d2_37_0 h (by decide) (by decide) fun _ h => h
  | 1, _ => go2 46 d2_37_1 h (by decide) (by decide) fun _ h => h
  | k + 2, h => absurd h (by omega)
theorem s2_38 : On G2 mu2 S2_38 5 6 := fun k _ _ _ h hk => match k, hk with
  | 0, _ => go2 47 d2_38_0 h (by decide) (by decide) fun _ h => h
  | 1, _ => go2 48 d2_38_1 h (by decide) (by decide) fun _ h => h
  | 2, _ => go2 48 d2_38_2 h (by decide) (by decide) fun _ h => h
  | 3, _ => go2 48 d2_38_3 h (by decide) (by decide) fun _ h => h
  | 4, _ => go2 48 d2_38_4 h (by decide) (by decide) fun _ h => h
  | k + 5, h => absurd h (by omega)
theorem s2_39 : On G2 mu2 S2_39 4 6 := fun k _ _ _ h hk => match k, hk with
  | 0, _ => go2 48 d2_39_0 h (by decide) (by decide) fun _ h => h
  | 1, _ => go2 48 d2_39_1 h (by decide) (by decide) fun _ h => h
  | 2, _ => go2 49 d2_39_2 h (by decide) (by decide) fun _ h => h
  | 3, _ => go2 49 d2_39_3 h (by decide) (by decide) fun _ h => h
  | k + 4, h => absurd h (by omega)
theorem s2_40 : On G2 mu2 S2_40 3 6 := fun k _ _ _ h hk => match k, hk with
  | 0, _ => go2 49 d2_40_0 h (by decide) (by decide) fun _ h => h
  | 1, _ => go2 49 d2_40_1 h (by decide) (by decide) fun _ h => h
  | 2, _ => go2 49 d2_40_2 h (by decide) (by decide) fun _ h => h
  | k + 3, h => absurd h (by omega)
theorem s2_41 : On G2 mu2 S2_41 6 8 := fun k _ _ _ h hk => match k, hk with
  | 0, _ => go2 50 d2_41_0 h (by decide) (by decide) fun _ h => h
  | 1, _ => go2 50 d2_41_1 h (by decide) (by decide) fun _ h => h
  | 2, _ => go2 51 d2_41_2 h (by decide) (by decide) fun _ h => h
  | 3, _ => go2 51 d2_41_3 h (by decide) (by decide) fun _ h => h
  | 4, _ => go2 51 d2_41_4 h (by decide) (by decide) fun _ h => h
  | 5, _ => go2 51 d2_41_5 h (by decide) (by decide) fun _ h => h
  | k + 6, h => absurd h (by omega)
theorem s2_42 : On G2 mu2 S2_42 5 8 := fun k _ _ _ h hk => match k, hk with
  | 0, _ => go2 51 d2_42_0 h (by decide) (by decide) fun _ h => h
  | 1, _ => go2 51 d2_42_1 h (by decide) (by decide) fun _ h => h
  | 2, _ => go2 51 d2_42_2 h (by decide) (by decide) fun _ h => h
  | 3, _ => go2 52 d2_42_3 h (by decide) (by decide) fun _ h => h
  | 4, _ => go2 52 d2_42_4 h (by decide) (by decide) fun _ h => h
  | k + 5, h => absurd h (by omega)
theorem s2_43 : On G2 mu2 S2_43 4 8 := fun k _ _ _ h hk => match k, hk with
  | 0, _ => go2 52 d2_43_0 h (by decide) (by decide) fun _ h => h
  | 1, _ => go2 52 d2_43_1 h (by decide) (by decide) fun _ h => h
  | 2, _ => go2 52 d2_43_2 h (by decide) (by decide) fun _ h => h
  | 3, _ => go2 52 d2_43_3 h (by decide) (by decide) fun _ h => h
  | k + 4, h => absurd h (by omega)
theorem s2_44 : On G2 mu2 S2_44 1 1 := fun k _ _ _ h hk => match k, hk with
  | 0, _ => go2 53 d2_44_0 h (by decide) (by decide) fun _ h => h
  | k + 1, h => absurd h (by omega)
theorem s2_45 : On G2 mu2 S2_45 3 3 := fun k _ _ _ h hk => match k, hk with
  | 0, _ => go2 54 d2_45_0 h (by decide) (by decide) fun _ h => h
  | 1, _ => go2 54 d2_45_1 h (by decide) (by decide) fun _ h => h
  | 2, _ => go2 54 d2_45_2 h (by decide) (by decide) fun _ h => h
  | k + 3, h => absurd h (by omega)
theorem s2_46 : On G2 mu2 S2_46 2 3 := fun k _ _ _ h hk => match k, hk with
  | 0, _ => go2 54 d2_46_0 h (by decide) (by decide) fun _ h => h
  | 1, _ => go2 55 d2_46_1 h (by decide) (by decide) fun _ h => h
  | k + 2, h => absurd h (by omega)
theorem s2_47 : On G2 mu2 S2_47 5 5 := fun k _ _ _ h hk => match k, hk with
  | 0, _ => go2 56 d2_47_0 h (by decide) (by decide) fun _ h => h
  | 1, _ => go2 56 d2_47_1 h (by decide) (by decide) fun _ h => h
  | 2, _ => go2 56 d2_47_2 h (by decide) (by decide) fun _ h => h
  | 3, _ => go2 56 d2_47_3 h (by decide) (by decide) fun _ h => h
  | 4, _ => go2 56 d2_47_4 h (by decide) (by decide) fun _ h => h
  | k + 5, h => absurd h (by omega)
theorem s2_48 : On G2 mu2 S2_48 4 5 := fun k _ _ _ h hk => match k, hk with
  | 0, _ => go2 56 d2_48_0 h (by decide) (by decide) fun _ h => h
  | 1, _ => go2 57 d2_48_1 h (by decide) (by decide) fun _ h => h
  | 2, _ => go2 57 d2_48_2 h (by decide) (by decide) fun _ h => h
  | 3, _ => go2 57 d2_48_3 h (by decide) (by decide) fun _ h => h
  | k + 4, h => absurd h (by omega)
theorem s2_49 : On G2 mu2 S2_49 3 5 := fun k _ _ _ h hk => match k, hk with
  | 0, _ => go2 57 d2_49_0 h (by decide) (by decide) fun _ h => h
  | 1, _ => go2 57 d2_49_1 h (by decide) (by decide) fun _ h => h
  | 2, _ => go2 58 d2_49_2 h (by decide) (by decide) fun _ h => h
  | k + 3, h => absurd h (by omega)
theorem s2_50 : On G2 mu2 S2_50 6 7 := fun k _ _ _ h hk => match k, hk with
  | 0, _ => go2 59 d2_50_0 h (by decide) (by decide) fun _ h => h
  | 1, _ => go2 60 d2_50_1 h (by decide) (by decide) fun _ h => h
  | 2, _ => go2 60 d2_50_2 h (by decide) (by decide) fun _ h => h
  | 3, _ => go2 60 d2_50_3 h (by decide) (by decide) fun _ h => h
  | 4, _ => go2 60 d2_50_4 h (by decide) (by decide) fun _ h => h
  | 5, _ => go2 60 d2_50_5 h (by decide) (by decide) fun _ h => h
  | k + 6, h => absurd h (by omega)
theorem s2_51 : On G2 mu2 S2_51 5 7 := fun k _ _ _ h hk => match k, hk with
  | 0, _ => go2 60 d2_51_0 h (by decide) (by decide) fun _ h => h
  | 1, _ => go2 60 d2_51_1 h (by decide) (by decide) fun _ h => h
  | 2, _ => go2 61 d2_51_2 h (by decide) (by decide) fun _ h => h
  | 3, _ => go2 61 d2_51_3 h (by decide) (by decide) fun _ h => h
  | 4, _ => go2 61 d2_51_4 h (by decide) (by decide) fun _ h => h
  | k + 5, h => absurd h (by omega)
theorem s2_52 : On G2 mu2 S2_52 4 7 := fun k _ _ _ h hk => match k, hk with
  | 0, _ => go2 61 d2_52_0 h (by decide) (by decide) fun _ h => h
  | 1, _ => go2 61 d2_52_1 h (by decide) (by decide) fun _ h => h
  | 2, _ => go2 61 d2_52_2 h (by decide) (by decide) fun _ h => h
  | 3, _ => go2 62 d2_52_3 h (by decide) (by decide) fun _ h => h
  | k + 4, h => absurd h (by omega)
theorem s2_54 : On G2 mu2 S2_54 2 2 := fun k _ _ _ h hk => match k, hk with
  | 0, _ => go2 63 d2_54_0 h (by decide) (by decide) fun _ h => h
  | 1, _ => go2 63 d2_54_1 h (by decide) (by decide) fun _ h => h
  | k + 2, h => absurd h (by omega)
theorem s2_55 : On G2 mu2 S2_55 1 2 := fun k _ _ _ h hk => match k, hk with
  | 0, _ => go2 63 d2_55_0 h (by decide) (by decide) fun _ h => h
  | k + 1, h => absurd h (by omega)
theorem s2_56 : On G2 mu2 S2_56 4 4 := fun k _ _ _ h hk => match k, hk with
  | 0, _ => go2 64 d2_56_0 h (by decide) (by decide) fun _ h => h
  | 1, _ => go2 64 d2_56_1 h (by decide) (by decide) fun _ h => h
  | 2, _ => go2 64 d2_56_2 h (by decide) (by decide) fun _ h => h
  | 3, _ => go2 64 d2_56_3 h (by decide) (by decide) fun _ h => h
  | k + 4, h => absurd h (by omega)
theorem s2_57 : On G2 mu2 S2_57 3 4 := fun k _ _ _ h hk => match k, hk with
  | 0, _ => go2 64 d2_57_0 h (by decide) (by decide) fun _ h => h
  | 1, _ => go2 65 d2_57_1 h (by decide) (by decide) fun _ h => h
  | 2, _ => go2 65 d2_57_2 h (by decide) (by decide) fun _ h => h
  | k + 3, h => absurd h (by omega)
theorem s2_58 : On G2 mu2 S2_58 2 4 := fun k _ _ _ h hk => match k, hk with
  | 0, _ => go2 65 d2_58_0 h (by decide) (by decide) fun _ h => h
  | 1, _ => go2 65 d2_58_1 h (by decide) (by decide) fun _ h => h
  | k + 2, h => absurd h (by omega)
theorem s2_59 : On G2 mu2 S2_59 6 6 := fun k _ _ _ h hk => match k, hk with
  | 0, _ => go2 66 d2_59_0 h (by decide) (by decide) fun _ h => h
  | 1, _ => go2 66 d2_59_1 h (by decide) (by decide) fun _ h => h
  | 2, _ => go2 66 d2_59_2 h (by decide) (by decide) fun _ h => h
  | 3, _ => go2 66 d2_59_3 h (by decide) (by decide) fun _ h => h
  | 4, _ => go2 66 d2_59_4 h (by decide) (by decide) fun _ h => h
  | 5, _ => go2 66 d2_59_5 h (by decide) (by decide) fun _ h => h
  | k + 6, h => absurd h (by omega)
theorem s2_60 : On G2 mu2 S2_60 5 6 := fun k _ _ _ h hk => match k, hk with
  | 0, _ => go2 66 d2_60_0 h (by decide) (by decide) fun _ h => h
  | 1, _ => go2 67 d2_60_1 h (by decide) (by decide) fun _ h => h
  | 2, _ => go2 67 d2_60_2 h (by decide) (by decide) fun _ h => h
  | 3, _ => go2 67 d2_60_3 h (by decide) (by decide) fun _ h => h
  | 4, _ => go2 67 d2_60_4 h (by decide) (by decide) fun _ h => h
  | k + 5, h => absurd h (by omega)
theorem s2_61 : On G2 mu2 S2_61 4 6 := fun k _ _ _ h hk => match k, hk with
  | 0, _ => go2 67 d2_61_0 h (by decide) (by decide) fun _ h => h
  | 1, _ => go2 67 d2_61_1 h (by decide) (by decide) fun _ h => h
  | 2, _ => go2 68 d2_61_2 h (by decide) (by decide) fun _ h => h
  | 3, _ => go2 68 d2_61_3 h (by decide) (by decide) fun _ h => h
  | k + 4, h => absurd h (by omega)
theorem s2_62 : On G2 mu2 S2_62 3 6 := fun k _ _ _ h hk => match k, hk with
  | 0, _ => go2 68 d2_62_0 h (by decide) (by decide) fun _ h => h
  | 1, _ => go2 68 d2_62_1 h (by decide) (by decide) fun _ h => h
  | 2, _ => go2 68 d2_62_2 h (by decide) (by decide) fun _ h => h
  | k + 3, h => absurd h (by omega)
theorem s2_63 : On G2 mu2 S2_63 1 1 := fun k _ _ _ h hk => match k, hk with
  | 0, _ => go2 69 d2_63_0 h (by decide) (by decide) fun _ h => h
  | k + 1, h => absurd h (by omega)
theorem s2_64 : On G2 mu2 S2_64 3 3 := fun k _ _ _ h hk => match k, hk with
  | 0, _ => go2 70 d2_64_0 h (by decide) (by decide) fun _ h => h
  | 1, _ => go2 70 d2_64_1 h (by decide) (by decide) fun _ h => h
  | 2, _ => go2 70 d2_64_2 h (by decide) (by decide) fun _ h => h
  | k + 3, h => absurd h (by omega)
theorem s2_65 : On G2 mu2 S2_65 2 3 := fun k _ _ _ h hk => match k, hk with
  | 0, _ => go2 70 d2_65_0 h (by decide) (by decide) fun _ h => h
  | 1, _ => go2 71 d2_65_1 h (by decide) (by decide) fun _ h => h
  | k + 2, h => absurd h (by omega)
theorem s2_66 : On G2 mu2 S2_66 5 5 := fun k _ _ _ h hk => match k, hk with
  | 0, _ => go2 72 d2_66_0 h (by decide) (by decide) fun _ h => h
  | 1, _ => go2 72 d2_66_1 h (by decide) (by decide) fun _ h => h
  | 2, _ => go2 72 d2_66_2 h (by decide) (by decide) fun _ h => h
  | 3, _ => go2 72 d2_66_3 h (by decide) (by decide) fun _ h => h
  | 4, _ => go2 72 d2_66_4 h (by decide) (by decide) fun _ h => h
  | k + 5, h => absurd h (by omega)
theorem s2_67 : On G2 mu2 S2_67 4 5 := fun k _ _ _ h hk => match k, hk with
  | 0, _ => go2 72 d2_67_0 h (by decide) (by decide) fun _ h => h
  | 1, _ => go2 73 d2_67_1 h (by decide) (by decide) fun _ h => h
  | 2, _ => go2 73 d2_67_2 h (by decide) (by decide) fun _ h => h
  | 3, _ => go2 73 d2_67_3 h (by decide) (by decide) fun _ h => h
  | k + 4, h => absurd h (by omega)
theorem s2_68 : On G2 mu2 S2_68 3 5 := fun k _ _ _ h hk => match k, hk with
  | 0, _ => go2 73 d2_68_0 h (by decide) (by decide) fun _ h => h
  | 1, _ => go2 73 d2_68_1 h (by decide) (by decide) fun _ h => h
  | 2, _ => go2 74 d2_68_2 h (by decide) (by decide) fun _ h => h
  | k + 3, h => absurd h (by omega)
theorem s2_70 : On G2 mu2 S2_70 2 2 := fun k _ _ _ h hk => match k, hk with
  | 0, _ => go2 75 d2_70_0 h (by decide) (by decide) fun _ h => h
  | 1, _ => go2 75 d2_70_1 h (by decide) (by decide) fun _ h => h
  | k + 2, h => absurd h (by omega)
theorem s2_71 : On G2 mu2 S2_71 1 2 := fun k _ _ _ h hk => match k, hk with
  | 0, _ => go2 75 d2_71_0 h (by decide) (by decide) fun _ h => h
  | k + 1, h => absurd h (by omega)
theorem s2_72 : On G2 mu2 S2_72 4 4 := fun k _ _ _ h hk => match k, hk with
  | 0, _ => go2 76 d2_72_0 h (by decide) (by decide) fun _ h => h
  | 1, _ => go2 76 d2_72_1 h (by decide) (by decide) fun _ h => h
  | 2, _ => go2 76 d2_72_2 h (by decide) (by decide) fun _ h => h
  | 3, _ => go2 76 d2_72_3 h (by decide) (by decide) fun _ h => h
  | k + 4, h => absurd h (by omega)
theorem s2_73 : On G2 mu2 S2_73 3 4 := fun k _ _ _ h hk => match k, hk with
  | 0, _ => go2 76 d2_73_0 h (by decide) (by decide) fun _ h => h
  | 1, _ => go2 77 d2_73_1 h (by decide) (by decide) fun _ h => h
  | 2, _ => go2 77 d2_73_2 h (by decide) (by decide) fun _ h => h
  | k + 3, h => absurd h (by omega)
theorem s2_74 : On G2 mu2 S2_74 2 4 := fun k _ _ _ h hk => match k, hk with
  | 0, _ => go2 77 d2_74_0 h (by decide) (by decide) fun _ h => h
  | 1, _ => go2 77 d2_74_1 h (by decide) (by decide) fun _ h => h
  | k + 2, h => absurd h (by omega)
theorem s2_75 : On G2 mu2 S2_75 1 1 := fun k _ _ _ h hk => match k, hk with
  | 0, _ => go2 78 d2_75_0 h (by decide) (by decide) fun _ h => h
  | k + 1, h => absurd h (by omega)
theorem s2_76 : On G2 mu2 S2_76 3 3 := fun k _ _ _ h hk => match k, hk with
  | 0, _ => go2 79 d2_76_0 h (by decide) (by decide) fun _ h => h
  | 1, _ => go2 79 d2_76_1 h (by decide) (by decide) fun _ h => h
  | 2, _ => go2 79 d2_76_2 h (by decide) (by decide) fun _ h => h
  | k + 3, h => absurd h (by omega)
theorem s2_77 : On G2 mu2 S2_77 2 3 := fun k _ _ _ h hk => match k, hk with
  | 0, _ => go2 79 d2_77_0 h (by decide) (by decide) fun _ h => h
  | 1, _ => go2 80 d2_77_1 h (by decide) (by decide) fun _ h => h
  | k + 2, h => absurd h (by omega)
theorem s2_79 : On G2 mu2 S2_79 2 2 := fun k _ _ _ h hk => match k, hk with
  | 0, _ => go2 81 d2_79_0 h (by decide) (by decide) fun _ h => h
  | 1, _ => go2 81 d2_79_1 h (by decide) (by decide) fun _ h => h
  | k + 2, h => absurd h (by omega)
theorem s2_80 : On G2 mu2 S2_80 1 2 := fun k _ _ _ h hk => match k, hk with
  | 0, _ => go2 81 d2_80_0 h (by decide) (by decide) fun _ h => h
  | k + 1, h => absurd h (by omega)
theorem s2_81 : On G2 mu2 S2_81 1 1 := fun k _ _ _ h hk => match k, hk with
  | 0, _ => go2 82 d2_81_0 h (by decide) (by decide) fun _ h => h
  | k + 1, h => absurd h (by omega)
theorem step2 (s k : Nat) (w0 : World) (u : Value) (w : World) (h : G2 s w0 u w) (hs : s < 83) (hk : k < und2 s) : Calls Tryz.prog 11 #[u, .int .i64 (k : Int)] w fun e w' => e = .returned (.bool true) ∧ ∃ t, t < 83 ∧ mu2 t < mu2 s ∧ G2 t w0 u w' := match s, hs, h, hk with
  | 0, _, h, hk => s2_0 k w0 u w h hk
  | 1, _, h, hk => s2_1 k w0 u w h hk
  | 2, _, h, hk => s2_2 k w0 u w h hk
  | 3, _, h, hk => s2_3 k w0 u w h hk
  | 4, _, h, hk => s2_4 k w0 u w h hk
  | 5, _, h, hk => s2_5 k w0 u w h hk
  | 6, _, h, hk => s2_6 k w0 u w h hk
  | 7, _, h, hk => s2_7 k w0 u w h hk
  | 8, _, h, hk => s2_8 k w0 u w h hk
  | 9, _, h, hk => s2_9 k w0 u w h hk
  | 10, _, h, hk => s2_10 k w0 u w h hk
  | 11, _, h, hk => s2_11 k w0 u w h hk
  | 12, _, h, hk => absurd hk (Nat.not_lt_zero k)
  | 13, _, h, hk => s2_13 k w0 u w h hk
  | 14, _, h, hk => s2_14 k w0 u w h hk
  | 15, _, h, hk => s2_15 k w0 u w h hk
  | 16, _, h, hk => s2_16 k w0 u w h hk
  | 17, _, h, hk => s2_17 k w0 u w h hk
  | 18, _, h, hk => s2_18 k w0 u w h hk
  | 19, _, h, hk => s2_19 k w0 u w h hk
  | 20, _, h, hk => s2_20 k w0 u w h hk
  | 21, _, h, hk => s2_21 k w0 u w h hk
  | 22, _, h, hk => s2_22 k w0 u w h hk
  | 23, _, h, hk => s2_23 k w0 u w h hk
  | 24, _, h, hk => s2_24 k w0 u w h hk
  | 25, _, h, hk => s2_25 k w0 u w h hk
  | 26, _, h, hk => s2_26 k w0 u w h hk
  | 27, _, h, hk => s2_27 k w0 u w h hk
  | 28, _, h, hk => s2_28 k w0 u w h hk
  | 29, _, h, hk => s2_29 k w0 u w h hk
  | 30, _, h, hk => s2_30 k w0 u w h hk
  | 31, _, h, hk => s2_31 k w0 u w h hk
  | 32, _, h, hk => absurd hk (Nat.not_lt_zero k)
  | 33, _, h, hk => s2_33 k w0 u w h hk
  | 34, _, h, hk => s2_34 k w0 u w h hk
  | 35, _, h, hk => s2_35 k w0 u w h hk
  | 36, _, h, hk => s2_36 k w0 u w h hk
  | 37, _, h, hk => s2_37 k w0 u w h hk
  | 38, _, h, hk => s2_38 k w0 u w h hk
  | 39, _, h, hk => s2_39 k w0 u w h hk
  | 40, _, h, hk => s2_40 k w0 u w h hk
  | 41, _, h, hk => s2_41 k w0 u w h hk
  | 42, _, h, hk => s2_42 k w0 u w h hk
  | 43, _, h, hk => s2_43 k w0 u w h hk
  | 44, _, h, hk => s2_44 k w0 u w h hk
  | 45, _, h, hk => s2_45 k w0 u w h hk
  | 46, _, h, hk => s2_46 k w0 u w h hk
  | 47, _, h, hk => s2_47 k w0 u w h hk
  | 48, _, h, hk => s2_48 k w0 u w h hk
  | 49, _, h, hk => s2_49 k w0 u w h hk
  | 50, _, h, hk => s2_50 k w0 u w h hk
  | 51, _, h, hk => s2_51 k w0 u w h hk
  | 52, _, h, hk => s2_52 k w0 u w h hk
  | 53, _, h, hk => absurd hk (Nat.not_lt_zero k)
  | 54, _, h, hk => s2_54 k w0 u w h hk
  | 55, _, h, hk => s2_55 k w0 u w h hk
  | 56, _, h, hk => s2_56 k w0 u w h hk
  | 57, _, h, hk => s2_57 k w0 u w h hk
  | 58, _, h, hk => s2_58 k w0 u w h hk
  | 59, _, h, hk => s2_59 k w0 u w h hk
  | 60, _, h, hk => s2_60 k w0 u w h hk
  | 61, _, h, hk => s2_61 k w0 u w h hk
  | 62, _, h, hk => s2_62 k w0 u w h hk
  | 63, _, h, hk => s2_63 k w0 u w h hk
  | 64, _, h, hk => s2_64 k w0 u w h hk
  | 65, _, h, hk => s2_65 k w0 u w h hk
  | 66, _, h, hk => s2_66 k w0 u w h hk
  | 67, _, h, hk => s2_67 k w0 u w h hk
  | 68, _, h, hk => s2_68 k w0 u w h hk
  | 69, _, h, hk => absurd hk (Nat.not_lt_zero k)
  | 70, _, h, hk => s2_70 k w0 u w h hk
  | 71, _, h, hk => s2_71 k w0 u w h hk
  | 72, _, h, hk => s2_72 k w0 u w h hk
  | 73, _, h, hk => s2_73 k w0 u w h hk
  | 74, _, h, hk => s2_74 k w0 u w h hk
  | 75, _, h, hk => s2_75 k w0 u w h hk
  | 76, _, h, hk => s2_76 k w0 u w h hk
  | 77, _, h, hk => s2_77 k w0 u w h hk
  | 78, _, h, hk => absurd hk (Nat.not_lt_zero k)
  | 79, _, h, hk => s2_79 k w0 u w h hk
  | 80, _, h, hk => s2_80 k w0 u w h hk
  | 81, _, h, hk => s2_81 k w0 u w h hk
  | 82, _, h, hk => absurd hk (Nat.not_lt_zero k)
  | s + 83, h, _, _ => absurd h (by omega)
theorem un2 (s : Nat) (w0 : World) (u : Value) (w : World) (h : G2 s w0 u w) (hs : s < 83) : Calls Tryz.prog 10 #[u] w fun e w' => e = .returned (.int .i64 (und2 s : Int)) ∧ w' = w := match s, hs, h with
  | 0, _, h => under_calls u2_0 h
  | 1, _, h => under_calls u2_1 h
  | 2, _, h => under_calls u2_2 h
  | 3, _, h => under_calls u2_3 h
  | 4, _, h => under_calls u2_4 h
  | 5, _, h => under_calls u2_5 h
  | 6, _, h => under_calls u2_6 h
  | 7, _, h => under_calls u2_7 h
  | 8, _, h => under_calls u2_8 h
  | 9, _, h => under_calls u2_9 h
  | 10, _, h => under_calls u2_10 h
  | 11, _, h => under_calls u2_11 h
  | 12, _, h => under_calls u2_12 h
  | 13, _, h => under_calls u2_13 h
  | 14, _, h => under_calls u2_14 h
  | 15, _, h => under_calls u2_15 h
  | 16, _, h => under_calls u2_16 h
  | 17, _, h => under_calls u2_17 h
  | 18, _, h => under_calls u2_18 h
  | 19, _, h => under_calls u2_19 h
  | 20, _, h => under_calls u2_20 h
  | 21, _, h => under_calls u2_21 h
  | 22, _, h => under_calls u2_22 h
  | 23, _, h => under_calls u2_23 h
  | 24, _, h => under_calls u2_24 h
  | 25, _, h => under_calls u2_25 h
  | 26, _, h => under_calls u2_26 h
  | 27, _, h => under_calls u2_27 h
  | 28, _, h => under_calls u2_28 h
  | 29, _, h => under_calls u2_29 h
  | 30, _, h => under_calls u2_30 h
  | 31, _, h => under_calls u2_31 h
  | 32, _, h => under_calls u2_32 h
  | 33, _, h => under_calls u2_33 h
  | 34, _, h => under_calls u2_34 h
  | 35, _, h => under_calls u2_35 h
  | 36, _, h => under_calls u2_36 h
  | 37, _, h => under_calls u2_37 h
  | 38, _, h => under_calls u2_38 h
  | 39, _, h => under_calls u2_39 h
  | 40, _, h => under_calls u2_40 h
  | 41, _, h => under_calls u2_41 h
  | 42, _, h => under_calls u2_42 h
  | 43, _, h => under_calls u2_43 h
  | 44, _, h => under_calls u2_44 h
  | 45, _, h => under_calls u2_45 h
  | 46, _, h => under_calls u2_46 h
  | 47, _, h => under_calls u2_47 h
  | 48, _, h => under_calls u2_48 h
  | 49, _, h => under_calls u2_49 h
  | 50, _, h => under_calls u2_50 h
  | 51, _, h => under_calls u2_51 h
  | 52, _, h => under_calls u2_52 h
  | 53, _, h => under_calls u2_53 h
  | 54, _, h => under_calls u2_54 h
  | 55, _, h => under_calls u2_55 h
  | 56, _, h => under_calls u2_56 h
  | 57, _, h => under_calls u2_57 h
  | 58, _, h => under_calls u2_58 h
  | 59, _, h => under_calls u2_59 h
  | 60, _, h => under_calls u2_60 h
  | 61, _, h => under_calls u2_61 h
  | 62, _, h => under_calls u2_62 h
  | 63, _, h => under_calls u2_63 h
  | 64, _, h => under_calls u2_64 h
  | 65, _, h => under_calls u2_65 h
  | 66, _, h => under_calls u2_66 h
  | 67, _, h => under_calls u2_67 h
  | 68, _, h => under_calls u2_68 h
  | 69, _, h => under_calls u2_69 h
  | 70, _, h => under_calls u2_70 h
  | 71, _, h => under_calls u2_71 h
  | 72, _, h => under_calls u2_72 h
  | 73, _, h => under_calls u2_73 h
  | 74, _, h => under_calls u2_74 h
  | 75, _, h => under_calls u2_75 h
  | 76, _, h => under_calls u2_76 h
  | 77, _, h => under_calls u2_77 h
  | 78, _, h => under_calls u2_78 h
  | 79, _, h => under_calls u2_79 h
  | 80, _, h => under_calls u2_80 h
  | 81, _, h => under_calls u2_81 h
  | 82, _, h => under_calls u2_82 h
  | s + 83, h, _ => absurd h (by omega)
theorem ta2 (s : Nat) (w0 : World) (u : Value) (w : World) (a : Act) (h : G2 s w0 u w) (hs : s < 83) (h0 : und2 s = 0) (q0 : a.tmps.getD 0 undef = numV 2) (q7 : a.tmps.getD 7 undef = u) (hsz : Tryz.f3.ntmps ≤ a.tmps.size) (hd : a.defers = []) : tailC.wp Tryz.prog (bodyPost Tryz.prog Tryz.f3 fun e w' => e = .returned (.bool true) ∧ Below w0.heap.size w0 w') a w := match s, hs, h, h0 with
  | 0, _, h, h0 => absurd h0 (by decide)
  | 1, _, h, h0 => absurd h0 (by decide)
  | 2, _, h, h0 => absurd h0 (by decide)
  | 3, _, h, h0 => absurd h0 (by decide)
  | 4, _, h, h0 => absurd h0 (by decide)
  | 5, _, h, h0 => absurd h0 (by decide)
  | 6, _, h, h0 => absurd h0 (by decide)
  | 7, _, h, h0 => absurd h0 (by decide)
  | 8, _, h, h0 => absurd h0 (by decide)
  | 9, _, h, h0 => absurd h0 (by decide)
  | 10, _, h, h0 => absurd h0 (by decide)
  | 11, _, h, h0 => absurd h0 (by decide)
  | 12, _, h, h0 => tail_wp t2_12 h q0 q7 hsz hd
  | 13, _, h, h0 => absurd h0 (by decide)
  | 14, _, h, h0 => absurd h0 (by decide)
  | 15, _, h, h0 => absurd h0 (by decide)
  | 16, _, h, h0 => absurd h0 (by decide)
  | 17, _, h, h0 => absurd h0 (by decide)
  | 18, _, h, h0 => absurd h0 (by decide)
  | 19, _, h, h0 => absurd h0 (by decide)
  | 20, _, h, h0 => absurd h0 (by decide)
  | 21, _, h, h0 => absurd h0 (by decide)
  | 22, _, h, h0 => absurd h0 (by decide)
  | 23, _, h, h0 => absurd h0 (by decide)
  | 24, _, h, h0 => absurd h0 (by decide)
  | 25, _, h, h0 => absurd h0 (by decide)
  | 26, _, h, h0 => absurd h0 (by decide)
  | 27, _, h, h0 => absurd h0 (by decide)
  | 28, _, h, h0 => absurd h0 (by decide)
  | 29, _, h, h0 => absurd h0 (by decide)
  | 30, _, h, h0 => absurd h0 (by decide)
  | 31, _, h, h0 => absurd h0 (by decide)
  | 32, _, h, h0 => tail_wp t2_32 h q0 q7 hsz hd
  | 33, _, h, h0 => absurd h0 (by decide)
  | 34, _, h, h0 => absurd h0 (by decide)
  | 35, _, h, h0 => absurd h0 (by decide)
  | 36, _, h, h0 => absurd h0 (by decide)
  | 37, _, h, h0 => absurd h0 (by decide)
  | 38, _, h, h0 => absurd h0 (by decide)
  | 39, _, h, h0 => absurd h0 (by decide)
  | 40, _, h, h0 => absurd h0 (by decide)
  | 41, _, h, h0 => absurd h0 (by decide)
  | 42, _, h, h0 => absurd h0 (by decide)
  | 43, _, h, h0 => absurd h0 (by decide)
  | 44, _, h, h0 => absurd h0 (by decide)
  | 45, _, h, h0 => absurd h0 (by decide)
  | 46, _, h, h0 => absurd h0 (by decide)
  | 47, _, h, h0 => absurd h0 (by decide)
  | 48, _, h, h0 => absurd h0 (by decide)
  | 49, _, h, h0 => absurd h0 (by decide)
  | 50, _, h, h0 => absurd h0 (by decide)
  | 51, _, h, h0 => absurd h0 (by decide)
  | 52, _, h, h0 => absurd h0 (by decide)
  | 53, _, h, h0 => tail_wp t2_53 h q0 q7 hsz hd
  | 54, _, h, h0 => absurd h0 (by decide)
  | 55, _, h, h0 => absurd h0 (by decide)
  | 56, _, h, h0 => absurd h0 (by decide)
  | 57, _, h, h0 => absurd h0 (by decide)
  | 58, _, h, h0 => absurd h0 (by decide)
  | 59, _, h, h0 => absurd h0 (by decide)
  | 60, _, h, h0 => absurd h0 (by decide)
  | 61, _, h, h0 => absurd h0 (by decide)
  | 62, _, h, h0 => absurd h0 (by decide)
  | 63, _, h, h0 => absurd h0 (by decide)
  | 64, _, h, h0 => absurd h0 (by decide)
  | 65, _, h, h0 => absurd h0 (by decide)
  | 66, _, h, h0 => absurd h0 (by decide)
  | 67, _, h, h0 => absurd h0 (by decide)
  | 68, _, h, h0 => absurd h0 (by decide)
  | 69, _, h, h0 => tail_wp t2_69 h q0 q7 hsz hd
  | 70, _, h, h0 => absurd h0 (by decide)
  | 71, _, h, h0 => absurd h0 (by decide)
  | 72, _, h, h0 => absurd h0 (by decide)
  | 73, _, h, h0 => absurd h0 (by decide)
  | 74, _, h, h0 => absurd h0 (by decide)
  | 75, _, h, h0 => absurd h0 (by decide)
  | 76, _, h, h0 => absurd h0 (by decide)
  | 77, _, h, h0 => absurd h0 (by decide)
  | 78, _, h, h0 => tail_wp t2_78 h q0 q7 hsz hd
  | 79, _, h, h0 => absurd h0 (by decide)
  | 80, _, h, h0 => absurd h0 (by decide)
  | 81, _, h, h0 => absurd h0 (by decide)
  | 82, _, h, h0 => tail_wp t2_82 h q0 q7 hsz hd
  | s + 83, h, _, _ => absurd h (by omega)
theorem be2 (s : Nat) (w0 : World) (u : Value) (w : World) (h : G2 s w0 u w) : Below w0.heap.size w0 w ∧ G2 s w0 u w.drew := by
  unfold G2 at h ⊢
  split at h
  all_goals first
    | exact ⟨h.below, h.drew⟩
    | exact h.elim
theorem sen2 (s : Nat) (w0 : World) (u : Value) (w : World) (h : G2 s w0 u w) (hs : s < 5) : Calls Tryz.prog 9 #[u, .int .i64 0, .int .i64 0] w fun e w' => e = .returned (.bool true) ∧ G2 (s + 1) w0 u w' := match s, hs, h with
  | 0, _, h => call2v se2_1 rfl rfl rfl h
  | 1, _, h => call2v se2_2 rfl rfl rfl h
  | 2, _, h => call2v se2_3 rfl rfl rfl h
  | 3, _, h => call2v se2_4 rfl rfl rfl h
  | 4, _, h => call2v se2_5 rfl rfl rfl h
  | s + 5, h, _ => absurd h (by omega)
theorem law2 (x : Int) (a1 a2 : Option Addr) (n1 n2 c1 c2 : Nat) (w : World) (hx : 1 + x % 4 = (2 : Nat)) (hcell : ∀ i, i < n2 → ∃ ad z, a2 = some ad ∧ w.cell? (ad.add i) = some (.int .i64 z)) :
    Calls Tryz.prog 3 #[.int .i64 x, .slice a1 n1 c1, .slice a2 n2 c2] w fun e w' => e = .returned (.bool true) ∧ Below w.heap.size w w' :=
  walk_a (D := DS) (E := ES) (S := G2) (und := und2) (mu := mu2) 2 x a1 a2 n1 n2 c1 c2 w (by decide) (by decide) hx known_calls
    (fun w0 w hb => (ready_calls w).mono fun e w' ⟨u, h1, h2⟩ => ⟨u, h1, h2.base hb⟩)
    (fun x n w h1 h2 => within_calls x n h1 h2 w) edge_c do_c
    (fun w0 u w h => call2v se2_0 rfl rfl rfl h)
    (fun s w0 u w h hs => sen2 s w0 u w h hs)
    (fun s w0 u w h hs => un2 s w0 u w h hs)
    (by decide)
    (fun s w0 u w h => (be2 s w0 u w h).1) (fun s w0 u w h => (be2 s w0 u w h).2) hcell
    (fun s k w0 u w h hs hk => step2 s k w0 u w h hs hk)
    (by decide) (by decide)
    (fun s w0 u wr a c hc h hs h0 hsz hd q0 q7 => by
      subst hc
      exact ta2 s w0 u wr a h hs h0 q0 q7 (by rw [hsz]; decide) hd)

end Go.Proofs.YtaceajadklmddaaGreat
