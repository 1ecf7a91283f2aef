/- The law WorldTwice: 1 operations. -/
import Derived.Test.YtaceajadklmddaaGreatWk
import Derived.Test.YtaceajadklmddaaGreatGa
import Derived.Test.YtaceajadklmddaaGreatY0
import Derived.Test.YtaceajadklmddaaGreatY1
import Derived.Test.YtaceajadklmddaaGreatY2
import Derived.Test.YtaceajadklmddaaGreatY3
namespace Go.Proofs.YtaceajadklmddaaGreat
open Go Go.Cx Go.RowKit

def und1 : Nat → Nat := fun s => match s with | 0 => 1 | 1 => 2 | 2 => 3 | 3 => 4 | 4 => 5 | 5 => 6 | 6 => 1 | 7 => 2 | 8 => 3 | 9 => 4 | 10 => 5 | 11 => 6 | 12 => 0 | 13 => 2 | 14 => 1 | 15 => 3 | 16 => 2 | 17 => 4 | 18 => 3 | 19 => 5 | 20 => 4 | 21 => 6 | 22 => 5 | 23 => 1 | 24 => 3 | 25 => 2 | 26 => 4 | 27 => 3 | 28 => 5 | 29 => 4 | 30 => 6 | 31 => 5 | 32 => 0 | 33 => 2 | 34 => 1 | 35 => 4 | 36 => 3 | 37 => 2 | 38 => 5 | 39 => 4 | 40 => 3 | 41 => 6 | 42 => 5 | 43 => 4 | 44 => 1 | 45 => 3 | 46 => 2 | 47 => 5 | 48 => 4 | 49 => 3 | 50 => 6 | 51 => 5 | 52 => 4 | 53 => 0 | 54 => 2 | 55 => 1 | 56 => 4 | 57 => 3 | 58 => 2 | 59 => 6 | 60 => 5 | 61 => 4 | 62 => 3 | 63 => 1 | 64 => 3 | 65 => 2 | 66 => 5 | 67 => 4 | 68 => 3 | 69 => 0 | 70 => 2 | 71 => 1 | 72 => 4 | 73 => 3 | 74 => 2 | 75 => 1 | 76 => 3 | 77 => 2 | 78 => 0 | 79 => 2 | 80 => 1 | 81 => 1 | 82 => 0 | _ => 0
def mu1 : Nat → Nat := fun s => match s with | 0 => 2 | 1 => 4 | 2 => 6 | 3 => 8 | 4 => 10 | 5 => 12 | 6 => 1 | 7 => 3 | 8 => 5 | 9 => 7 | 10 => 9 | 11 => 11 | 12 => 0 | 13 => 2 | 14 => 2 | 15 => 4 | 16 => 4 | 17 => 6 | 18 => 6 | 19 => 8 | 20 => 8 | 21 => 10 | 22 => 10 | 23 => 1 | 24 => 3 | 25 => 3 | 26 => 5 | 27 => 5 | 28 => 7 | 29 => 7 | 30 => 9 | 31 => 9 | 32 => 0 | 33 => 2 | 34 => 2 | 35 => 4 | 36 => 4 | 37 => 4 | 38 => 6 | 39 => 6 | 40 => 6 | 41 => 8 | 42 => 8 | 43 => 8 | 44 => 1 | 45 => 3 | 46 => 3 | 47 => 5 | 48 => 5 | 49 => 5 | 50 => 7 | 51 => 7 | 52 => 7 | 53 => 0 | 54 => 2 | 55 => 2 | 56 => 4 | 57 => 4 | 58 => 4 | 59 => 6 | 60 => 6 | 61 => 6 | 62 => 6 | 63 => 1 | 64 => 3 | 65 => 3 | 66 => 5 | 67 => 5 | 68 => 5 | 69 => 0 | 70 => 2 | 71 => 2 | 72 => 4 | 73 => 4 | 74 => 4 | 75 => 1 | 76 => 3 | 77 => 3 | 78 => 0 | 79 => 2 | 80 => 2 | 81 => 1 | 82 => 0 | _ => 0
noncomputable def G1 (s : Nat) (w0 : World) (u : Value) (w : World) : Prop := match s with | 0 => AtV S1_0 w0 [pw] [u] w | 1 => AtV S1_1 w0 [pw] [u] w | 2 => AtV S1_2 w0 [pw] [u] w | 3 => AtV S1_3 w0 [pw] [u] w | 4 => AtV S1_4 w0 [pw] [u] w | 5 => AtV S1_5 w0 [pw] [u] w | 6 => AtV S1_6 w0 [pw] [u] w | 7 => AtV S1_7 w0 [pw] [u] w | 8 => AtV S1_8 w0 [pw] [u] w | 9 => AtV S1_9 w0 [pw] [u] w | 10 => AtV S1_10 w0 [pw] [u] w | 11 => AtV S1_11 w0 [pw] [u] w | 12 => AtV S1_12 w0 [pw] [u] w | 13 => AtV S1_13 w0 [pw] [u] w | 14 => AtV S1_14 w0 [pw] [u] w | 15 => AtV S1_15 w0 [pw] [u] w | 16 => AtV S1_16 w0 [pw] [u] w | 17 => AtV S1_17 w0 [pw] [u] w | 18 => AtV S1_18 w0 [pw] [u] w | 19 => AtV S1_19 w0 [pw] [u] w | 20 => AtV S1_20 w0 [pw] [u] w | 21 => AtV S1_21 w0 [pw] [u] w | 22 => AtV S1_22 w0 [pw] [u] w | 23 => AtV S1_23 w0 [pw] [u] w | 24 => AtV S1_24 w0 [pw] [u] w | 25 => AtV S1_25 w0 [pw] [u] w | 26 => AtV S1_26 w0 [pw] [u] w | 27 => AtV S1_27 w0 [pw] [u] w | 28 => AtV S1_28 w0 [pw] [u] w | 29 => AtV S1_29 w0 [pw] [u] w | 30 => AtV S1_30 w0 [pw] [u] w | 31 => AtV S1_31 w0 [pw] [u] w | 32 => AtV S1_32 w0 [pw] [u] w | 33 => AtV S1_33 w0 [pw] [u] w | 34 => AtV S1_34 w0 [pw] [u] w | 35 => AtV S1_35 w0 [pw] [u] w | 36 => AtV S1_36 w0 [pw] [u] w | 37 => AtV S1_37 w0 [pw] [u] w | 38 => AtV S1_38 w0 [pw] [u] w | 39 => AtV S1_39 w0 [pw] [u] w | 40 => AtV S1_40 w0 [pw] [u] w | 41 => AtV S1_41 w0 [pw] [u] w | 42 => AtV S1_42 w0 [pw] [u] w | 43 => AtV S1_43 w0 [pw] [u] w | 44 => AtV S1_44 w0 [pw] [u] w | 45 => AtV S1_45 w0 [pw] [u] w | 46 => AtV S1_46 w0 [pw] [u] w | 47 => AtV S1_47 w0 [pw] [u] w | 48 => AtV S1_48 w0 [pw] [u] w | 49 => AtV S1_49 w0 [pw] [u] w | 50 => AtV S1_50 w0 [pw] [u] w | 51 => AtV S1_51 w0 [pw] [u] w | 52 => AtV S1_52 w0 [pw] [u] w | 53 => AtV S1_53 w0 [pw] [u] w | 54 => AtV S1_54 w0 [pw] [u] w | 55 => AtV S1_55 w0 [pw] [u] w | 56 => AtV S1_56 w0 [pw] [u] w | 57 => AtV S1_57 w0 [pw] [u] w | 58 => AtV S1_58 w0 [pw] [u] w | 59 => AtV S1_59 w0 [pw] [u] w | 60 => AtV S1_60 w0 [pw] [u] w | 61 => AtV S1_61 w0 [pw] [u] w | 62 => AtV S1_62 w0 [pw] [u] w | 63 => AtV S1_63 w0 [pw] [u] w | 64 => AtV S1_64 w0 [pw] [u] w | 65 => AtV S1_65 w0 [pw] [u] w | 66 => AtV S1_66 w0 [pw] [u] w | 67 => AtV S1_67 w0 [pw] [u] w | 68 => AtV S1_68 w0 [pw] [u] w | 69 => AtV S1_69 w0 [pw] [u] w | 70 => AtV S1_70 w0 [pw] [u] w | 71 => AtV S1_71 w0 [pw] [u] w | 72 => AtV S1_72 w0 [pw] [u] w | 73 => AtV S1_73 w0 [pw] [u] w | 74 => AtV S1_74 w0 [pw] [u] w | 75 => AtV S1_75 w0 [pw] [u] w | 76 => AtV S1_76 w0 [pw] [u] w | 77 => AtV S1_77 w0 [pw] [u] w | 78 => AtV S1_78 w0 [pw] [u] w | 79 => AtV S1_79 w0 [pw] [u] w | 80 => AtV S1_80 w0 [pw] [u] w | 81 => AtV S1_81 w0 [pw] [u] w | 82 => AtV S1_82 w0 [pw] [u] w | _ => False
theorem go1 {x y k : Nat} (t : Nat) (h : dB x k y = true) {m : Nat} {w0 w : World} {u : Value} (hw : AtV x w0 [pw] [u] w) (h1 : t < 83) (h2 : mu1 t < m) (hS : ∀ w', AtV y w0 [pw] [u] w' → G1 t w0 u w') : Calls Tryz.prog 11 #[u, .int .i64 (k : Int)] w fun e w' => e = .returned (.bool true) ∧ ∃ t, t < 83 ∧ mu1 t < m ∧ G1 t w0 u w' := goes (S := G1) (mu := mu1) (K := 83) h hw h1 h2 hS
theorem s1_0 : On G1 mu1 S1_0 1 2 := fun k _ _ _ h hk => match k, hk with
  | 0, _ => go1 6 d1_0_0 h (by decide) (by decide) fun _ h => h
  | k + 1, h => absurd h (by omega)
theorem s1_1 : On G1 mu1 S1_1 2 4 := fun k _ _ _ h hk => match k, hk with
  | 0, _ => go1 7 d1_1_0 h (by decide) (by decide) fun _ h => h
  | 1, _ => go1 7 d1_1_1 h (by decide) (by decide) fun _ h => h
  | k + 2, h => absurd h (by omega)
theorem s1_2 : On G1 mu1 S1_2 3 6 := fun k _ _ _ h hk => match k, hk with
  | 0, _ => go1 8 d1_2_0 h (by decide) (by decide) fun _ h => h
  | 1, _ => go1 8 d1_2_1 h (by decide) (by decide) fun _ h => h
  | 2, _ => go1 8 d1_2_2 h (by decide) (by decide) fun _ h => h
  | k + 3, h => absurd h (by omega)
theorem s1_3 : On G1 mu1 S1_3 4 8 := fun k _ _ _ h hk => match k, hk with
  | 0, _ => go1 9 d1_3_0 h (by decide) (by decide) fun _ h => h
  | 1, _ => go1 9 d1_3_1 h (by decide) (by decide) fun _ h => h
  | 2, _ => go1 9 d1_3_2 h (by decide) (by decide) fun _ h => h
  | 3, _ => go1 9 d1_3_3 h (by decide) (by decide) fun _ h => h
  | k + 4, h => absurd h (by omega)
theorem s1_4 : On G1 mu1 S1_4 5 10 := fun k _ _ _ h hk => match k, hk with
  | 0, _ => go1 10 d1_4_0 h (by decide) (by decide) fun _ h => h
  | 1, _ => go1 10 d1_4_1 h (by decide) (by decide) fun _ h => h
  | 2, _ => go1 10 d1_4_2 h (by decide) (by decide) fun _ h => h
  | 3, _ => go1 10 d1_4_3 h (by decide) (by decide) fun _ h => h
  | 4, _ => go1 10 d1_4_4 h (by decide) (by decide) fun _ h => h
  | k + 5, h => absurd h (by omega)
theorem s1_5 : On G1 mu1 S1_5 6 12 := fun k _ _ _ h hk => match k, hk with
  | 0, _ => go1 11 d1_5_0 h (by decide) (by decide) fun _ h => h
  | 1, _ => go1 11 d1_5_1 h (by decide) (by decide) fun _ h => h
  | 2, _ => go1 11 d1_5_2 h (by decide) (by decide) fun _ h => h
  | 3, _ => go1 11 d1_5_3 h (by decide) (by decide) fun _ h => h
  | 4, _ => go1 11 d1_5_4 h (by decide) (by decide) fun _ h => h
  | 5, _ => go1 11 d1_5_5 h (by decide) (by decide) fun _ h => h
  | k + 6, h => absurd h (by omega)
theorem s1_6 : On G1 mu1 S1_6 1 1 := fun k _ _ _ h hk => match k, hk with
  | 0, _ => go1 12 d1_6_0 h (by decide) (by decide) fun _ h => h
  | k + 1, h => absurd h (by omega)
theorem s1_7 : On G1 mu1 S1_7 2 3 := fun k _ _ _ h hk => match k, hk with
  | 0, _ => go1 13 d1_7_0 h (by decide) (by decide) fun _ h => h
  | 1, _ => go1 14 d1_7_1 h (by decide) (by decide) fun _ h => h
  | k + 2, h => absurd h (by omega)
theorem s1_8 : On G1 mu1 S1_8 3 5 := fun k _ _ _ h hk => match k, hk with
  | 0, _ => go1 15 d1_8_0 h (by decide) (by decide) fun _ h => h
  | 1, _ => go1 15 d1_8_1 h (by decide) (by decide) fun _ h => h
  | 2, _ => go1 16 d1_8_2 h (by decide) (by decide) fun _ h => h
  | k + 3, h => absurd h (by omega)
theorem s1_9 : On G1 mu1 S1_9 4 7 := fun k _ _ _ h hk => match k, hk with
  | 0, _ => go1 17 d1_9_0 h (by decide) (by decide) fun _ h => h
  | 1, _ => go1 17 d1_9_1 h (by decide) (by decide) fun _ h => h
  | 2, _ => go1 17 d1_9_2 h (by decide) (by decide) fun _ h => h
  | 3, _ => go1 18 d1_9_3 h (by decide) (by decide) fun _ h => h
  | k + 4, h => absurd h (by omega)
theorem s1_10 : On G1 mu1 S1_10 5 9 := fun k _ _ _ h hk => match k, hk with
  | 0, _ => go1 19 d1_10_0 h (by decide) (by decide) fun _ h => h
  | 1, _ => go1 19 d1_10_1 h (by decide) (by decide) fun _ h => h
  | 2, _ => go1 19 d1_10_2 h (by decide) (by decide) fun _ h => h
  | 3, _ => go1 19 d1_10_3 h (by decide) (by decide) fun _ h => h
  | 4, _ => go1 20 d1_10_4 h (by decide) (by decide) fun _ h => h
  | k + 5, h => absurd h (by omega)
theorem s1_11 : On G1 mu1 S1_11 6 11 := fun k _ _ _ h hk => match k, hk with
  | 0, _ => go1 21 d1_11_0 h (by decide) (by decide) fun _ h => h
  | 1, _ => go1 21 d1_11_1 h (by decide) (by decide) fun _ h => h
  | 2, _ => go1 21 d1_11_2 h (by decide) (by decide) fun _ h => h
  | 3, _ => go1 21 d1_11_3 h (by decide) (by decide) fun _ h => h
  | 4, _ => go1 21 d1_11_4 h (by decide) (by decide) fun _ h => h
  | 5, _ => go1 22 d1_11_5 h (by decide) (by decide) fun _ h => h
  | k + 6, h => absurd h (by omega)
theorem s1_13 : On G1 mu1 S1_13 2 2 := fun k _ _ _ h hk => match k, hk with
  | 0, _ => go1 23 d1_13_0 h (by decide) (by decide) fun _ h => h
  | 1, _ => go1 23 d1_13_1 h (by decide) (by decide) fun _ h => h
  | k + 2, h => absurd h (by omega)
theorem s1_14 : On G1 mu1 S1_14 1 2 := fun k _ _ _ h hk => match k, hk with
  | 0, _ => go1 23 d1_14_0 h (by decide) (by decide) fun _ h => h
  | k + 1, h => absurd h (by omega)
theorem s1_15 : On G1 mu1 S1_15 3 4 := fun k _ _ _ h hk => match k, hk with
  | 0, _ => go1 24 d1_15_0 h (by decide) (by decide) fun _ h => h
  | 1, _ => go1 25 d1_15_1 h (by decide) (by decide) fun _ h => h
  | 2, _ => go1 25 d1_15_2 h (by decide) (by decide) fun _ h => h
  | k + 3, h => absurd h (by omega)
theorem s1_16 : On G1 mu1 S1_16 2 4 := fun k _ _ _ h hk => match k, hk with
  | 0, _ => go1 25 d1_16_0 h (by decide) (by decide) fun _ h => h
  | 1, _ => go1 25 d1_16_1 h (by decide) (by decide) fun _ h => h
  | k + 2, h => absurd h (by omega)
theorem s1_17 : On G1 mu1 S1_17 4 6 := fun k _ _ _ h hk => match k, hk with
  | 0, _ => go1 26 d1_17_0 h (by decide) (by decide) fun _ h => h
  | 1, _ => go1 26 d1_17_1 h (by decide) (by decide) fun _ h => h
  | 2, _ => go1 27 d1_17_2 h (by decide) (by decide) fun _ h => h
  | 3, _ => go1 27 d1_17_3 h (by decide) (by decide) fun _ h => h
  | k + 4, h => absurd h (by omega)
theorem s1_18 : On G1 mu1 S1_18 3 6 := fun k _ _ _ h hk => match k, hk with
  | 0, _ => go1 27 d1_18_0 h (by decide) (by decide) fun _ h => h
  | 1, _ => go1 27 d1_18_1 h (by decide) (by decide) fun _ h => h
  | 2, _ => go1 27 d1_18_2 h (by decide) (by decide) fun _ h => h
  | k + 3, h => absurd h (by omega)
theorem s1_19 : On G1 mu1 S1_19 5 8 := fun k _ _ _ h hk => match k, hk with
  | 0, _ => go1 28 d1_19_0 h (by decide) (by decide) fun _ h => h
  | 1, _ => go1 28 d1_19_1 h (by decide) (by decide) fun _ h => h
  | 2, _ => go1 28 d1_19_2 h (by decide) (by decide) fun _ h => h
  | 3, _ => go1 29 d1_19_3 h (by decide) (by decide) fun _ h => h
  | 4, _ => go1 29 d1_19_4 h (by decide) (by decide) fun _ h => h
  | k + 5, h => absurd h (by omega)
theorem s1_20 : On G1 mu1 S1_20 4 8 := fun k _ _ _ h hk => match k, hk with
  | 0, _ => go1 29 d1_20_0 h (by decide) (by decide) fun _ h => h
  | 1, _ => go1 29 d1_20_1 h (by decide) (by decide) fun _ h => h
  | 2, _ => go1 29 d1_20_2 h (by decide) (by decide) fun _ h => h
  | 3, _ => go1 29 d1_20_3 h (by decide) (by decide) fun _ h => h
  | k + 4, h => absurd h (by omega)
theorem s1_21 : On G1 mu1 S1_21 6 10 := fun k _ _ _ h hk => match k, hk with
  | 0, _ => go1 30 d1_21_0 h (by decide) (by decide) fun _ h => h
  | 1, _ => go1 30 d1_21_1 h (by decide) (by decide) fun _ h => h
  | 2, _ => go1 30 d1_21_2 h (by decide) (by decide) fun _ h => h
  | 3, _ => go1 30 d1_21_3 h (by decide) (by decide) fun _ h => h
  | 4, _ => go1 31 d1_21_4 h (by decide) (by decide) fun _ h => h
  | 5, _ => go1 31 d1_21_5 h (by decide) (by decide) fun _ h => h
  | k + 6, h => absurd h (by omega)
theorem s1_22 : On G1 mu1 S1_22 5 10 := fun k _ _ _ h hk => match k, hk with
  | 0, _ => go1 31 d1_22_0 h (by decide) (by decide) fun _ h => h
  | 1, _ => go1 31 d1_22_1 h (by decide) (by decide) fun _ h => h
  | 2, _ => go1 31 d1_22_2 h (by decide) (by decide) fun _ h => h
  | 3, _ => go1 31 d1_22_3 h (by decide) (by decide) fun _ h => h
  | 4, _ => go1 31 d1_22_4 h (by decide) (by decide) fun _ h => h
  | k + 5, h => absurd h (by omega)
theorem s1_23 : On G1 mu1 S1_23 1 1 := fun k _ _ _ h hk => match k, hk with
  | 0, _ => go1 32 d1_23_0 h (by decide) (by decide) fun _ h => h
  | k + 1, h => absurd h (by omega)
theorem s1_24 : On G1 mu1 S1_24 3 3 := fun k _ _ _ h hk => match k, hk with
  | 0, _ => go1 33 d1_24_0 h (by decide) (by decide) fun _ h => h
  | 1, _ => go1 33 d1_24_1 h (by decide) (by decide) fun _ h => h
  | 2, _ => go1 33 d1_24_2 h (by decide) (by decide) fun _ h => h
  | k + 3, h => absurd h (by omega)
theorem s1_25 : On G1 mu1 S1_25 2 3 := fun k _ _ _ h hk => match k, hk with
  | 0, _ => go1 33 d1_25_0 h (by decide) (by decide) fun _ h => h
  | 1, _ => go1 34 d1_25_1 h (by decide) (by decide) fun _ h => h
  | k + 2, h => absurd h (by omega)
theorem s1_26 : On G1 mu1 S1_26 4 5 := fun k _ _ _ h hk => match k, hk with
  | 0, _ => go1 35 d1_26_0 h (by decide) (by decide) fun _ h => h
  | 1, _ => go1 36 d1_26_1 h (by decide) (by decide) fun _ h => h
  | 2, _ => go1 36 d1_26_2 h (by decide) (by decide) fun _ h => h
  | 3, _ => go1 36 d1_26_3 h (by decide) (by decide) fun _ h => h
  | k + 4, h => absurd h (by omega)
theorem s1_27 : On G1 mu1 S1_27 3 5 := fun k _ _ _ h hk => match k, hk with
  | 0, _ => go1 36 d1_27_0 h (by decide) (by decide) fun _ h => h
  | 1, _ => go1 36 d1_27_1 h (by decide) (by decide) fun _ h => h
  | 2, _ => go1 37 d1_27_2 h (by decide) (by decide) fun _ h => h
  | k + 3, h => absurd h (by omega)
theorem s1_28 : On G1 mu1 S1_28 5 7 := fun k _ _ _ h hk => match k, hk with
  | 0, _ => go1 38 d1_28_0 h (by decide) (by decide) fun _ h => h
  | 1, _ => go1 38 d1_28_1 h (by decide) (by decide) fun _ h => h
  | 2, _ => go1 39 d1_28_2 h (by decide) (by decide) fun _ h => h
  | 3, _ => go1 39 d1_28_3 h (by decide) (by decide) fun _ h => h
  | 4, _ => go1 39 d1_28_4 h (by decide) (by decide) fun _ h => h
  | k + 5, h => absurd h (by omega)
theorem s1_29 : On G1 mu1 S1_29 4 7 := fun k _ _ _ h hk => match k, hk with
  | 0, _ => go1 39 d1_29_0 h (by decide) (by decide) fun _ h => h
  | 1, _ => go1 39 d1_29_1 h (by decide) (by decide) fun _ h => h
  | 2, _ => go1 39 d1_29_2 h (by decide) (by decide) fun _ h => h
  | 3, _ => go1 40 d1_29_3 h (by decide) (by decide) fun _ h => h
  | k + 4, h => absurd h (by omega)
theorem s1_30 : On G1 mu1 S1_30 6 9 := fun k _ _ _ h hk => match k, hk with
  | 0, _ => go1 41 d1_30_0 h (by decide) (by decide) fun _ h => h
  | 1, _ => go1 41 d1_30_1 h (by decide) (by decide) fun _ h => h
  | 2, _ => go1 41 d1_30_2 h (by decide) (by decide) fun _ h => h
  | 3, _ => go1 42 d1_30_3 h (by decide) (by decide) fun _ h => h
  | 4, _ => go1 42 d1_30_4 h (by decide) (by decide) fun _ h => h
  | 5, _ => go1 42 d1_30_5 h (by decide) (by decide) fun _ h => h
  | k + 6, h => absurd h (by omega)
theorem s1_31 : On G1 mu1 S1_31 5 9 := fun k _ _ _ h hk => match k, hk with
  | 0, _ => go1 42 d1_31_0 h (by decide) (by decide) fun _ h => h
  | 1, _ => go1 42 d1_31_1 h (by decide) (by decide) fun _ h => h
  | 2, _ => go1 42 d1_31_2 h (by decide) (by decide) fun _ h => h
  | 3, _ => go1 42 d1_31_3 h (by decide) (by decide) fun _ h => h
  | 4, _ => go1 43 d1_31_4 h (by decide) (by decide) fun _ h => h
  | k + 5, h => absurd h (by omega)
theorem s1_33 : On G1 mu1 S1_33 2 2 := fun k _ _ _ h hk => match k, hk with
  | 0, _ => go1 44 d1_33_0 h (by decide) (by decide) fun _ h => h
  | 1, _ => go1 44 d1_33_1 h (by decide) (by decide) fun _ h => h
  | k + 2, h => absurd h (by omega)
theorem s1_34 : On G1 mu1 S1_34 1 2 := fun k _ _ _ h hk => match k, hk with
  | 0, _ => go1 44 d1_34_0 h (by decide) (by decide) fun _ h => h
  | k + 1, h => absurd h (by omega)
theorem s1_35 : On G1 mu1 S1_35 4 4 := fun k _ _ _ h hk => match k, hk with
  | 0, _ => go1 45 d1_35_0 h (by decide) (by decide) fun _ h => h
  | 1, _ => go1 45 d1_35_1 h (by decide) (by decide) fun _ h => h
  | 2, _ => go1 45 d1_35_2 h (by decide) (by decide) fun _ h => h
  | 3, _ => go1 45 d1_35_3 h (by decide) (by decide) fun _ h => h
  | k + 4, h => absurd h (by omega)
theorem s1_36 : On G1 mu1 S1_36 3 4 := fun k _ _ _ h hk => match k, hk with
  | 0, _ => go1 45 d1_36_0 h (by decide) (by decide) fun _ h => h
  | 1, _ => go1 46 d1_36_1 h (by decide) (by decide) fun _ h => h
  | 2, _ => go1 46 d1_36_2 h (by decide) (by decide) fun _ h => h
  | k + 3, h => absurd h (by omega)
theorem s1_37 : On G1 mu1 S1_37 2 4 := fun k _ _ _ h hk => match k, hk with
  | 0, _ => go1 46 d1_37_0 h (by decide) (by decide) fun _ h => h
  | 1, _ => go1 46 d1_37_1 h (by decide) (by decide) fun _ h => h
  | k + 2, h => absurd h (by omega)
theorem s1_38 : On G1 mu1 S1_38 5 6 := fun k _ _ _ h hk => match k, hk with
  | 0, _ => go1 47 d1_38_0 h (by decide) (by decide) fun _ h => h
  | 1, _ => go1 48 d1_38_1 h (by decide) (by decide) fun _ h => h
  | 2, _ => go1 48 d1_38_2 h (by decide) (by decide) fun _ h => h
  | 3, _ => go1 48 d1_38_3 h (by decide) (by decide) fun _ h => h
  | 4, _ => go1 48 d1_38_4 h (by decide) (by decide) fun _ h => h
  | k + 5, h => absurd h (by omega)
theorem s1_39 : On G1 mu1 S1_39 4 6 := fun k _ _ _ h hk => match k, hk with
  | 0, _ => go1 48 d1_39_0 h (by decide) (by decide) fun _ h => h
  | 1, _ => go1 48 d1_39_1 h (by decide) (by decide) fun _ h => h
  | 2, _ => go1 49 d1_39_2 h (by decide) (by decide) fun _ h => h
  | 3, _ => go1 49 d1_39_3 h (by decide) (by decide) fun _ h => h
  | k + 4, h => absurd h (by omega)
theorem s1_40 : On G1 mu1 S1_40 3 6 := fun k _ _ _ h hk => match k, hk with
  | 0, _ => go1 49 d1_40_0 h (by decide) (by decide) fun _ h => h
  | 1, _ => go1 49 d1_40_1 h (by decide) (by decide) fun _ h => h
  | 2, _ => go1 49 d1_40_2 h (by decide) (by decide) fun _ h => h
  | k + 3, h => absurd h (by omega)
theorem s1_41 : On G1 mu1 S1_41 6 8 := fun k _ _ _ h hk => match k, hk with
  | 0, _ => go1 50 d1_41_0 h (by decide) (by decide) fun _ h => h
  | 1, _ => go1 50 d1_41_1 h (by decide) (by decide) fun _ h => h
  | 2, _ => go1 51 d1_41_2 h (by decide) (by decide) fun _ h => h
  | 3, _ => go1 51 d1_41_3 h (by decide) (by decide) fun _ h => h
  | 4, _ => go1 51 d1_41_4 h (by decide) (by decide) fun _ h => h
  | 5, _ => go1 51 d1_41_5 h (by decide) (by decide) fun _ h => h
  | k + 6, h => absurd h (by omega)
theorem s1_42 : On G1 mu1 S1_42 5 8 := fun k _ _ _ h hk => match k, hk with
  | 0, _ => go1 51 d1_42_0 h (by decide) (by decide) fun _ h => h
  | 1, _ => go1 51 d1_42_1 h (by decide) (by decide) fun _ h => h
  | 2, _ => go1 51 d1_42_2 h (by decide) (by decide) fun _ h => h
  | 3, _ => go1 52 d1_42_3 h (by decide) (by decide) fun _ h => h
  | 4, _ => go1 52 d1_42_4 h (by decide) (by decide) fun _ h => h
  | k + 5, h => absurd h (by omega)
theorem s1_43 : On G1 mu1 S1_43 4 8 := fun k _ _ _ h hk => match k, hk with
  | 0, _ => go1 52 d1_43_0 h (by decide) (by decide) fun _ h => h
  | 1, _ => go1 52 d1_43_1 h (by decide) (by decide) fun _ h => h
  | 2, _ => go1 52 d1_43_2 h (by decide) (by decide) fun _ h => h
  | 3, _ => go1 52 d1_43_3 h (by decide) (by decide) fun _ h => h
  | k + 4, h => absurd h (by omega)
theorem s1_44 : On G1 mu1 S1_44 1 1 := fun k _ _ _ h hk => match k, hk with
  | 0, _ => go1 53 d1_44_0 h (by decide) (by decide) fun _ h => h
  | k + 1, h => absurd h (by omega)
theorem s1_45 : On G1 mu1 S1_45 3 3 := fun k _ _ _ h hk => match k, hk with
  | 0, _ => go1 54 d1_45_0 h (by decide) (by decide) fun _ h => h
  | 1, _ => go1 54 d1_45_1 h (by decide) (by decide) fun _ h => h
  | 2, _ => go1 54 d1_45_2 h (by decide) (by decide) fun _ h => h
  | k + 3, h => absurd h (by omega)
theorem s1_46 : On G1 mu1 S1_46 2 3 := fun k _ _ _ h hk => match k, hk with
  | 0, _ => go1 54 d1_46_0 h (by decide) (by decide) fun _ h => h
  | 1, _ => go1 55 d1_46_1 h (by decide) (by decide) fun _ h => h
  | k + 2, h => absurd h (by omega)
theorem s1_47 : On G1 mu1 S1_47 5 5 := fun k _ _ _ h hk => match k, hk with
  | 0, _ => go1 56 d1_47_0 h (by decide) (by decide) fun _ h => h
  | 1, _ => go1 56 d1_47_1 h (by decide) (by decide) fun _ h => h
  | 2, _ => go1 56 d1_47_2 h (by decide) (by decide) fun _ h => h
  | 3, _ => go1 56 d1_47_3 h (by decide) (by decide) fun _ h => h
  | 4, _ => go1 56 d1_47_4 h (by decide) (by decide) fun _ h => h
  | k + 5, h => absurd h (by omega)
theorem s1_48 : On G1 mu1 S1_48 4 5 := fun k _ _ _ h hk => match k, hk with
  | 0, _ => go1 56 d1_48_0 h (by decide) (by decide) fun _ h => h
  | 1, _ => go1 57 d1_48_1 h (by decide) (by decide) fun _ h => h
  | 2, _ => go1 57 d1_48_2 h (by decide) (by decide) fun _ h => h
  | 3, _ => go1 57 d1_48_3 h (by decide) (by decide) fun _ h => h
  | k + 4, h => absurd h (by omega)
theorem s1_49 : On G1 mu1 S1_49 3 5 := fun k _ _ _ h hk => match k, hk with
  | 0, _ => go1 57 d1_49_0 h (by decide) (by decide) fun _ h => h
  | 1, _ => go1 57 d1_49_1 h (by decide) (by decide) fun _ h => h
  | 2, _ => go1 58 d1_49_2 h (by decide) (by decide) fun _ h => h
  | k + 3, h => absurd h (by omega)
theorem s1_50 : On G1 mu1 S1_50 6 7 := fun k _ _ _ h hk => match k, hk with
  | 0, _ => go1 59 d1_50_0 h (by decide) (by decide) fun _ h => h
  | 1, _ => go1 60 d1_50_1 h (by decide) (by decide) fun _ h => h
  | 2, _ => go1 60 d1_50_2 h (by decide) (by decide) fun _ h => h
  | 3, _ => go1 60 d1_50_3 h (by decide) (by decide) fun _ h => h
  | 4, _ => go1 60 d1_50_4 h (by decide) (by decide) fun _ h => h
  | 5, _ => go1 60 d1_50_5 h (by decide) (by decide) fun _ h => h
  | k + 6, h => absurd h (by omega)
theorem s1_51 : On G1 mu1 S1_51 5 7 := fun k _ _ _ h hk => match k, hk with
  | 0, _ => go1 60 d1_51_0 h (by decide) (by decide) fun _ h => h
  | 1, _ => go1 60 d1_51_1 h (by decide) (by decide) fun _ h => h
  | 2, _ => go1 61 d1_51_2 h (by decide) (by decide) fun _ h => h
  | 3, _ => go1 61 d1_51_3 h (by decide) (by decide) fun _ h => h
  | 4, _ => go1 61 d1_51_4 h (by decide) (by decide) fun _ h => h
  | k + 5, h => absurd h (by omega)
theorem s1_52 : On G1 mu1 S1_52 4 7 := fun k _ _ _ h hk => match k, hk with
  | 0, _ => go1 61 d1_52_0 h (by decide) (by decide) fun _ h => h
  | 1, _ => go1 61 d1_52_1 h (by decide) (by decide) fun _ h => h
  | 2, _ => go1 61 d1_52_2 h (by decide) (by decide) fun _ h => h
  | 3, _ => go1 62 d1_52_3 h (by decide) (by decide) fun _ h => h
  | k + 4, h => absurd h (by omega)
theorem s1_54 : On G1 mu1 S1_54 2 2 := fun k _ _ _ h hk => match k, hk with
  | 0, _ => go1 63 d1_54_0 h (by decide) (by decide) fun _ h => h
  | 1, _ => go1 63 d1_54_1 h (by decide) (by decide) fun _ h => h
  | k + 2, h => absurd h (by omega)
theorem s1_55 : On G1 mu1 S1_55 1 2 := fun k _ _ _ h hk => match k, hk with
  | 0, _ => go1 63 d1_55_0 h (by decide) (by decide) fun _ h => h
  | k + 1, h => absurd h (by omega)
theorem s1_56 : On G1 mu1 S1_56 4 4 := fun k _ _ _ h hk => match k, hk with
  | 0, _ => go1 64 d1_56_0 h (by decide) (by decide) fun _ h => h
  | 1, _ => go1 64 d1_56_1 h (by decide) (by decide) fun _ h => h
  | 2, _ => go1 64 d1_56_2 h (by decide) (by decide) fun _ h => h
  | 3, _ => go1 64 d1_56_3 h (by decide) (by decide) fun _ h => h
  | k + 4, h => absurd h (by omega)
theorem s1_57 : On G1 mu1 S1_57 3 4 := fun k _ _ _ h hk => match k, hk with
  | 0, _ => go1 64 d1_57_0 h (by decide) (by decide) fun _ h => h
  | 1, _ => go1 65 d1_57_1 h (by decide) (by decide) fun _ h => h
  | 2, _ => go1 65 d1_57_2 h (by decide) (by decide) fun _ h => h
  | k + 3, h => absurd h (by omega)
theorem s1_58 : On G1 mu1 S1_58 2 4 := fun k _ _ _ h hk => match k, hk with
  | 0, _ => go1 65 d1_58_0 h (by decide) (by decide) fun _ h => h
  | 1, _ => go1 65 d1_58_1 h (by decide) (by decide) fun _ h => h
  | k + 2, h => absurd h (by omega)
theorem s1_59 : On G1 mu1 S1_59 6 6 := fun k _ _ _ h hk => match k, hk with
  | 0, _ => go1 66 d1_59_0 h (by decide) (by decide) fun _ h => h
  | 1, _ => go1 66 d1_59_1 h (by decide) (by decide) fun _ h => h
  | 2, _ => go1 66 d1_59_2 h (by decide) (by decide) fun _ h => h
  | 3, _ => go1 66 d1_59_3 h (by decide) (by decide) fun _ h => h
  | 4, _ => go1 66 d1_59_4 h (by decide) (by decide) fun _ h => h
  | 5, _ => go1 66 d1_59_5 h (by decide) (by decide) fun _ h => h
  | k + 6, h => absurd h (by omega)
theorem s1_60 : On G1 mu1 S1_60 5 6 := fun k _ _ _ h hk => match k, hk with
  | 0, _ => go1 66 d1_60_0 h (by decide) (by decide) fun _ h => h
  | 1, _ => go1 67 d1_60_1 h (by decide) (by decide) fun _ h => h
  | 2, _ => go1 67 d1_60_2 h (by decide) (by decide) fun _ h => h
  | 3, _ => go1 67 d1_60_3 h (by decide) (by decide) fun _ h => h
  | 4, _ => go1 67 d1_60_4 h (by decide) (by decide) fun _ h => h
  | k + 5, h => absurd h (by omega)
theorem s1_61 : On G1 mu1 S1_61 4 6 := fun k _ _ _ h hk => match k, hk with
  | 0, _ => go1 67 d1_61_0 h (by decide) (by decide) fun _ h => h
  | 1, _ => go1 67 d1_61_1 h (by decide) (by decide) fun _ h => h
  | 2, _ => go1 68 d1_61_2 h (by decide) (by decide) fun _ h => h
  | 3, _ => go1 68 d1_61_3 h (by decide) (by decide) fun _ h => h
  | k + 4, h => absurd h (by omega)
theorem s1_62 : On G1 mu1 S1_62 3 6 := fun k _ _ _ h hk => match k, hk with
  | 0, _ => go1 68 d1_62_0 h (by decide) (by decide) fun _ h => h
  | 1, _ => go1 68 d1_62_1 h (by decide) (by decide) fun _ h => h
  | 2, _ => go1 68 d1_62_2 h (by decide) (by decide) fun _ h => h
  | k + 3, h => absurd h (by omega)
theorem s1_63 : On G1 mu1 S1_63 1 1 := fun k _ _ _ h hk => match k, hk with
  | 0, _ => go1 69 d1_63_0 h (by decide) (by decide) fun _ h => h
  | k + 1, h => absurd h (by omega)
theorem s1_64 : On G1 mu1 S1_64 3 3 := fun k _ _ _ h hk => match k, hk with
  | 0, _ => go1 70 d1_64_0 h (by decide) (by decide) fun _ h => h
  | 1, _ => go1 70 d1_64_1 h (by decide) (by decide) fun _ h => h
  | 2, _ => go1 70 d1_64_2 h (by decide) (by decide) fun _ h => h
  | k + 3, h => absurd h (by omega)
theorem s1_65 : On G1 mu1 S1_65 2 3 := fun k _ _ _ h hk => match k, hk with
  | 0, _ => go1 70 d1_65_0 h (by decide) (by decide) fun _ h => h
  | 1, _ => go1 71 d1_65_1 h (by decide) (by decide) fun _ h => h
  | k + 2, h => absurd h (by omega)
theorem s1_66 : On G1 mu1 S1_66 5 5 := fun k _ _ _ h hk => match k, hk with
  | 0, _ => go1 72 d1_66_0 h (by decide) (by decide) fun _ h => h
  | 1, _ => go1 72 d1_66_1 h (by decide) (by decide) fun _ h => h
  | 2, _ => go1 72 d1_66_2 h (by decide) (by decide) fun _ h => h
  | 3, _ => go1 72 d1_66_3 h (by decide) (by decide) fun _ h => h
  | 4, _ => go1 72 d1_66_4 h (by decide) (by decide) fun _ h => h
  | k + 5, h => absurd h (by omega)
theorem s1_67 : On G1 mu1 S1_67 4 5 := fun k _ _ _ h hk => match k, hk with
  | 0, _ => go1 72 d1_67_0 h (by decide) (by decide) fun _ h => h
  | 1, _ => go1 73 d1_67_1 h (by decide) (by decide) fun _ h => h
  | 2, _ => go1 73 d1_67_2 h (by decide) (by decide) fun _ h => h
  | 3, _ => go1 73 d1_67_3 h (by decide) (by decide) fun _ h => h
  | k + 4, h => absurd h (by omega)
theorem s1_68 : On G1 mu1 S1_68 3 5 := fun k _ _ _ h hk => match k, hk with
  | 0, _ => go1 73 d1_68_0 h (by decide) (by decide) fun _ h => h
  | 1, _ => go1 73 d1_68_1 h (by decide) (by decide) fun _ h => h
  | 2, _ => go1 74 d1_68_2 h (by decide) (by decide) fun _ h => h
  | k + 3, h => absurd h (by omega)
theorem s1_70 : On G1 mu1 S1_70 2 2 := fun k _ _ _ h hk => match k, hk with
  | 0, _ => go1 75 d1_70_0 h (by decide) (by decide) fun _ h => h
  | 1, _ => go1 75 d1_70_1 h (by decide) (by decide) fun _ h => h
  | k + 2, h => absurd h (by omega)
theorem s1_71 : On G1 mu1 S1_71 1 2 := fun k _ _ _ h hk => match k, hk with
  | 0, _ => go1 75 d1_71_0 h (by decide) (by decide) fun _ h => h
  | k + 1, h => absurd h (by omega)
theorem s1_72 : On G1 mu1 S1_72 4 4 := fun k _ _ _ h hk => match k, hk with
  | 0, _ => go1 76 d1_72_0 h (by decide) (by decide) fun _ h => h
  | 1, _ => go1 76 d1_72_1 h (by decide) (by decide) fun _ h => h
  | 2, _ => go1 76 d1_72_2 h (by decide) (by decide) fun _ h => h
  | 3, _ => go1 76 d1_72_3 h (by decide) (by decide) fun _ h => h
  | k + 4, h => absurd h (by omega)
theorem s1_73 : On G1 mu1 S1_73 3 4 := fun k _ _ _ h hk => match k, hk with
  | 0, _ => go1 76 d1_73_0 h (by decide) (by decide) fun _ h => h
  | 1, _ => go1 77 d1_73_1 h (by decide) (by decide) fun _ h => h
  | 2, _ => go1 77 d1_73_2 h (by decide) (by decide) fun _ h => h
  | k + 3, h => absurd h (by omega)
theorem s1_74 : On G1 mu1 S1_74 2 4 := fun k _ _ _ h hk => match k, hk with
  | 0, _ => go1 77 d1_74_0 h (by decide) (by decide) fun _ h => h
  | 1, _ => go1 77 d1_74_1 h (by decide) (by decide) fun _ h => h
  | k + 2, h => absurd h (by omega)
theorem s1_75 : On G1 mu1 S1_75 1 1 := fun k _ _ _ h hk => match k, hk with
  | 0, _ => go1 78 d1_75_0 h (by decide) (by decide) fun _ h => h
  | k + 1, h => absurd h (by omega)
theorem s1_76 : On G1 mu1 S1_76 3 3 := fun k _ _ _ h hk => match k, hk with
  | 0, _ => go1 79 d1_76_0 h (by decide) (by decide) fun _ h => h
  | 1, _ => go1 79 d1_76_1 h (by decide) (by decide) fun _ h => h
  | 2, _ => go1 79 d1_76_2 h (by decide) (by decide) fun _ h => h
  | k + 3, h => absurd h (by omega)
theorem s1_77 : On G1 mu1 S1_77 2 3 := fun k _ _ _ h hk => match k, hk with
  | 0, _ => go1 79 d1_77_0 h (by decide) (by decide) fun _ h => h
  | 1, _ => go1 80 d1_77_1 h (by decide) (by decide) fun _ h => h
  | k + 2, h => absurd h (by omega)
theorem s1_79 : On G1 mu1 S1_79 2 2 := fun k _ _ _ h hk => match k, hk with
  | 0, _ => go1 81 d1_79_0 h (by decide) (by decide) fun _ h => h
  | 1, _ => go1 81 d1_79_1 h (by decide) (by decide) fun _ h => h
  | k + 2, h => absurd h (by omega)
theorem s1_80 : On G1 mu1 S1_80 1 2 := fun k _ _ _ h hk => match k, hk with
  | 0, _ => go1 81 d1_80_0 h (by decide) (by decide) fun _ h => h
  | k + 1, h => absurd h (by omega)
theorem s1_81 : On G1 mu1 S1_81 1 1 := fun k _ _ _ h hk => match k, hk with
  | 0, _ => go1 82 d1_81_0 h (by decide) (by decide) fun _ h => h
  | k + 1, h => absurd h (by omega)
theorem step1 (s k : Nat) (w0 : World) (u : Value) (w : World) (h : G1 s w0 u w) (hs : s < 83) (hk : k < und1 s) : Calls Tryz.prog 11 #[u, .int .i64 (k : Int)] w fun e w' => e = .returned (.bool true) ∧ ∃ t, t < 83 ∧ mu1 t < mu1 s ∧ G1 t w0 u w' := match s, hs, h, hk with
  | 0, _, h, hk => s1_0 k w0 u w h hk
  | 1, _, h, hk => s1_1 k w0 u w h hk
  | 2, _, h, hk => s1_2 k w0 u w h hk
  | 3, _, h, hk => s1_3 k w0 u w h hk
  | 4, _, h, hk => s1_4 k w0 u w h hk
  | 5, _, h, hk => s1_5 k w0 u w h hk
  | 6, _, h, hk => s1_6 k w0 u w h hk
  | 7, _, h, hk => s1_7 k w0 u w h hk
  | 8, _, h, hk => s1_8 k w0 u w h hk
  | 9, _, h, hk => s1_9 k w0 u w h hk
  | 10, _, h, hk => s1_10 k w0 u w h hk
  | 11, _, h, hk => s1_11 k w0 u w h hk
  | 12, _, h, hk => absurd hk (Nat.not_lt_zero k)
  | 13, _, h, hk => s1_13 k w0 u w h hk
  | 14, _, h, hk => s1_14 k w0 u w h hk
  | 15, _, h, hk => s1_15 k w0 u w h hk
  | 16, _, h, hk => s1_16 k w0 u w h hk
  | 17, _, h, hk => s1_17 k w0 u w h hk
  | 18, _, h, hk => s1_18 k w0 u w h hk
  | 19, _, h, hk => s1_19 k w0 u w h hk
  | 20, _, h, hk => s1_20 k w0 u w h hk
  | 21, _, h, hk => s1_21 k w0 u w h hk
  | 22, _, h, hk => s1_22 k w0 u w h hk
  | 23, _, h, hk => s1_23 k w0 u w h hk
  | 24, _, h, hk => s1_24 k w0 u w h hk
  | 25, _, h, hk => s1_25 k w0 u w h hk
  | 26, _, h, hk => s1_26 k w0 u w h hk
  | 27, _, h, hk => s1_27 k w0 u w h hk
  | 28, _, h, hk => s1_28 k w0 u w h hk
  | 29, _, h, hk => s1_29 k w0 u w h hk
  | 30, _, h, hk => s1_30 k w0 u w h hk
  | 31, _, h, hk => s1_31 k w0 u w h hk
  | 32, _, h, hk => absurd hk (Nat.not_lt_zero k)
  | 33, _, h, hk => s1_33 k w0 u w h hk
  | 34, _, h, hk => s1_34 k w0 u w h hk
  | 35, _, h, hk => s1_35 k w0 u w h hk
  | 36, _, h, hk => s1_36 k w0 u w h hk
  | 37, _, h, hk => s1_37 k w0 u w h hk
  | 38, _, h, hk => s1_38 k w0 u w h hk
  | 39, _, h, hk => s1_39 k w0 u w h hk
  | 40, _, h, hk => s1_40 k w0 u w h hk
  | 41, _, h, hk => s1_41 k w0 u w h hk
  | 42, _, h, hk => s1_42 k w0 u w h hk
  | 43, _, h, hk => s1_43 k w0 u w h hk
  | 44, _, h, hk => s1_44 k w0 u w h hk
  | 45, _, h, hk => s1_45 k w0 u w h hk
  | 46, _, h, hk => s1_46 k w0 u w h hk
  | 47, _, h, hk => s1_47 k w0 u w h hk
  | 48, _, h, hk => s1_48 k w0 u w h hk
  | 49, _, h, hk => s1_49 k w0 u w h hk
  | 50, _, h, hk => s1_50 k w0 u w h hk
  | 51, _, h, hk => s1_51 k w0 u w h hk
  | 52, _, h, hk => s1_52 k w0 u w h hk
  | 53, _, h, hk => absurd hk (Nat.not_lt_zero k)
  | 54, _, h, hk => s1_54 k w0 u w h hk
  | 55, _, h, hk => s1_55 k w0 u w h hk
  | 56, _, h, hk => s1_56 k w0 u w h hk
  | 57, _, h, hk => s1_57 k w0 u w h hk
  | 58, _, h, hk => s1_58 k w0 u w h hk
  | 59, _, h, hk => s1_59 k w0 u w h hk
  | 60, _, h, hk => s1_60 k w0 u w h hk
  | 61, _, h, hk => s1_61 k w0 u w h hk
  | 62, _, h, hk => s1_62 k w0 u w h hk
  | 63, _, h, hk => s1_63 k w0 u w h hk
  | 64, _, h, hk => s1_64 k w0 u w h hk
  | 65, _, h, hk => s1_65 k w0 u w h hk
  | 66, _, h, hk => s1_66 k w0 u w h hk
  | 67, _, h, hk => s1_67 k w0 u w h hk
  | 68, _, h, hk => s1_68 k w0 u w h hk
  | 69, _, h, hk => absurd hk (Nat.not_lt_zero k)
  | 70, _, h, hk => s1_70 k w0 u w h hk
  | 71, _, h, hk => s1_71 k w0 u w h hk
  | 72, _, h, hk => s1_72 k w0 u w h hk
  | 73, _, h, hk => s1_73 k w0 u w h hk
  | 74, _, h, hk => s1_74 k w0 u w h hk
  | 75, _, h, hk => s1_75 k w0 u w h hk
  | 76, _, h, hk => s1_76 k w0 u w h hk
  | 77, _, h, hk => s1_77 k w0 u w h hk
  | 78, _, h, hk => absurd hk (Nat.not_lt_zero k)
  | 79, _, h, hk => s1_79 k w0 u w h hk
  | 80, _, h, hk => s1_80 k w0 u w h hk
  | 81, _, h, hk => s1_81 k w0 u w h hk
  | 82, _, h, hk => absurd hk (Nat.not_lt_zero k)
  | s + 83, h, _, _ => absurd h (by omega)
theorem un1 (s : Nat) (w0 : World) (u : Value) (w : World) (h : G1 s w0 u w) (hs : s < 83) : Calls Tryz.prog 10 #[u] w fun e w' => e = .returned (.int .i64 (und1 s : Int)) ∧ w' = w := match s, hs, h with
  | 0, _, h => under_calls u1_0 h
  | 1, _, h => under_calls u1_1 h
  | 2, _, h => under_calls u1_2 h
  | 3, _, h => under_calls u1_3 h
  | 4, _, h => under_calls u1_4 h
  | 5, _, h => under_calls u1_5 h
  | 6, _, h => under_calls u1_6 h
  | 7, _, h => under_calls u1_7 h
  | 8, _, h => under_calls u1_8 h
  | 9, _, h => under_calls u1_9 h
  | 10, _, h => under_calls u1_10 h
  | 11, _, h => under_calls u1_11 h
  | 12, _, h => under_calls u1_12 h
  | 13, _, h => under_calls u1_13 h
  | 14, _, h => under_calls u1_14 h
  | 15, _, h => under_calls u1_15 h
  | 16, _, h => under_calls u1_16 h
  | 17, _, h => under_calls u1_17 h
  | 18, _, h => under_calls u1_18 h
  | 19, _, h => under_calls u1_19 h
  | 20, _, h => under_calls u1_20 h
  | 21, _, h => under_calls u1_21 h
  | 22, _, h => under_calls u1_22 h
  | 23, _, h => under_calls u1_23 h
  | 24, _, h => under_calls u1_24 h
  | 25, _, h => under_calls u1_25 h
  | 26, _, h => under_calls u1_26 h
  | 27, _, h => under_calls u1_27 h
  | 28, _, h => under_calls u1_28 h
  | 29, _, h => under_calls u1_29 h
  | 30, _, h => under_calls u1_30 h
  | 31, _, h => under_calls u1_31 h
  | 32, _, h => under_calls u1_32 h
  | 33, _, h => under_calls u1_33 h
  | 34, _, h => under_calls u1_34 h
  | 35, _, h => under_calls u1_35 h
  | 36, _, h => under_calls u1_36 h
  | 37, _, h => under_calls u1_37 h
  | 38, _, h => under_calls u1_38 h
  | 39, _, h => under_calls u1_39 h
  | 40, _, h => under_calls u1_40 h
  | 41, _, h => under_calls u1_41 h
  | 42, _, h => under_calls u1_42 h
  | 43, _, h => under_calls u1_43 h
  | 44, _, h => under_calls u1_44 h
  | 45, _, h => under_calls u1_45 h
  | 46, _, h => under_calls u1_46 h
  | 47, _, h => under_calls u1_47 h
  | 48, _, h => under_calls u1_48 h
  | 49, _, h => under_calls u1_49 h
  | 50, _, h => under_calls u1_50 h
  | 51, _, h => under_calls u1_51 h
  | 52, _, h => under_calls u1_52 h
  | 53, _, h => under_calls u1_53 h
  | 54, _, h => under_calls u1_54 h
  | 55, _, h => under_calls u1_55 h
  | 56, _, h => under_calls u1_56 h
  | 57, _, h => under_calls u1_57 h
  | 58, _, h => under_calls u1_58 h
  | 59, _, h => under_calls u1_59 h
  | 60, _, h => under_calls u1_60 h
  | 61, _, h => under_calls u1_61 h
  | 62, _, h => under_calls u1_62 h
  | 63, _, h => under_calls u1_63 h
  | 64, _, h => under_calls u1_64 h
  | 65, _, h => under_calls u1_65 h
  | 66, _, h => under_calls u1_66 h
  | 67, _, h => under_calls u1_67 h
  | 68, _, h => under_calls u1_68 h
  | 69, _, h => under_calls u1_69 h
  | 70, _, h => under_calls u1_70 h
  | 71, _, h => under_calls u1_71 h
  | 72, _, h => under_calls u1_72 h
  | 73, _, h => under_calls u1_73 h
  | 74, _, h => under_calls u1_74 h
  | 75, _, h => under_calls u1_75 h
  | 76, _, h => under_calls u1_76 h
  | 77, _, h => under_calls u1_77 h
  | 78, _, h => under_calls u1_78 h
  | 79, _, h => under_calls u1_79 h
  | 80, _, h => under_calls u1_80 h
  | 81, _, h => under_calls u1_81 h
  | 82, _, h => under_calls u1_82 h
  | s + 83, h, _ => absurd h (by omega)
theorem ta1 (s : Nat) (w0 : World) (u : Value) (w : World) (a : Act) (h : G1 s w0 u w) (hs : s < 83) (h0 : und1 s = 0) (q0 : a.tmps.getD 0 undef = numV 1) (q7 : a.tmps.getD 7 undef = u) (hsz : Tryz.f3.ntmps ≤ a.tmps.size) (hd : a.defers = []) : tailC.wp Tryz.prog (bodyPost Tryz.prog Tryz.f3 fun e w' => e = .returned (.bool true) ∧ Below w0.heap.size w0 w') a w := match s, hs, h, h0 with
  | 0, _, h, h0 => absurd h0 (by decide)
  | 1, _, h, h0 => absurd h0 (by decide)
  | 2, _, h, h0 => absurd h0 (by decide)
  | 3, _, h, h0 => absurd h0 (by decide)
  | 4, _, h, h0 => absurd h0 (by decide)
  | 5, _, h, h0 => absurd h0 (by decide)
  | 6, _, h, h0 => absurd h0 (by decide)
  | 7, _, h, h0 => absurd h0 (by decide)
  | 8, _, h, h0 => absurd h0 (by decide)
  | 9, _, h, h0 => absurd h0 (by decide)
  | 10, _, h, h0 => absurd h0 (by decide)
  | 11, _, h, h0 => absurd h0 (by decide)
  | 12, _, h, h0 => tail_wp t1_12 h q0 q7 hsz hd
  | 13, _, h, h0 => absurd h0 (by decide)
  | 14, _, h, h0 => absurd h0 (by decide)
  | 15, _, h, h0 => absurd h0 (by decide)
  | 16, _, h, h0 => absurd h0 (by decide)
  | 17, _, h, h0 => absurd h0 (by decide)
  | 18, _, h, h0 => absurd h0 (by decide)
  | 19, _, h, h0 => absurd h0 (by decide)
  | 20, _, h, h0 => absurd h0 (by decide)
  | 21, _, h, h0 => absurd h0 (by decide)
  | 22, _, h, h0 => absurd h0 (by decide)
  | 23, _, h, h0 => absurd h0 (by decide)
  | 24, _, h, h0 => absurd h0 (by decide)
  | 25, _, h, h0 => absurd h0 (by decide)
  | 26, _, h, h0 => absurd h0 (by decide)
  | 27, _, h, h0 => absurd h0 (by decide)
  | 28, _, h, h0 => absurd h0 (by decide)
  | 29, _, h, h0 => absurd h0 (by decide)
  | 30, _, h, h0 => absurd h0 (by decide)
  | 31, _, h, h0 => absurd h0 (by decide)
  | 32, _, h, h0 => tail_wp t1_32 h q0 q7 hsz hd
  | 33, _, h, h0 => absurd h0 (by decide)
  | 34, _, h, h0 => absurd h0 (by decide)
  | 35, _, h, h0 => absurd h0 (by decide)
  | 36, _, h, h0 => absurd h0 (by decide)
  | 37, _, h, h0 => absurd h0 (by decide)
  | 38, _, h, h0 => absurd h0 (by decide)
  | 39, _, h, h0 => absurd h0 (by decide)
  | 40, _, h, h0 => absurd h0 (by decide)
  | 41, _, h, h0 => absurd h0 (by decide)
  | 42, _, h, h0 => absurd h0 (by decide)
  | 43, _, h, h0 => absurd h0 (by decide)
  | 44, _, h, h0 => absurd h0 (by decide)
  | 45, _, h, h0 => absurd h0 (by decide)
  | 46, _, h, h0 => absurd h0 (by decide)
  | 47, _, h, h0 => absurd h0 (by decide)
  | 48, _, h, h0 => absurd h0 (by decide)
  | 49, _, h, h0 => absurd h0 (by decide)
  | 50, _, h, h0 => absurd h0 (by decide)
  | 51, _, h, h0 => absurd h0 (by decide)
  | 52, _, h, h0 => absurd h0 (by decide)
  | 53, _, h, h0 => tail_wp t1_53 h q0 q7 hsz hd
  | 54, _, h, h0 => absurd h0 (by decide)
  | 55, _, h, h0 => absurd h0 (by decide)
  | 56, _, h, h0 => absurd h0 (by decide)
  | 57, _, h, h0 => absurd h0 (by decide)
  | 58, _, h, h0 => absurd h0 (by decide)
  | 59, _, h, h0 => absurd h0 (by decide)
  | 60, _, h, h0 => absurd h0 (by decide)
  | 61, _, h, h0 => absurd h0 (by decide)
  | 62, _, h, h0 => absurd h0 (by decide)
  | 63, _, h, h0 => absurd h0 (by decide)
  | 64, _, h, h0 => absurd h0 (by decide)
  | 65, _, h, h0 => absurd h0 (by decide)
  | 66, _, h, h0 => absurd h0 (by decide)
  | 67, _, h, h0 => absurd h0 (by decide)
  | 68, _, h, h0 => absurd h0 (by decide)
  | 69, _, h, h0 => tail_wp t1_69 h q0 q7 hsz hd
  | 70, _, h, h0 => absurd h0 (by decide)
  | 71, _, h, h0 => absurd h0 (by decide)
  | 72, _, h, h0 => absurd h0 (by decide)
  | 73, _, h, h0 => absurd h0 (by decide)
  | 74, _, h, h0 => absurd h0 (by decide)
  | 75, _, h, h0 => absurd h0 (by decide)
  | 76, _, h, h0 => absurd h0 (by decide)
  | 77, _, h, h0 => absurd h0 (by decide)
  | 78, _, h, h0 => tail_wp t1_78 h q0 q7 hsz hd
  | 79, _, h, h0 => absurd h0 (by decide)
  | 80, _, h, h0 => absurd h0 (by decide)
  | 81, _, h, h0 => absurd h0 (by decide)
  | 82, _, h, h0 => tail_wp t1_82 h q0 q7 hsz hd
  | s + 83, h, _, _ => absurd h (by omega)
theorem be1 (s : Nat) (w0 : World) (u : Value) (w : World) (h : G1 s w0 u w) : Below w0.heap.size w0 w ∧ G1 s w0 u w.drew := by
  unfold G1 at h ⊢
  split at h
  all_goals first
    | exact ⟨h.below, h.drew⟩
    | exact h.elim
theorem sen1 (s : Nat) (w0 : World) (u : Value) (w : World) (h : G1 s w0 u w) (hs : s < 5) : Calls Tryz.prog 9 #[u, .int .i64 0, .int .i64 0] w fun e w' => e = .returned (.bool true) ∧ G1 (s + 1) w0 u w' := match s, hs, h with
  | 0, _, h => call2v se1_1 rfl rfl rfl h
  | 1, _, h => call2v se1_2 rfl rfl rfl h
  | 2, _, h => call2v se1_3 rfl rfl rfl h
  | 3, _, h => call2v se1_4 rfl rfl rfl h
  | 4, _, h => call2v se1_5 rfl rfl rfl h
  | s + 5, h, _ => absurd h (by omega)
theorem law1 (x : Int) (a1 a2 : Option Addr) (n1 n2 c1 c2 : Nat) (w : World) (hx : 1 + x % 4 = (1 : Nat)) (hcell : ∀ i, i < n2 → ∃ ad z, a2 = some ad ∧ w.cell? (ad.add i) = some (.int .i64 z)) :
    Calls Tryz.prog 3 #[.int .i64 x, .slice a1 n1 c1, .slice a2 n2 c2] w fun e w' => e = .returned (.bool true) ∧ Below w.heap.size w w' :=
  walk_a (D := DS) (E := ES) (S := G1) (und := und1) (mu := mu1) 1 x a1 a2 n1 n2 c1 c2 w (by decide) (by decide) hx known_calls
    (fun w0 w hb => (ready_calls w).mono fun e w' ⟨u, h1, h2⟩ => ⟨u, h1, h2.base hb⟩)
    (fun x n w h1 h2 => within_calls x n h1 h2 w) edge_c do_c
    (fun w0 u w h => call2v se1_0 rfl rfl rfl h)
    (fun s w0 u w h hs => sen1 s w0 u w h hs)
    (fun s w0 u w h hs => un1 s w0 u w h hs)
    (by decide)
    (fun s w0 u w h => (be1 s w0 u w h).1) (fun s w0 u w h => (be1 s w0 u w h).2) hcell
    (fun s k w0 u w h hs hk => step1 s k w0 u w h hs hk)
    (by decide) (by decide)
    (fun s w0 u wr a c hc h hs h0 hsz hd q0 q7 => by
      subst hc
      exact ta1 s w0 u wr a h hs h0 q0 q7 (by rw [hsz]; decide) hd)

end Go.Proofs.YtaceajadklmddaaGreat
