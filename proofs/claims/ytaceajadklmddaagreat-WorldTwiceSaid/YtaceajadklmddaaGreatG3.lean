/- The law WorldTwice: 3 operations. -/
import Derived.Test.YtaceajadklmddaaGreatWk
import Derived.Test.YtaceajadklmddaaGreatGa
import Derived.Test.YtaceajadklmddaaGreatY10
import Derived.Test.YtaceajadklmddaaGreatY11
import Derived.Test.YtaceajadklmddaaGreatY12
import Derived.Test.YtaceajadklmddaaGreatY13
import Derived.Test.YtaceajadklmddaaGreatY14
import Derived.Test.YtaceajadklmddaaGreatY8
import Derived.Test.YtaceajadklmddaaGreatY9
namespace Go.Proofs.YtaceajadklmddaaGreat
open Go Go.Cx Go.RowKit

def und3 : Nat → Nat := fun s => match s with | 0 => 1 | 1 => 2 | 2 => 3 | 3 => 4 | 4 => 5 | 5 => 6 | 6 => 1 | 7 => 2 | 8 => 3 | 9 => 4 | 10 => 5 | 11 => 6 | 12 => 0 | 13 => 2 | 14 => 1 | 15 => 3 | 16 => 2 | 17 => 4 | 18 => 3 | 19 => 5 | 20 => 4 | 21 => 6 | 22 => 5 | 23 => 1 | 24 => 3 | 25 => 2 | 26 => 4 | 27 => 3 | 28 => 5 | 29 => 4 | 30 => 6 | 31 => 5 | 32 => 0 | 33 => 2 | 34 => 1 | 35 => 4 | 36 => 3 | 37 => 2 | 38 => 5 | 39 => 4 | 40 => 3 | 41 => 6 | 42 => 5 | 43 => 4 | 44 => 1 | 45 => 3 | 46 => 2 | 47 => 5 | 48 => 4 | 49 => 3 | 50 => 6 | 51 => 5 | 52 => 4 | 53 => 0 | 54 => 2 | 55 => 1 | 56 => 4 | 57 => 3 | 58 => 2 | 59 => 6 | 60 => 5 | 61 => 4 | 62 => 3 | 63 => 1 | 64 => 3 | 65 => 2 | 66 => 5 | 67 => 4 | 68 => 3 | 69 => 0 | 70 => 2 | 71 => 1 | 72 => 4 | 73 => 3 | 74 => 2 | 75 => 1 | 76 => 3 | 77 => 2 | 78 => 0 | 79 => 2 | 80 => 1 | 81 => 1 | 82 => 0 | _ => 0
def mu3 : Nat → Nat := fun s => match s with | 0 => 2 | 1 => 4 | 2 => 6 | 3 => 8 | 4 => 10 | 5 => 12 | 6 => 1 | 7 => 3 | 8 => 5 | 9 => 7 | 10 => 9 | 11 => 11 | 12 => 0 | 13 => 2 | 14 => 2 | 15 => 4 | 16 => 4 | 17 => 6 | 18 => 6 | 19 => 8 | 20 => 8 | 21 => 10 | 22 => 10 | 23 => 1 | 24 => 3 | 25 => 3 | 26 => 5 | 27 => 5 | 28 => 7 | 29 => 7 | 30 => 9 | 31 => 9 | 32 => 0 | 33 => 2 | 34 => 2 | 35 => 4 | 36 => 4 | 37 => 4 | 38 => 6 | 39 => 6 | 40 => 6 | 41 => 8 | 42 => 8 | 43 => 8 | 44 => 1 | 45 => 3 | 46 => 3 | 47 => 5 | 48 => 5 | 49 => 5 | 50 => 7 | 51 => 7 | 52 => 7 | 53 => 0 | 54 => 2 | 55 => 2 | 56 => 4 | 57 => 4 | 58 => 4 | 59 => 6 | 60 => 6 | 61 => 6 | 62 => 6 | 63 => 1 | 64 => 3 | 65 => 3 | 66 => 5 | 67 => 5 | 68 => 5 | 69 => 0 | 70 => 2 | 71 => 2 | 72 => 4 | 73 => 4 | 74 => 4 | 75 => 1 | 76 => 3 | 77 => 3 | 78 => 0 | 79 => 2 | 80 => 2 | 81 => 1 | 82 => 0 | _ => 0
noncomputable def G3 (s : Nat) (w0 : World) (u : Value) (w : World) : Prop := match s with | 0 => AtV S3_0 w0 [pw] [u] w | 1 => AtV S3_1 w0 [pw] [u] w | 2 => AtV S3_2 w0 [pw] [u] w | 3 => AtV S3_3 w0 [pw] [u] w | 4 => AtV S3_4 w0 [pw] [u] w | 5 => AtV S3_5 w0 [pw] [u] w | 6 => AtV S3_6 w0 [pw] [u] w | 7 => AtV S3_7 w0 [pw] [u] w | 8 => AtV S3_8 w0 [pw] [u] w | 9 => AtV S3_9 w0 [pw] [u] w | 10 => AtV S3_10 w0 [pw] [u] w | 11 => AtV S3_11 w0 [pw] [u] w | 12 => AtV S3_12 w0 [pw] [u] w | 13 => AtV S3_13 w0 [pw] [u] w | 14 => AtV S3_14 w0 [pw] [u] w | 15 => AtV S3_15 w0 [pw] [u] w | 16 => AtV S3_16 w0 [pw] [u] w | 17 => AtV S3_17 w0 [pw] [u] w | 18 => AtV S3_18 w0 [pw] [u] w | 19 => AtV S3_19 w0 [pw] [u] w | 20 => AtV S3_20 w0 [pw] [u] w | 21 => AtV S3_21 w0 [pw] [u] w | 22 => AtV S3_22 w0 [pw] [u] w | 23 => AtV S3_23 w0 [pw] [u] w | 24 => AtV S3_24 w0 [pw] [u] w | 25 => AtV S3_25 w0 [pw] [u] w | 26 => AtV S3_26 w0 [pw] [u] w | 27 => AtV S3_27 w0 [pw] [u] w | 28 => AtV S3_28 w0 [pw] [u] w | 29 => AtV S3_29 w0 [pw] [u] w | 30 => AtV S3_30 w0 [pw] [u] w | 31 => AtV S3_31 w0 [pw] [u] w | 32 => AtV S3_32 w0 [pw] [u] w | 33 => AtV S3_33 w0 [pw] [u] w | 34 => AtV S3_34 w0 [pw] [u] w | 35 => AtV S3_35 w0 [pw] [u] w | 36 => AtV S3_36 w0 [pw] [u] w | 37 => AtV S3_37 w0 [pw] [u] w | 38 => AtV S3_38 w0 [pw] [u] w | 39 => AtV S3_39 w0 [pw] [u] w | 40 => AtV S3_40 w0 [pw] [u] w | 41 => AtV S3_41 w0 [pw] [u] w | 42 => AtV S3_42 w0 [pw] [u] w | 43 => AtV S3_43 w0 [pw] [u] w | 44 => AtV S3_44 w0 [pw] [u] w | 45 => AtV S3_45 w0 [pw] [u] w | 46 => AtV S3_46 w0 [pw] [u] w | 47 => AtV S3_47 w0 [pw] [u] w | 48 => AtV S3_48 w0 [pw] [u] w | 49 => AtV S3_49 w0 [pw] [u] w | 50 => AtV S3_50 w0 [pw] [u] w | 51 => AtV S3_51 w0 [pw] [u] w | 52 => AtV S3_52 w0 [pw] [u] w | 53 => AtV S3_53 w0 [pw] [u] w | 54 => AtV S3_54 w0 [pw] [u] w | 55 => AtV S3_55 w0 [pw] [u] w | 56 => AtV S3_56 w0 [pw] [u] w | 57 => AtV S3_57 w0 [pw] [u] w | 58 => AtV S3_58 w0 [pw] [u] w | 59 => AtV S3_59 w0 [pw] [u] w | 60 => AtV S3_60 w0 [pw] [u] w | 61 => AtV S3_61 w0 [pw] [u] w | 62 => AtV S3_62 w0 [pw] [u] w | 63 => AtV S3_63 w0 [pw] [u] w | 64 => AtV S3_64 w0 [pw] [u] w | 65 => AtV S3_65 w0 [pw] [u] w | 66 => AtV S3_66 w0 [pw] [u] w | 67 => AtV S3_67 w0 [pw] [u] w | 68 => AtV S3_68 w0 [pw] [u] w | 69 => AtV S3_69 w0 [pw] [u] w | 70 => AtV S3_70 w0 [pw] [u] w | 71 => AtV S3_71 w0 [pw] [u] w | 72 => AtV S3_72 w0 [pw] [u] w | 73 => AtV S3_73 w0 [pw] [u] w | 74 => AtV S3_74 w0 [pw] [u] w | 75 => AtV S3_75 w0 [pw] [u] w | 76 => AtV S3_76 w0 [pw] [u] w | 77 => AtV S3_77 w0 [pw] [u] w | 78 => AtV S3_78 w0 [pw] [u] w | 79 => AtV S3_79 w0 [pw] [u] w | 80 => AtV S3_80 w0 [pw] [u] w | 81 => AtV S3_81 w0 [pw] [u] w | 82 => AtV S3_82 w0 [pw] [u] w | _ => False
theorem go3 {x y k : Nat} (t : Nat) (h : dB x k y = true) {m : Nat} {w0 w : World} {u : Value} (hw : AtV x w0 [pw] [u] w) (h1 : t < 83) (h2 : mu3 t < m) (hS : ∀ w', AtV y w0 [pw] [u] w' → G3 t w0 u w') : Calls Tryz.prog 11 #[u, .int .i64 (k : Int)] w fun e w' => e = .returned (.bool true) ∧ ∃ t, t < 83 ∧ mu3 t < m ∧ G3 t w0 u w' := goes (S := G3) (mu := mu3) (K := 83) h hw h1 h2 hS
theorem s3_0 : On G3 mu3 S3_0 1 2 := fun k _ _ _ h hk => match k, hk with
  | 0, _ => go3 6 d3_0_0 h (by decide) (by decide) fun _ h => h
  | k + 1, h => absurd h (by omega)
theorem s3_1 : On G3 mu3 S3_1 2 4 := fun k _ _ _ h hk => match k, hk with
  | 0, _ => go3 7 d3_1_0 h (by decide) (by decide) fun _ h => h
  | 1, _ => go3 7 d3_1_1 h (by decide) (by decide) fun _ h => h
  | k + 2, h => absurd h (by omega)
theorem s3_2 : On G3 mu3 S3_2 3 6 := fun k _ _ _ h hk => match k, hk with
  | 0, _ => go3 8 d3_2_0 h (by decide) (by decide) fun _ h => h
  | 1, _ => go3 8 d3_2_1 h (by decide) (by decide) fun _ h => h
  | 2, _ => go3 8 d3_2_2 h (by decide) (by decide) fun _ h => h
  | k + 3, h => absurd h (by omega)
theorem s3_3 : On G3 mu3 S3_3 4 8 := fun k _ _ _ h hk => match k, hk with
  | 0, _ => go3 9 d3_3_0 h (by decide) (by decide) fun _ h => h
  | 1, _ => go3 9 d3_3_1 h (by decide) (by decide) fun _ h => h
  | 2, _ => go3 9 d3_3_2 h (by decide) (by decide) fun _ h => h
  | 3, _ => go3 9 d3_3_3 h (by decide) (by decide) fun _ h => h
  | k + 4, h => absurd h (by omega)
theorem s3_4 : On G3 mu3 S3_4 5 10 := fun k _ _ _ h hk => match k, hk with
  | 0, _ => go3 10 d3_4_0 h (by decide) (by decide) fun _ h => h
  | 1, _ => go3 10 d3_4_1 h (by decide) (by decide) fun _ h => h
  | 2, _ => go3 10 d3_4_2 h (by decide) (by decide) fun _ h => h
  | 3, _ => go3 10 d3_4_3 h (by decide) (by decide) fun _ h => h
  | 4, _ => go3 10 d3_4_4 h (by decide) (by decide) fun _ h => h
  | k + 5, h => absurd h (by omega)
theorem s3_5 : On G3 mu3 S3_5 6 12 := fun k _ _ _ h hk => match k, hk with
  | 0, _ => go3 11 d3_5_0 h (by decide) (by decide) fun _ h => h
  | 1, _ => go3 11 d3_5_1 h (by decide) (by decide) fun _ h => h
  | 2, _ => go3 11 d3_5_2 h (by decide) (by decide) fun _ h => h
  | 3, _ => go3 11 d3_5_3 h (by decide) (by decide) fun _ h => h
  | 4, _ => go3 11 d3_5_4 h (by decide) (by decide) fun _ h => h
  | 5, _ => go3 11 d3_5_5 h (by decide) (by decide) fun _ h => h
  | k + 6, h => absurd h (by omega)
theorem s3_6 : On G3 mu3 S3_6 1 1 := fun k _ _ _ h hk => match k, hk with
  | 0, _ => go3 12 d3_6_0 h (by decide) (by decide) fun _ h => h
  | k + 1, h => absurd h (by omega)
theorem s3_7 : On G3 mu3 S3_7 2 3 := fun k _ _ _ h hk => match k, hk with
  | 0, _ => go3 13 d3_7_0 h (by decide) (by decide) fun _ h => h
  | 1, _ => go3 14 d3_7_1 h (by decide) (by decide) fun _ h => h
  | k + 2, h => absurd h (by omega)
theorem s3_8 : On G3 mu3 S3_8 3 5 := fun k _ _ _ h hk => match k, hk with
  | 0, _ => go3 15 d3_8_0 h (by decide) (by decide) fun _ h => h
  | 1, _ => go3 15 d3_8_1 h (by decide) (by decide) fun _ h => h
  | 2, _ => go3 16 d3_8_2 h (by decide) (by decide) fun _ h => h
  | k + 3, h => absurd h (by omega)
theorem s3_9 : On G3 mu3 S3_9 4 7 := fun k _ _ _ h hk => match k, hk with
  | 0, _ => go3 17 d3_9_0 h (by decide) (by decide) fun _ h => h
  | 1, _ => go3 17 d3_9_1 h (by decide) (by decide) fun _ h => h
  | 2, _ => go3 17 d3_9_2 h (by decide) (by decide) fun _ h => h
  | 3, _ => go3 18 d3_9_3 h (by decide) (by decide) fun _ h => h
  | k + 4, h => absurd h (by omega)
theorem s3_10 : On G3 mu3 S3_10 5 9 := fun k _ _ _ h hk => match k, hk with
  | 0, _ => go3 19 d3_10_0 h (by decide) (by decide) fun _ h => h
  | 1, _ => go3 19 d3_10_1 h (by decide) (by decide) fun _ h => h
  | 2, _ => go3 19 d3_10_2 h (by decide) (by decide) fun _ h => h
  | 3, _ => go3 19 d3_10_3 h (by decide) (by decide) fun _ h => h
  | 4, _ => go3 20 d3_10_4 h (by decide) (by decide) fun _ h => h
  | k + 5, h => absurd h (by omega)
theorem s3_11 : On G3 mu3 S3_11 6 11 := fun k _ _ _ h hk => match k, hk with
  | 0, _ => go3 21 d3_11_0 h (by decide) (by decide) fun _ h => h
  | 1, _ => go3 21 d3_11_1 h (by decide) (by decide) fun _ h => h
  | 2, _ => go3 21 d3_11_2 h (by decide) (by decide) fun _ h => h
  | 3, _ => go3 21 d3_11_3 h (by decide) (by decide) fun _ h => h
  | 4, _ => go3 21 d3_11_4 h (by decide) (by decide) fun _ h => h
  | 5, _ => go3 22 d3_11_5 h (by decide) (by decide) fun _ h => h
  | k + 6, h => absurd h (by omega)
theorem s3_13 : On G3 mu3 S3_13 2 2 := fun k _ _ _ h hk => match k, hk with
  | 0, _ => go3 23 d3_13_0 h (by decide) (by decide) fun _ h => h
  | 1, _ => go3 23 d3_13_1 h (by decide) (by decide) fun _ h => h
  | k + 2, h => absurd h (by omega)
theorem s3_14 : On G3 mu3 S3_14 1 2 := fun k _ _ _ h hk => match k, hk with
  | 0, _ => go3 23 d3_14_0 h (by decide) (by decide) fun _ h => h
  | k + 1, h => absurd h (by omega)
theorem s3_15 : On G3 mu3 S3_15 3 4 := fun k _ _ _ h hk => match k, hk with
  | 0, _ => go3 24 d3_15_0 h (by decide) (by decide) fun _ h => h
  | 1, _ => go3 25 d3_15_1 h (by decide) (by decide) fun _ h => h
  | 2, _ => go3 25 d3_15_2 h (by decide) (by decide) fun _ h => h
  | k + 3, h => absurd h (by omega)
theorem s3_16 : On G3 mu3 S3_16 2 4 := fun k _ _ _ h hk => match k, hk with
  | 0, _ => go3 25 d3_16_0 h (by decide) (by decide) fun _ h => h
  | 1, _ => go3 25 d3_16_1 h (by decide) (by decide) fun _ h => h
  | k + 2, h => absurd h (by omega)
theorem s3_17 : On G3 mu3 S3_17 4 6 := fun k _ _ _ h hk => match k, hk with
  | 0, _ => go3 26 d3_17_0 h (by decide) (by decide) fun _ h => h
  | 1, _ => go3 26 d3_17_1 h (by decide) (by decide) fun _ h => h
  | 2, _ => go3 27 d3_17_2 h (by decide) (by decide) fun _ h => h
  | 3, _ => go3 27 d3_17_3 h (by decide) (by decide) fun _ h => h
  | k + 4, h => absurd h (by omega)
theorem s3_18 : On G3 mu3 S3_18 3 6 := fun k _ _ _ h hk => match k, hk with
  | 0, _ => go3 27 d3_18_0 h (by decide) (by decide) fun _ h => h
  | 1, _ => go3 27 d3_18_1 h (by decide) (by decide) fun _ h => h
  | 2, _ => go3 27 d3_18_2 h (by decide) (by decide) fun _ h => h
  | k + 3, h => absurd h (by omega)
theorem s3_19 : On G3 mu3 S3_19 5 8 := fun k _ _ _ h hk => match k, hk with
  | 0, _ => go3 28 d3_19_0 h (by decide) (by decide) fun _ h => h
  | 1, _ => go3 28 d3_19_1 h (by decide) (by decide) fun _ h => h
  | 2, _ => go3 28 d3_19_2 h (by decide) (by decide) fun _ h => h
  | 3, _ => go3 29 d3_19_3 h (by decide) (by decide) fun _ h => h
  | 4, _ => go3 29 d3_19_4 h (by decide) (by decide) fun _ h => h
  | k + 5, h => absurd h (by omega)
theorem s3_20 : On G3 mu3 S3_20 4 8 := fun k _ _ _ h hk => match k, hk with
  | 0, _ => go3 29 d3_20_0 h (by decide) (by decide) fun _ h => h
  | 1, _ => go3 29 d3_20_1 h (by decide) (by decide) fun _ h => h
  | 2, _ => go3 29 d3_20_2 h (by decide) (by decide) fun _ h => h
  | 3, _ => go3 29 d3_20_3 h (by decide) (by decide) fun _ h => h
  | k + 4, h => absurd h (by omega)
theorem s3_21 : On G3 mu3 S3_21 6 10 := fun k _ _ _ h hk => match k, hk with
  | 0, _ => go3 30 d3_21_0 h (by decide) (by decide) fun _ h => h
  | 1, _ => go3 30 d3_21_1 h (by decide) (by decide) fun _ h => h
  | 2, _ => go3 30 d3_21_2 h (by decide) (by decide) fun _ h => h
  | 3, _ => go3 30 d3_21_3 h (by decide) (by decide) fun _ h => h
  | 4, _ => go3 31 d3_21_4 h (by decide) (by decide) fun _ h => h
  | 5, _ => go3 31 d3_21_5 h (by decide) (by decide) fun _ h => h
  | k + 6, h => absurd h (by omega)
theorem s3_22 : On G3 mu3 S3_22 5 10 := fun k _ _ _ h hk => match k, hk with
  | 0, _ => go3 31 d3_22_0 h (by decide) (by decide) fun _ h => h
  | 1, _ => go3 31 d3_22_1 h (by decide) (by decide) fun _ h => h
  | 2, _ => go3 31 d3_22_2 h (by decide) (by decide) fun _ h => h
  | 3, _ => go3 31 d3_22_3 h (by decide) (by decide) fun _ h => h
  | 4, _ => go3 31 d3_22_4 h (by decide) (by decide) fun _ h => h
  | k + 5, h => absurd h (by omega)
theorem s3_23 : On G3 mu3 S3_23 1 1 := fun k _ _ _ h hk => match k, hk with
  | 0, _ => go3 32 d3_23_0 h (by decide) (by decide) fun _ h => h
  | k + 1, h => absurd h (by omega)
theorem s3_24 : On G3 mu3 S3_24 3 3 := fun k _ _ _ h hk => match k, hk with
  | 0, _ => go3 33 d3_24_0 h (by decide) (by decide) fun _ h => h
  | 1, _ => go3 33 d3_24_1 h (by decide) (by decide) fun _ h => h
  | 2, _ => go3 33 d3_24_2 h (by decide) (by decide) fun _ h => h
  | k + 3, h => absurd h (by omega)
theorem s3_25 : On G3 mu3 S3_25 2 3 := fun k _ _ _ h hk => match k, hk with
  | 0, _ => go3 33 d3_25_0 h (by decide) (by decide) fun _ h => h
  | 1, _ => go3 34 d3_25_1 h (by decide) (by decide) fun _ h => h
  | k + 2, h => absurd h (by omega)
theorem s3_26 : On G3 mu3 S3_26 4 5 := fun k _ _ _ h hk => match k, hk with
  | 0, _ => go3 35 d3_26_0 h (by decide) (by decide) fun _ h => h
  | 1, _ => go3 36 d3_26_1 h (by decide) (by decide) fun _ h => h
  | 2, _ => go3 36 d3_26_2 h (by decide) (by decide) fun _ h => h
  | 3, _ => go3 36 d3_26_3 h (by decide) (by decide) fun _ h => h
  | k + 4, h => absurd h (by omega)
theorem s3_27 : On G3 mu3 S3_27 3 5 := fun k _ _ _ h hk => match k, hk with
  | 0, _ => go3 36 d3_27_0 h (by decide) (by decide) fun _ h => h
  | 1, _ => go3 36 d3_27_1 h (by decide) (by decide) fun _ h => h
  | 2, _ => go3 37 d3_27_2 h (by decide) (by decide) fun _ h => h
  | k + 3, h => absurd h (by omega)
theorem s3_28 : On G3 mu3 S3_28 5 7 := fun k _ _ _ h hk => match k, hk with
  | 0, _ => go3 38 d3_28_0 h (by decide) (by decide) fun _ h => h
  | 1, _ => go3 38 d3_28_1 h (by decide) (by decide) fun _ h => h
  | 2, _ => go3 39 d3_28_2 h (by decide) (by decide) fun _ h => h
  | 3, _ => go3 39 d3_28_3 h (by decide) (by decide) fun _ h => h
  | 4, _ => go3 39 d3_28_4 h (by decide) (by decide) fun _ h => h
  | k + 5, h => absurd h (by omega)
theorem s3_29 : On G3 mu3 S3_29 4 7 := fun k _ _ _ h hk => match k, hk with
  | 0, _ => go3 39 d3_29_0 h (by decide) (by decide) fun _ h => h
  | 1, _ => go3 39 d3_29_1 h (by decide) (by decide) fun _ h => h
  | 2, _ => go3 39 d3_29_2 h (by decide) (by decide) fun _ h => h
  | 3, _ => go3 40 d3_29_3 h (by decide) (by decide) fun _ h => h
  | k + 4, h => absurd h (by omega)
theorem s3_30 : On G3 mu3 S3_30 6 9 := fun k _ _ _ h hk => match k, hk with
  | 0, _ => go3 41 d3_30_0 h (by decide) (by decide) fun _ h => h
  | 1, _ => go3 41 d3_30_1 h (by decide) (by decide) fun _ h => h
  | 2, _ => go3 41 d3_30_2 h (by decide) (by decide) fun _ h => h
  | 3, _ => go3 42 d3_30_3 h (by decide) (by decide) fun _ h => h
  | 4, _ => go3 42 d3_30_4 h (by decide) (by decide) fun _ h => h
  | 5, _ => go3 42 d3_30_5 h (by decide) (by decide) fun _ h => h
  | k + 6, h => absurd h (by omega)
theorem s3_31 : On G3 mu3 S3_31 5 9 := fun k _ _ _ h hk => match k, hk with
  | 0, _ => go3 42 d3_31_0 h (by decide) (by decide) fun _ h => h
  | 1, _ => go3 42 d3_31_1 h (by decide) (by decide) fun _ h => h
  | 2, _ => go3 42 d3_31_2 h (by decide) (by decide) fun _ h => h
  | 3, _ => go3 42 d3_31_3 h (by decide) (by decide) fun _ h => h
  | 4, _ => go3 43 d3_31_4 h (by decide) (by decide) fun _ h => h
  | k + 5, h => absurd h (by omega)
theorem s3_33 : On G3 mu3 S3_33 2 2 := fun k _ _ _ h hk => match k, hk with
  | 0, _ => go3 44 d3_33_0 h (by decide) (by decide) fun _ h => h
  | 1, _ => go3 44 d3_33_1 h (by decide) (by decide) fun _ h => h
  | k + 2, h => absurd h (by omega)
theorem s3_34 : On G3 mu3 S3_34 1 2 := fun k _ _ _ h hk => match k, hk with
  | 0, _ => go3 44 d3_34_0 h (by decide) (by decide) fun _ h => h
  | k + 1, h => absurd h (by omega)
theorem s3_35 : On G3 mu3 S3_35 4 4 := fun k _ _ _ h hk => match k, hk with
  | 0, _ => go3 45 d3_35_0 h (by decide) (by decide) fun _ h => h
  | 1, _ => go3 45 d3_35_1 h (by decide) (by decide) fun _ h => h
  | 2, _ => go3 45 d3_35_2 h (by decide) (by decide) fun _ h => h
  | 3, _ => go3 45 d3_35_3 h (by decide) (by decide) fun _ h => h
  | k + 4, h => absurd h (by omega)
theorem s3_36 : On G3 mu3 S3_36 3 4 := fun k _ _ _ h hk => match k, hk with
  | 0, _ => go3 45 d3_36_0 h (by decide) (by decide) fun _ h => h
  | 1, _ => go3 46 d3_36_1 h (by decide) (by decide) fun _ h => h
  | 2, _ => go3 46 d3_36_2 h (by decide) (by decide) fun _ h => h
  | k + 3, h => absurd h (by omega)
theorem s3_37 : On G3 mu3 S3_37 2 4 := fun k _ _ _ h hk => match k, hk with
  | 0, _ => go3 46 d3_37_0 h (by decide) (by decide) fun _ h => h
  | 1, _ => go3 46 d3_37_1 h (by decide) (by decide) fun _ h => h
  | k + 2, h => absurd h (by omega)
theorem s3_38 : On G3 mu3 S3_38 5 6 := fun k _ _ _ h hk => match k, hk with
  | 0, _ => go3 47 d3_38_0 h (by decide) (by decide) fun _ h => h
  | 1, _ => go3 48 d3_38_1 h (by decide) (by decide) fun _ h => h
  | 2, _ => go3 48 d3_38_2 h (by decide) (by decide) fun _ h => h
  | 3, _ => go3 48 d3_38_3 h (by decide) (by decide) fun _ h => h
  | 4, _ => go3 48 d3_38_4 h (by decide) (by decide) fun _ h => h
  | k + 5, h => absurd h (by omega)
theorem s3_39 : On G3 mu3 S3_39 4 6 := fun k _ _ _ h hk => match k, hk with
  | 0, _ => go3 48 d3_39_0 h (by decide) (by decide) fun _ h => h
  | 1, _ => go3 48 d3_39_1 h (by decide) (by decide) fun _ h => h
  | 2, _ => go3 49 d3_39_2 h (by decide) (by decide) fun _ h => h
  | 3, _ => go3 49 d3_39_3 h (by decide) (by decide) fun _ h => h
  | k + 4, h => absurd h (by omega)
theorem s3_40 : On G3 mu3 S3_40 3 6 := fun k _ _ _ h hk => match k, hk with
  | 0, _ => go3 49 d3_40_0 h (by decide) (by decide) fun _ h => h
  | 1, _ => go3 49 d3_40_1 h (by decide) (by decide) fun _ h => h
  | 2, _ => go3 49 d3_40_2 h (by decide) (by decide) fun _ h => h
  | k + 3, h => absurd h (by omega)
theorem s3_41 : On G3 mu3 S3_41 6 8 := fun k _ _ _ h hk => match k, hk with
  | 0, _ => go3 50 d3_41_0 h (by decide) (by decide) fun _ h => h
  | 1, _ => go3 50 d3_41_1 h (by decide) (by decide) fun _ h => h
  | 2, _ => go3 51 d3_41_2 h (by decide) (by decide) fun _ h => h
  | 3, _ => go3 51 d3_41_3 h (by decide) (by decide) fun _ h => h
  | 4, _ => go3 51 d3_41_4 h (by decide) (by decide) fun _ h => h
  | 5, _ => go3 51 d3_41_5 h (by decide) (by decide) fun _ h => h
  | k + 6, h => absurd h (by omega)
theorem s3_42 : On G3 mu3 S3_42 5 8 := fun k _ _ _ h hk => match k, hk with
  | 0, _ => go3 51 d3_42_0 h (by decide) (by decide) fun _ h => h
  | 1, _ => go3 51 d3_42_1 h (by decide) (by decide) fun _ h => h
  | 2, _ => go3 51 d3_42_2 h (by decide) (by decide) fun _ h => h
  | 3, _ => go3 52 d3_42_3 h (by decide) (by decide) fun _ h => h
  | 4, _ => go3 52 d3_42_4 h (by decide) (by decide) fun _ h => h
  | k + 5, h => absurd h (by omega)
theorem s3_43 : On G3 mu3 S3_43 4 8 := fun k _ _ _ h hk => match k, hk with
  | 0, _ => go3 52 d3_43_0 h (by decide) (by decide) fun _ h => h
  | 1, _ => go3 52 d3_43_1 h (by decide) (by decide) fun _ h => h
  | 2, _ => go3 52 d3_43_2 h (by decide) (by decide) fun _ h => h
  | 3, _ => go3 52 d3_43_3 h (by decide) (by decide) fun _ h => h
  | k + 4, h => absurd h (by omega)
theorem s3_44 : On G3 mu3 S3_44 1 1 := fun k _ _ _ h hk => match k, hk with
  | 0, _ => go3 53 d3_44_0 h (by decide) (by decide) fun _ h => h
  | k + 1, h => absurd h (by omega)
theorem s3_45 : On G3 mu3 S3_45 3 3 := fun k _ _ _ h hk => match k, hk with
  | 0, _ => go3 54 d3_45_0 h (by decide) (by decide) fun _ h => h
  | 1, _ => go3 54 d3_45_1 h (by decide) (by decide) fun _ h => h
  | 2, _ => go3 54 d3_45_2 h (by decide) (by decide) fun _ h => h
  | k + 3, h => absurd h (by omega)
theorem s3_46 : On G3 mu3 S3_46 2 3 := fun k _ _ _ h hk => match k, hk with
  | 0, _ => go3 54 d3_46_0 h (by decide) (by decide) fun _ h => h
  | 1, _ => go3 55 d3_46_1 h (by decide) (by decide) fun _ h => h
  | k + 2, h => absurd h (by omega)
theorem s3_47 : On G3 mu3 S3_47 5 5 := fun k _ _ _ h hk => match k, hk with
  | 0, _ => go3 56 d3_47_0 h (by decide) (by decide) fun _ h => h
  | 1, _ => go3 56 d3_47_1 h (by decide) (by decide) fun _ h => h
  | 2, _ => go3 56 d3_47_2 h (by decide) (by decide) fun _ h => h
  | 3, _ => go3 56 d3_47_3 h (by decide) (by decide) fun _ h => h
  | 4, _ => go3 56 d3_47_4 h (by decide) (by decide) fun _ h => h
  | k + 5, h => absurd h (by omega)
theorem s3_48 : On G3 mu3 S3_48 4 5 := fun k _ _ _ h hk => match k, hk with
  | 0, _ => go3 56 d3_48_0 h (by decide) (by decide) fun _ h => h
  | 1, _ => go3 57 d3_48_1 h (by decide) (by decide) fun _ h => h
  | 2, _ => go3 57 d3_48_2 h (by decide) (by decide) fun _ h => h
  | 3, _ => go3 57 d3_48_3 h (by decide) (by decide) fun _ h => h
  | k + 4, h => absurd h (by omega)
theorem s3_49 : On G3 mu3 S3_49 3 5 := fun k _ _ _ h hk => match k, hk with
  | 0, _ => go3 57 d3_49_0 h (by decide) (by decide) fun _ h => h
  | 1, _ => go3 57 d3_49_1 h (by decide) (by decide) fun _ h => h
  | 2, _ => go3 58 d3_49_2 h (by decide) (by decide) fun _ h => h
  | k + 3, h => absurd h (by omega)
theorem s3_50 : On G3 mu3 S3_50 6 7 := fun k _ _ _ h hk => match k, hk with
  | 0, _ => go3 59 d3_50_0 h (by decide) (by decide) fun _ h => h
  | 1, _ => go3 60 d3_50_1 h (by decide) (by decide) fun _ h => h
  | 2, _ => go3 60 d3_50_2 h (by decide) (by decide) fun _ h => h
  | 3, _ => go3 60 d3_50_3 h (by decide) (by decide) fun _ h => h
  | 4, _ => go3 60 d3_50_4 h (by decide) (by decide) fun _ h => h
  | 5, _ => go3 60 d3_50_5 h (by decide) (by decide) fun _ h => h
  | k + 6, h => absurd h (by omega)
theorem s3_51 : On G3 mu3 S3_51 5 7 := fun k _ _ _ h hk => match k, hk with
  | 0, _ => go3 60 d3_51_0 h (by decide) (by decide) fun _ h => h
  | 1, _ => go3 60 d3_51_1 h (by decide) (by decide) fun _ h => h
  | 2, _ => go3 61 d3_51_2 h (by decide) (by decide) fun _ h => h
  | 3, _ => go3 61 d3_51_3 h (by decide) (by decide) fun _ h => h
  | 4, _ => go3 61 d3_51_4 h (by decide) (by decide) fun _ h => h
  | k + 5, h => absurd h (by omega)
theorem s3_52 : On G3 mu3 S3_52 4 7 := fun k _ _ _ h hk => match k, hk with
  | 0, _ => go3 61 d3_52_0 h (by decide) (by decide) fun _ h => h
  | 1, _ => go3 61 d3_52_1 h (by decide) (by decide) fun _ h => h
  | 2, _ => go3 61 d3_52_2 h (by decide) (by decide) fun _ h => h
  | 3, _ => go3 62 d3_52_3 h (by decide) (by decide) fun _ h => h
  | k + 4, h => absurd h (by omega)
theorem s3_54 : On G3 mu3 S3_54 2 2 := fun k _ _ _ h hk => match k, hk with
  | 0, _ => go3 63 d3_54_0 h (by decide) (by decide) fun _ h => h
  | 1, _ => go3 63 d3_54_1 h (by decide) (by decide) fun _ h => h
  | k + 2, h => absurd h (by omega)
theorem s3_55 : On G3 mu3 S3_55 1 2 := fun k _ _ _ h hk => match k, hk with
  | 0, _ => go3 63 d3_55_0 h (by decide) (by decide) fun _ h => h
  | k + 1, h => absurd h (by omega)
theorem s3_56 : On G3 mu3 S3_56 4 4 := fun k _ _ _ h hk => match k, hk with
  | 0, _ => go3 64 d3_56_0 h (by decide) (by decide) fun _ h => h
  | 1, _ => go3 64 d3_56_1 h (by decide) (by decide) fun _ h => h
  | 2, _ => go3 64 d3_56_2 h (by decide) (by decide) fun _ h => h
  | 3, _ => go3 64 d3_56_3 h (by decide) (by decide) fun _ h => h
  | k + 4, h => absurd h (by omega)
theorem s3_57 : On G3 mu3 S3_57 3 4 := fun k _ _ _ h hk => match k, hk with
  | 0, _ => go3 64 d3_57_0 h (by decide) (by decide) fun _ h => h
  | 1, _ => go3 65 d3_57_1 h (by decide) (by decide) fun _ h => h
  | 2, _ => go3 65 d3_57_2 h (by decide) (by decide) fun _ h => h
  | k + 3, h => absurd h (by omega)
theorem s3_58 : On G3 mu3 S3_58 2 4 := fun k _ _ _ h hk => match k, hk with
  | 0, _ => go3 65 d3_58_0 h (by decide) (by decide) fun _ h => h
  | 1, _ => go3 65 d3_58_1 h (by decide) (by decide) fun _ h => h
  | k + 2, h => absurd h (by omega)
theorem s3_59 : On G3 mu3 S3_59 6 6 := fun k _ _ _ h hk => match k, hk with
  | 0, _ => go3 66 d3_59_0 h (by decide) (by decide) fun _ h => h
  | 1, _ => go3 66 d3_59_1 h (by decide) (by decide) fun _ h => h
  | 2, _ => go3 66 d3_59_2 h (by decide) (by decide) fun _ h => h
  | 3, _ => go3 66 d3_59_3 h (by decide) (by decide) fun _ h => h
  | 4, _ => go3 66 d3_59_4 h (by decide) (by decide) fun _ h => h
  | 5, _ => go3 66 d3_59_5 h (by decide) (by decide) fun _ h => h
  | k + 6, h => absurd h (by omega)
theorem s3_60 : On G3 mu3 S3_60 5 6 := fun k _ _ _ h hk => match k, hk with
  | 0, _ => go3 66 d3_60_0 h (by decide) (by decide) fun _ h => h
  | 1, _ => go3 67 d3_60_1 h (by decide) (by decide) fun _ h => h
  | 2, _ => go3 67 d3_60_2 h (by decide) (by decide) fun _ h => h
  | 3, _ => go3 67 d3_60_3 h (by decide) (by decide) fun _ h => h
  | 4, _ => go3 67 d3_60_4 h (by decide) (by decide) fun _ h => h
  | k + 5, h => absurd h (by omega)
theorem s3_61 : On G3 mu3 S3_61 4 6 := fun k _ _ _ h hk => match k, hk with
  | 0, _ => go3 67 d3_61_0 h (by decide) (by decide) fun _ h => h
  | 1, _ => go3 67 d3_61_1 h (by decide) (by decide) fun _ h => h
  | 2, _ => go3 68 d3_61_2 h (by decide) (by decide) fun _ h => h
  | 3, _ => go3 68 d3_61_3 h (by decide) (by decide) fun _ h => h
  | k + 4, h => absurd h (by omega)
theorem s3_62 : On G3 mu3 S3_62 3 6 := fun k _ _ _ h hk => match k, hk with
  | 0, _ => go3 68 d3_62_0 h (by decide) (by decide) fun _ h => h
  | 1, _ => go3 68 d3_62_1 h (by decide) (by decide) fun _ h => h
  | 2, _ => go3 68 d3_62_2 h (by decide) (by decide) fun _ h => h
  | k + 3, h => absurd h (by omega)
theorem s3_63 : On G3 mu3 S3_63 1 1 := fun k _ _ _ h hk => match k, hk with
  | 0, _ => go3 69 d3_63_0 h (by decide) (by decide) fun _ h => h
  | k + 1, h => absurd h (by omega)
theorem s3_64 : On G3 mu3 S3_64 3 3 := fun k _ _ _ h hk => match k, hk with
  | 0, _ => go3 70 d3_64_0 h (by decide) (by decide) fun _ h => h
  | 1, _ => go3 70 d3_64_1 h (by decide) (by decide) fun _ h => h
  | 2, _ => go3 70 d3_64_2 h (by decide) (by decide) fun _ h => h
  | k + 3, h => absurd h (by omega)
theorem s3_65 : On G3 mu3 S3_65 2 3 := fun k _ _ _ h hk => match k, hk with
  | 0, _ => go3 70 d3_65_0 h (by decide) (by decide) fun _ h => h
  | 1, _ => go3 71 d3_65_1 h (by decide) (by decide) fun _ h => h
  | k + 2, h => absurd h (by omega)
theorem s3_66 : On G3 mu3 S3_66 5 5 := fun k _ _ _ h hk => match k, hk with
  | 0, _ => go3 72 d3_66_0 h (by decide) (by decide) fun _ h => h
  | 1, _ => go3 72 d3_66_1 h (by decide) (by decide) fun _ h => h
  | 2, _ => go3 72 d3_66_2 h (by decide) (by decide) fun _ h => h
  | 3, _ => go3 72 d3_66_3 h (by decide) (by decide) fun _ h => h
  | 4, _ => go3 72 d3_66_4 h (by decide) (by decide) fun _ h => h
  | k + 5, h => absurd h (by omega)
theorem s3_67 : On G3 mu3 S3_67 4 5 := fun k _ _ _ h hk => match k, hk with
  | 0, _ => go3 72 d3_67_0 h (by decide) (by decide) fun _ h => h
  | 1, _ => go3 73 d3_67_1 h (by decide) (by decide) fun _ h => h
  | 2, _ => go3 73 d3_67_2 h (by decide) (by decide) fun _ h => h
  | 3, _ => go3 73 d3_67_3 h (by decide) (by decide) fun _ h => h
  | k + 4, h => absurd h (by omega)
theorem s3_68 : On G3 mu3 S3_68 3 5 := fun k _ _ _ h hk => match k, hk with
  | 0, _ => go3 73 d3_68_0 h (by decide) (by decide) fun _ h => h
  | 1, _ => go3 73 d3_68_1 h (by decide) (by decide) fun _ h => h
  | 2, _ => go3 74 d3_68_2 h (by decide) (by decide) fun _ h => h
  | k + 3, h => absurd h (by omega)
theorem s3_70 : On G3 mu3 S3_70 2 2 := fun k _ _ _ h hk => match k, hk with
  | 0, _ => go3 75 d3_70_0 h (by decide) (by decide) fun _ h => h
  | 1, _ => go3 75 d3_70_1 h (by decide) (by decide) fun _ h => h
  | k + 2, h => absurd h (by omega)
theorem s3_71 : On G3 mu3 S3_71 1 2 := fun k _ _ _ h hk => match k, hk with
  | 0, _ => go3 75 d3_71_0 h (by decide) (by decide) fun _ h => h
  | k + 1, h => absurd h (by omega)
theorem s3_72 : On G3 mu3 S3_72 4 4 := fun k _ _ _ h hk => match k, hk with
  | 0, _ => go3 76 d3_72_0 h (by decide) (by decide) fun _ h => h
  | 1, _ => go3 76 d3_72_1 h (by decide) (by decide) fun _ h => h
  | 2, _ => go3 76 d3_72_2 h (by decide) (by decide) fun _ h => h
  | 3, _ => go3 76 d3_72_3 h (by decide) (by decide) fun _ h => h
  | k + 4, h => absurd h (by omega)
theorem s3_73 : On G3 mu3 S3_73 3 4 := fun k _ _ _ h hk => match k, hk with
  | 0, _ => go3 76 d3_73_0 h (by decide) (by decide) fun _ h => h
  | 1, _ => go3 77 d3_73_1 h (by decide) (by decide) fun _ h => h
  | 2, _ => go3 77 d3_73_2 h (by decide) (by decide) fun _ h => h
  | k + 3, h => absurd h (by omega)
theorem s3_74 : On G3 mu3 S3_74 2 4 := fun k _ _ _ h hk => match k, hk with
  | 0, _ => go3 77 d3_74_0 h (by decide) (by decide) fun _ h => h
  | 1, _ => go3 77 d3_74_1 h (by decide) (by decide) fun _ h => h
  | k + 2, h => absurd h (by omega)
theorem s3_75 : On G3 mu3 S3_75 1 1 := fun k _ _ _ h hk => match k, hk with
  | 0, _ => go3 78 d3_75_0 h (by decide) (by decide) fun _ h => h
  | k + 1, h => absurd h (by omega)
theorem s3_76 : On G3 mu3 S3_76 3 3 := fun k _ _ _ h hk => match k, hk with
  | 0, _ => go3 79 d3_76_0 h (by decide) (by decide) fun _ h => h
  | 1, _ => go3 79 d3_76_1 h (by decide) (by decide) fun _ h => h
  | 2, _ => go3 79 d3_76_2 h (by decide) (by decide) fun _ h => h
  | k + 3, h => absurd h (by omega)
theorem s3_77 : On G3 mu3 S3_77 2 3 := fun k _ _ _ h hk => match k, hk with
  | 0, _ => go3 79 d3_77_0 h (by decide) (by decide) fun _ h => h
  | 1, _ => go3 80 d3_77_1 h (by decide) (by decide) fun _ h => h
  | k + 2, h => absurd h (by omega)
theorem s3_79 : On G3 mu3 S3_79 2 2 := fun k _ _ _ h hk => match k, hk with
  | 0, _ => go3 81 d3_79_0 h (by decide) (by decide) fun _ h => h
  | 1, _ => go3 81 d3_79_1 h (by decide) (by decide) fun _ h => h
  | k + 2, h => absurd h (by omega)
theorem s3_80 : On G3 mu3 S3_80 1 2 := fun k _ _ _ h hk => match k, hk with
  | 0, _ => go3 81 d3_80_0 h (by decide) (by decide) fun _ h => h
  | k + 1, h => absurd h (by omega)
theorem s3_81 : On G3 mu3 S3_81 1 1 := fun k _ _ _ h hk => match k, hk with
  | 0, _ => go3 82 d3_81_0 h (by decide) (by decide) fun _ h => h
  | k + 1, h => absurd h (by omega)
theorem step3 (s k : Nat) (w0 : World) (u : Value) (w : World) (h : G3 s w0 u w) (hs : s < 83) (hk : k < und3 s) : Calls Tryz.prog 11 #[u, .int .i64 (k : Int)] w fun e w' => e = .returned (.bool true) ∧ ∃ t, t < 83 ∧ mu3 t < mu3 s ∧ G3 t w0 u w' := match s, hs, h, hk with
  | 0, _, h, hk => s3_0 k w0 u w h hk
  | 1, _, h, hk => s3_1 k w0 u w h hk
  | 2, _, h, hk => s3_2 k w0 u w h hk
  | 3, _, h, hk => s3_3 k w0 u w h hk
  | 4, _, h, hk => s3_4 k w0 u w h hk
  | 5, _, h, hk => s3_5 k w0 u w h hk
  | 6, _, h, hk => s3_6 k w0 u w h hk
  | 7, _, h, hk => s3_7 k w0 u w h hk
  | 8, _, h, hk => s3_8 k w0 u w h hk
  | 9, _, h, hk => s3_9 k w0 u w h hk
  | 10, _, h, hk => s3_10 k w0 u w h hk
  | 11, _, h, hk => s3_11 k w0 u w h hk
  | 12, _, h, hk => absurd hk (Nat.not_lt_zero k)
  | 13, _, h, hk => s3_13 k w0 u w h hk
  | 14, _, h, hk => s3_14 k w0 u w h hk
  | 15, _, h, hk => s3_15 k w0 u w h hk
  | 16, _, h, hk => s3_16 k w0 u w h hk
  | 17, _, h, hk => s3_17 k w0 u w h hk
  | 18, _, h, hk => s3_18 k w0 u w h hk
  | 19, _, h, hk => s3_19 k w0 u w h hk
  | 20, _, h, hk => s3_20 k w0 u w h hk
  | 21, _, h, hk => s3_21 k w0 u w h hk
  | 22, _, h, hk => s3_22 k w0 u w h hk
  | 23, _, h, hk => s3_23 k w0 u w h hk
  | 24, _, h, hk => s3_24 k w0 u w h hk
  | 25, _, h, hk => s3_25 k w0 u w h hk
  | 26, _, h, hk => s3_26 k w0 u w h hk
  | 27, _, h, hk => s3_27 k w0 u w h hk
  | 28, _, h, hk => s3_28 k w0 u w h hk
  | 29, _, h, hk => s3_29 k w0 u w h hk
  | 30, _, h, hk => s3_30 k w0 u w h hk
  | 31, _, h, hk => s3_31 k w0 u w h hk
  | 32, _, h, hk => absurd hk (Nat.not_lt_zero k)
  | 33, _, h, hk => s3_33 k w0 u w h hk
  | 34, _, h, hk => s3_34 k w0 u w h hk
  | 35, _, h, hk => s3_35 k w0 u w h hk
  | 36, _, h, hk => s3_36 k w0 u w h hk
  | 37, _, h, hk => s3_37 k w0 u w h hk
  | 38, _, h, hk => s3_38 k w0 u w h hk
  | 39, _, h, hk => s3_39 k w0 u w h hk
  | 40, _, h, hk => s3_40 k w0 u w h hk
  | 41, _, h, hk => s3_41 k w0 u w h hk
  | 42, _, h, hk => s3_42 k w0 u w h hk
  | 43, _, h, hk => s3_43 k w0 u w h hk
  | 44, _, h, hk => s3_44 k w0 u w h hk
  | 45, _, h, hk => s3_45 k w0 u w h hk
  | 46, _, h, hk => s3_46 k w0 u w h hk
  | 47, _, h, hk => s3_47 k w0 u w h hk
  | 48, _, h, hk => s3_48 k w0 u w h hk
  | 49, _, h, hk => s3_49 k w0 u w h hk
  | 50, _, h, hk => s3_50 k w0 u w h hk
  | 51, _, h, hk => s3_51 k w0 u w h hk
  | 52, _, h, hk => s3_52 k w0 u w h hk
  | 53, _, h, hk => absurd hk (Nat.not_lt_zero k)
  | 54, _, h, hk => s3_54 k w0 u w h hk
  | 55, _, h, hk => s3_55 k w0 u w h hk
  | 56, _, h, hk => s3_56 k w0 u w h hk
  | 57, _, h, hk => s3_57 k w0 u w h hk
  | 58, _, h, hk => s3_58 k w0 u w h hk
  | 59, _, h, hk => s3_59 k w0 u w h hk
  | 60, _, h, hk => s3_60 k w0 u w h hk
  | 61, _, h, hk => s3_61 k w0 u w h hk
  | 62, _, h, hk => s3_62 k w0 u w h hk
  | 63, _, h, hk => s3_63 k w0 u w h hk
  | 64, _, h, hk => s3_64 k w0 u w h hk
  | 65, _, h, hk => s3_65 k w0 u w h hk
  | 66, _, h, hk => s3_66 k w0 u w h hk
  | 67, _, h, hk => s3_67 k w0 u w h hk
  | 68, _, h, hk => s3_68 k w0 u w h hk
  | 69, _, h, hk => absurd hk (Nat.not_lt_zero k)
  | 70, _, h, hk => s3_70 k w0 u w h hk
  | 71, _, h, hk => s3_71 k w0 u w h hk
  | 72, _, h, hk => s3_72 k w0 u w h hk
  | 73, _, h, hk => s3_73 k w0 u w h hk
  | 74, _, h, hk => s3_74 k w0 u w h hk
  | 75, _, h, hk => s3_75 k w0 u w h hk
  | 76, _, h, hk => s3_76 k w0 u w h hk
  | 77, _, h, hk => s3_77 k w0 u w h hk
  | 78, _, h, hk => absurd hk (Nat.not_lt_zero k)
  | 79, _, h, hk => s3_79 k w0 u w h hk
  | 80, _, h, hk => s3_80 k w0 u w h hk
  | 81, _, h, hk => s3_81 k w0 u w h hk
  | 82, _, h, hk => absurd hk (Nat.not_lt_zero k)
  | s + 83, h, _, _ => absurd h (by omega)
theorem un3 (s : Nat) (w0 : World) (u : Value) (w : World) (h : G3 s w0 u w) (hs : s < 83) : Calls Tryz.prog 10 #[u] w fun e w' => e = .returned (.int .i64 (und3 s : Int)) ∧ w' = w := match s, hs, h with
  | 0, _, h => under_calls u3_0 h
  | 1, _, h => under_calls u3_1 h
  | 2, _, h => under_calls u3_2 h
  | 3, _, h => under_calls u3_3 h
  | 4, _, h => under_calls u3_4 h
  | 5, _, h => under_calls u3_5 h
  | 6, _, h => under_calls u3_6 h
  | 7, _, h => under_calls u3_7 h
  | 8, _, h => under_calls u3_8 h
  | 9, _, h => under_calls u3_9 h
  | 10, _, h => under_calls u3_10 h
  | 11, _, h => under_calls u3_11 h
  | 12, _, h => under_calls u3_12 h
  | 13, _, h => under_calls u3_13 h
  | 14, _, h => under_calls u3_14 h
  | 15, _, h => under_calls u3_15 h
  | 16, _, h => under_calls u3_16 h
  | 17, _, h => under_calls u3_17 h
  | 18, _, h => under_calls u3_18 h
  | 19, _, h => under_calls u3_19 h
  | 20, _, h => under_calls u3_20 h
  | 21, _, h => under_calls u3_21 h
  | 22, _, h => under_calls u3_22 h
  | 23, _, h => under_calls u3_23 h
  | 24, _, h => under_calls u3_24 h
  | 25, _, h => under_calls u3_25 h
  | 26, _, h => under_calls u3_26 h
  | 27, _, h => under_calls u3_27 h
  | 28, _, h => under_calls u3_28 h
  | 29, _, h => under_calls u3_29 h
  | 30, _, h => under_calls u3_30 h
  | 31, _, h => under_calls u3_31 h
  | 32, _, h => under_calls u3_32 h
  | 33, _, h => under_calls u3_33 h
  | 34, _, h => under_calls u3_34 h
  | 35, _, h => under_calls u3_35 h
  | 36, _, h => under_calls u3_36 h
  | 37, _, h => under_calls u3_37 h
  | 38, _, h => under_calls u3_38 h
  | 39, _, h => under_calls u3_39 h
  | 40, _, h => under_calls u3_40 h
  | 41, _, h => under_calls u3_41 h
  | 42, _, h => under_calls u3_42 h
  | 43, _, h => under_calls u3_43 h
  | 44, _, h => under_calls u3_44 h
  | 45, _, h => under_calls u3_45 h
  | 46, _, h => under_calls u3_46 h
  | 47, _, h => under_calls u3_47 h
  | 48, _, h => under_calls u3_48 h
  | 49, _, h => under_calls u3_49 h
  | 50, _, h => under_calls u3_50 h
  | 51, _, h => under_calls u3_51 h
  | 52, _, h => under_calls u3_52 h
  | 53, _, h => under_calls u3_53 h
  | 54, _, h => under_calls u3_54 h
  | 55, _, h => under_calls u3_55 h
  | 56, _, h => under_calls u3_56 h
  | 57, _, h => under_calls u3_57 h
  | 58, _, h => under_calls u3_58 h
  | 59, _, h => under_calls u3_59 h
  | 60, _, h => under_calls u3_60 h
  | 61, _, h => under_calls u3_61 h
  | 62, _, h => under_calls u3_62 h
  | 63, _, h => under_calls u3_63 h
  | 64, _, h => under_calls u3_64 h
  | 65, _, h => under_calls u3_65 h
  | 66, _, h => under_calls u3_66 h
  | 67, _, h => under_calls u3_67 h
  | 68, _, h => under_calls u3_68 h
  | 69, _, h => under_calls u3_69 h
  | 70, _, h => under_calls u3_70 h
  | 71, _, h => under_calls u3_71 h
  | 72, _, h => under_calls u3_72 h
  | 73, _, h => under_calls u3_73 h
  | 74, _, h => under_calls u3_74 h
  | 75, _, h => under_calls u3_75 h
  | 76, _, h => under_calls u3_76 h
  | 77, _, h => under_calls u3_77 h
  | 78, _, h => under_calls u3_78 h
  | 79, _, h => under_calls u3_79 h
  | 80, _, h => under_calls u3_80 h
  | 81, _, h => under_calls u3_81 h
  | 82, _, h => under_calls u3_82 h
  | s + 83, h, _ => absurd h (by omega)
theorem ta3 (s : Nat) (w0 : World) (u : Value) (w : World) (a : Act) (h : G3 s w0 u w) (hs : s < 83) (h0 : und3 s = 0) (q0 : a.tmps.getD 0 undef = numV 3) (q7 : a.tmps.getD 7 undef = u) (hsz : Tryz.f3.ntmps ≤ a.tmps.size) (hd : a.defers = []) : tailC.wp Tryz.prog (bodyPost Tryz.prog Tryz.f3 fun e w' => e = .returned (.bool true) ∧ Below w0.heap.size w0 w') a w := match s, hs, h, h0 with
  | 0, _, h, h0 => absurd h0 (by decide)
  | 1, _, h, h0 => absurd h0 (by decide)
  | 2, _, h, h0 => absurd h0 (by decide)
  | 3, _, h, h0 => absurd h0 (by decide)
  | 4, _, h, h0 => absurd h0 (by decide)
  | 5, _, h, h0 => absurd h0 (by decide)
  | 6, _, h, h0 => absurd h0 (by decide)
  | 7, _, h, h0 => absurd h0 (by decide)
  | 8, _, h, h0 => absurd h0 (by decide)
  | 9, _, h, h0 => absurd h0 (by decide)
  | 10, _, h, h0 => absurd h0 (by decide)
  | 11, _, h, h0 => absurd h0 (by decide)
  | 12, _, h, h0 => tail_wp t3_12 h q0 q7 hsz hd
  | 13, _, h, h0 => absurd h0 (by decide)
  | 14, _, h, h0 => absurd h0 (by decide)
  | 15, _, h, h0 => absurd h0 (by decide)
  | 16, _, h, h0 => absurd h0 (by decide)
  | 17, _, h, h0 => absurd h0 (by decide)
  | 18, _, h, h0 => absurd h0 (by decide)
  | 19, _, h, h0 => absurd h0 (by decide)
  | 20, _, h, h0 => absurd h0 (by decide)
  | 21, _, h, h0 => absurd h0 (by decide)
  | 22, _, h, h0 => absurd h0 (by decide)
  | 23, _, h, h0 => absurd h0 (by decide)
  | 24, _, h, h0 => absurd h0 (by decide)
  | 25, _, h, h0 => absurd h0 (by decide)
  | 26, _, h, h0 => absurd h0 (by decide)
  | 27, _, h, h0 => absurd h0 (by decide)
  | 28, _, h, h0 => absurd h0 (by decide)
  | 29, _, h, h0 => absurd h0 (by decide)
  | 30, _, h, h0 => absurd h0 (by decide)
  | 31, _, h, h0 => absurd h0 (by decide)
  | 32, _, h, h0 => tail_wp t3_32 h q0 q7 hsz hd
  | 33, _, h, h0 => absurd h0 (by decide)
  | 34, _, h, h0 => absurd h0 (by decide)
  | 35, _, h, h0 => absurd h0 (by decide)
  | 36, _, h, h0 => absurd h0 (by decide)
  | 37, _, h, h0 => absurd h0 (by decide)
  | 38, _, h, h0 => absurd h0 (by decide)
  | 39, _, h, h0 => absurd h0 (by decide)
  | 40, _, h, h0 => absurd h0 (by decide)
  | 41, _, h, h0 => absurd h0 (by decide)
  | 42, _, h, h0 => absurd h0 (by decide)
  | 43, _, h, h0 => absurd h0 (by decide)
  | 44, _, h, h0 => absurd h0 (by decide)
  | 45, _, h, h0 => absurd h0 (by decide)
  | 46, _, h, h0 => absurd h0 (by decide)
  | 47, _, h, h0 => absurd h0 (by decide)
  | 48, _, h, h0 => absurd h0 (by decide)
  | 49, _, h, h0 => absurd h0 (by decide)
  | 50, _, h, h0 => absurd h0 (by decide)
  | 51, _, h, h0 => absurd h0 (by decide)
  | 52, _, h, h0 => absurd h0 (by decide)
  | 53, _, h, h0 => tail_wp t3_53 h q0 q7 hsz hd
  | 54, _, h, h0 => absurd h0 (by decide)
  | 55, _, h, h0 => absurd h0 (by decide)
  | 56, _, h, h0 => absurd h0 (by decide)
  | 57, _, h, h0 => absurd h0 (by decide)
  | 58, _, h, h0 => absurd h0 (by decide)
  | 59, _, h, h0 => absurd h0 (by decide)
  | 60, _, h, h0 => absurd h0 (by decide)
  | 61, _, h, h0 => absurd h0 (by decide)
  | 62, _, h, h0 => absurd h0 (by decide)
  | 63, _, h, h0 => absurd h0 (by decide)
  | 64, _, h, h0 => absurd h0 (by decide)
  | 65, _, h, h0 => absurd h0 (by decide)
  | 66, _, h, h0 => absurd h0 (by decide)
  | 67, _, h, h0 => absurd h0 (by decide)
  | 68, _, h, h0 => absurd h0 (by decide)
  | 69, _, h, h0 => tail_wp t3_69 h q0 q7 hsz hd
  | 70, _, h, h0 => absurd h0 (by decide)
  | 71, _, h, h0 => absurd h0 (by decide)
  | 72, _, h, h0 => absurd h0 (by decide)
  | 73, _, h, h0 => absurd h0 (by decide)
  | 74, _, h, h0 => absurd h0 (by decide)
  | 75, _, h, h0 => absurd h0 (by decide)
  | 76, _, h, h0 => absurd h0 (by decide)
  | 77, _, h, h0 => absurd h0 (by decide)
  | 78, _, h, h0 => tail_wp t3_78 h q0 q7 hsz hd
  | 79, _, h, h0 => absurd h0 (by decide)
  | 80, _, h, h0 => absurd h0 (by decide)
  | 81, _, h, h0 => absurd h0 (by decide)
  | 82, _, h, h0 => tail_wp t3_82 h q0 q7 hsz hd
  | s + 83, h, _, _ => absurd h (by omega)
theorem be3 (s : Nat) (w0 : World) (u : Value) (w : World) (h : G3 s w0 u w) : Below w0.heap.size w0 w ∧ G3 s w0 u w.drew := by
  unfold G3 at h ⊢
  split at h
  all_goals first
    | exact ⟨h.below, h.drew⟩
    | exact h.elim
theorem sen3 (s : Nat) (w0 : World) (u : Value) (w : World) (h : G3 s w0 u w) (hs : s < 5) : Calls Tryz.prog 9 #[u, .int .i64 0, .int .i64 0] w fun e w' => e = .returned (.bool true) ∧ G3 (s + 1) w0 u w' := match s, hs, h with
  | 0, _, h => call2v se3_1 rfl rfl rfl h
  | 1, _, h => call2v se3_2 rfl rfl rfl h
  | 2, _, h => call2v se3_3 rfl rfl rfl h
  | 3, _, h => call2v se3_4 rfl rfl rfl h
  | 4, _, h => call2v se3_5 rfl rfl rfl h
  | s + 5, h, _ => absurd h (by omega)
theorem law3 (x : Int) (a1 a2 : Option Addr) (n1 n2 c1 c2 : Nat) (w : World) (hx : 1 + x % 4 = (3 : Nat)) (hcell : ∀ i, i < n2 → ∃ ad z, a2 = some ad ∧ w.cell? (ad.add i) = some (.int .i64 z)) :
    Calls Tryz.prog 3 #[.int .i64 x, .slice a1 n1 c1, .slice a2 n2 c2] w fun e w' => e = .returned (.bool true) ∧ Below w.heap.size w w' :=
  walk_a (D := DS) (E := ES) (S := G3) (und := und3) (mu := mu3) 3 x a1 a2 n1 n2 c1 c2 w (by decide) (by decide) hx known_calls
    (fun w0 w hb => (ready_calls w).mono fun e w' ⟨u, h1, h2⟩ => ⟨u, h1, h2.base hb⟩)
    (fun x n w h1 h2 => within_calls x n h1 h2 w) edge_c do_c
    (fun w0 u w h => call2v se3_0 rfl rfl rfl h)
    (fun s w0 u w h hs => sen3 s w0 u w h hs)
    (fun s w0 u w h hs => un3 s w0 u w h hs)
    (by decide)
    (fun s w0 u w h => (be3 s w0 u w h).1) (fun s w0 u w h => (be3 s w0 u w h).2) hcell
    (fun s k w0 u w h hs hk => step3 s k w0 u w h hs hk)
    (by decide) (by decide)
    (fun s w0 u wr a c hc h hs h0 hsz hd q0 q7 => by
      subst hc
      exact ta3 s w0 u wr a h hs h0 q0 q7 (by rw [hsz]; decide) hd)

end Go.Proofs.YtaceajadklmddaaGreat
