/- The law WorldTwice: 4 operations. -/
import Derived.Test.YtaceajadklmddaaGreatWk
import Derived.Test.YtaceajadklmddaaGreatGa
import Derived.Test.YtaceajadklmddaaGreatY14
import Derived.Test.YtaceajadklmddaaGreatY15
import Derived.Test.YtaceajadklmddaaGreatY16
import Derived.Test.YtaceajadklmddaaGreatY17
import Derived.Test.YtaceajadklmddaaGreatY18
import Derived.Test.YtaceajadklmddaaGreatY19
import Derived.Test.YtaceajadklmddaaGreatY20
namespace Go.Proofs.YtaceajadklmddaaGreat
open Go Go.Cx Go.RowKit

def und4 : Nat → Nat := fun s => match s with | 0 => 1 | 1 => 2 | 2 => 3 | 3 => 4 | 4 => 5 | 5 => 6 | 6 => 1 | 7 => 2 | 8 => 3 | 9 => 4 | 10 => 5 | 11 => 6 | 12 => 0 | 13 => 2 | 14 => 1 | 15 => 3 | 16 => 2 | 17 => 4 | 18 => 3 | 19 => 5 | 20 => 4 | 21 => 6 | 22 => 5 | 23 => 1 | 24 => 3 | 25 => 2 | 26 => 4 | 27 => 3 | 28 => 5 | 29 => 4 | 30 => 6 | 31 => 5 | 32 => 0 | 33 => 2 | 34 => 1 | 35 => 4 | 36 => 3 | 37 => 2 | 38 => 5 | 39 => 4 | 40 => 3 | 41 => 6 | 42 => 5 | 43 => 4 | 44 => 1 | 45 => 3 | 46 => 2 | 47 => 5 | 48 => 4 | 49 => 3 | 50 => 6 | 51 => 5 | 52 => 4 | 53 => 0 | 54 => 2 | 55 => 1 | 56 => 4 | 57 => 3 | 58 => 2 | 59 => 6 | 60 => 5 | 61 => 4 | 62 => 3 | 63 => 1 | 64 => 3 | 65 => 2 | 66 => 5 | 67 => 4 | 68 => 3 | 69 => 0 | 70 => 2 | 71 => 1 | 72 => 4 | 73 => 3 | 74 => 2 | 75 => 1 | 76 => 3 | 77 => 2 | 78 => 0 | 79 => 2 | 80 => 1 | 81 => 1 | 82 => 0 | _ => 0
def mu4 : Nat → Nat := fun s => match s with | 0 => 2 | 1 => 4 | 2 => 6 | 3 => 8 | 4 => 10 | 5 => 12 | 6 => 1 | 7 => 3 | 8 => 5 | 9 => 7 | 10 => 9 | 11 => 11 | 12 => 0 | 13 => 2 | 14 => 2 | 15 => 4 | 16 => 4 | 17 => 6 | 18 => 6 | 19 => 8 | 20 => 8 | 21 => 10 | 22 => 10 | 23 => 1 | 24 => 3 | 25 => 3 | 26 => 5 | 27 => 5 | 28 => 7 | 29 => 7 | 30 => 9 | 31 => 9 | 32 => 0 | 33 => 2 | 34 => 2 | 35 => 4 | 36 => 4 | 37 => 4 | 38 => 6 | 39 => 6 | 40 => 6 | 41 => 8 | 42 => 8 | 43 => 8 | 44 => 1 | 45 => 3 | 46 => 3 | 47 => 5 | 48 => 5 | 49 => 5 | 50 => 7 | 51 => 7 | 52 => 7 | 53 => 0 | 54 => 2 | 55 => 2 | 56 => 4 | 57 => 4 | 58 => 4 | 59 => 6 | 60 => 6 | 61 => 6 | 62 => 6 | 63 => 1 | 64 => 3 | 65 => 3 | 66 => 5 | 67 => 5 | 68 => 5 | 69 => 0 | 70 => 2 | 71 => 2 | 72 => 4 | 73 => 4 | 74 => 4 | 75 => 1 | 76 => 3 | 77 => 3 | 78 => 0 | 79 => 2 | 80 => 2 | 81 => 1 | 82 => 0 | _ => 0
noncomputable def G4 (s : Nat) (w0 : World) (u : Value) (w : World) : Prop := match s with | 0 => AtV S4_0 w0 [pw] [u] w | 1 => AtV S4_1 w0 [pw] [u] w | 2 => AtV S4_2 w0 [pw] [u] w | 3 => AtV S4_3 w0 [pw] [u] w | 4 => AtV S4_4 w0 [pw] [u] w | 5 => AtV S4_5 w0 [pw] [u] w | 6 => AtV S4_6 w0 [pw] [u] w | 7 => AtV S4_7 w0 [pw] [u] w | 8 => AtV S4_8 w0 [pw] [u] w | 9 => AtV S4_9 w0 [pw] [u] w | 10 => AtV S4_10 w0 [pw] [u] w | 11 => AtV S4_11 w0 [pw] [u] w | 12 => AtV S4_12 w0 [pw] [u] w | 13 => AtV S4_13 w0 [pw] [u] w | 14 => AtV S4_14 w0 [pw] [u] w | 15 => AtV S4_15 w0 [pw] [u] w | 16 => AtV S4_16 w0 [pw] [u] w | 17 => AtV S4_17 w0 [pw] [u] w | 18 => AtV S4_18 w0 [pw] [u] w | 19 => AtV S4_19 w0 [pw] [u] w | 20 => AtV S4_20 w0 [pw] [u] w | 21 => AtV S4_21 w0 [pw] [u] w | 22 => AtV S4_22 w0 [pw] [u] w | 23 => AtV S4_23 w0 [pw] [u] w | 24 => AtV S4_24 w0 [pw] [u] w | 25 => AtV S4_25 w0 [pw] [u] w | 26 => AtV S4_26 w0 [pw] [u] w | 27 => AtV S4_27 w0 [pw] [u] w | 28 => AtV S4_28 w0 [pw] [u] w | 29 => AtV S4_29 w0 [pw] [u] w | 30 => AtV S4_30 w0 [pw] [u] w | 31 => AtV S4_31 w0 [pw] [u] w | 32 => AtV S4_32 w0 [pw] [u] w | 33 => AtV S4_33 w0 [pw] [u] w | 34 => AtV S4_34 w0 [pw] [u] w | 35 => AtV S4_35 w0 [pw] [u] w | 36 => AtV S4_36 w0 [pw] [u] w | 37 => AtV S4_37 w0 [pw] [u] w | 38 => AtV S4_38 w0 [pw] [u] w | 39 => AtV S4_39 w0 [pw] [u] w | 40 => AtV S4_40 w0 [pw] [u] w | 41 => AtV S4_41 w0 [pw] [u] w | 42 => AtV S4_42 w0 [pw] [u] w | 43 => AtV S4_43 w0 [pw] [u] w | 44 => AtV S4_44 w0 [pw] [u] w | 45 => AtV S4_45 w0 [pw] [u] w | 46 => AtV S4_46 w0 [pw] [u] w | 47 => AtV S4_47 w0 [pw] [u] w | 48 => AtV S4_48 w0 [pw] [u] w | 49 => AtV S4_49 w0 [pw] [u] w | 50 => AtV S4_50 w0 [pw] [u] w | 51 => AtV S4_51 w0 [pw] [u] w | 52 => AtV S4_52 w0 [pw] [u] w | 53 => AtV S4_53 w0 [pw] [u] w | 54 => AtV S4_54 w0 [pw] [u] w | 55 => AtV S4_55 w0 [pw] [u] w | 56 => AtV S4_56 w0 [pw] [u] w | 57 => AtV S4_57 w0 [pw] [u] w | 58 => AtV S4_58 w0 [pw] [u] w | 59 => AtV S4_59 w0 [pw] [u] w | 60 => AtV S4_60 w0 [pw] [u] w | 61 => AtV S4_61 w0 [pw] [u] w | 62 => AtV S4_62 w0 [pw] [u] w | 63 => AtV S4_63 w0 [pw] [u] w | 64 => AtV S4_64 w0 [pw] [u] w | 65 => AtV S4_65 w0 [pw] [u] w | 66 => AtV S4_66 w0 [pw] [u] w | 67 => AtV S4_67 w0 [pw] [u] w | 68 => AtV S4_68 w0 [pw] [u] w | 69 => AtV S4_69 w0 [pw] [u] w | 70 => AtV S4_70 w0 [pw] [u] w | 71 => AtV S4_71 w0 [pw] [u] w | 72 => AtV S4_72 w0 [pw] [u] w | 73 => AtV S4_73 w0 [pw] [u] w | 74 => AtV S4_74 w0 [pw] [u] w | 75 => AtV S4_75 w0 [pw] [u] w | 76 => AtV S4_76 w0 [pw] [u] w | 77 => AtV S4_77 w0 [pw] [u] w | 78 => AtV S4_78 w0 [pw] [u] w | 79 => AtV S4_79 w0 [pw] [u] w | 80 => AtV S4_80 w0 [pw] [u] w | 81 => AtV S4_81 w0 [pw] [u] w | 82 => AtV S4_82 w0 [pw] [u] w | _ => False
theorem go4 {x y k : Nat} (t : Nat) (h : dB x k y = true) {m : Nat} {w0 w : World} {u : Value} (hw : AtV x w0 [pw] [u] w) (h1 : t < 83) (h2 : mu4 t < m) (hS : ∀ w', AtV y w0 [pw] [u] w' → G4 t w0 u w') : Calls Tryz.prog 11 #[u, .int .i64 (k : Int)] w fun e w' => e = .returned (.bool true) ∧ ∃ t, t < 83 ∧ mu4 t < m ∧ G4 t w0 u w' := goes (S := G4) (mu := mu4) (K := 83) h hw h1 h2 hS
theorem s4_0 : On G4 mu4 S4_0 1 2 := fun k _ _ _ h hk => match k, hk with
  | 0, _ => go4 6 d4_0_0 h (by decide) (by decide) fun _ h => h
  | k + 1, h => absurd h (by omega)
theorem s4_1 : On G4 mu4 S4_1 2 4 := fun k _ _ _ h hk => match k, hk with
  | 0, _ => go4 7 d4_1_0 h (by decide) (by decide) fun _ h => h
  | 1, _ => go4 7 d4_1_1 h (by decide) (by decide) fun _ h => h
  | k + 2, h => absurd h (by omega)
theorem s4_2 : On G4 mu4 S4_2 3 6 := fun k _ _ _ h hk => match k, hk with
  | 0, _ => go4 8 d4_2_0 h (by decide) (by decide) fun _ h => h
  | 1, _ => go4 8 d4_2_1 h (by decide) (by decide) fun _ h => h
  | 2, _ => go4 8 d4_2_2 h (by decide) (by decide) fun _ h => h
  | k + 3, h => absurd h (by omega)
theorem s4_3 : On G4 mu4 S4_3 4 8 := fun k _ _ _ h hk => match k, hk with
  | 0, _ => go4 9 d4_3_0 h (by decide) (by decide) fun _ h => h
  | 1, _ => go4 9 d4_3_1 h (by decide) (by decide) fun _ h => h
  | 2, _ => go4 9 d4_3_2 h (by decide) (by decide) fun _ h => h
  | 3, _ => go4 9 d4_3_3 h (by decide) (by decide) fun _ h => h
  | k + 4, h => absurd h (by omega)
theorem s4_4 : On G4 mu4 S4_4 5 10 := fun k _ _ _ h hk => match k, hk with
  | 0, _ => go4 10 d4_4_0 h (by decide) (by decide) fun _ h => h
  | 1, _ => go4 10 d4_4_1 h (by decide) (by decide) fun _ h => h
  | 2, _ => go4 10 d4_4_2 h (by decide) (by decide) fun _ h => h
  | 3, _ => go4 10 d4_4_3 h (by decide) (by decide) fun _ h => h
  | 4, _ => go4 10 d4_4_4 h (by decide) (by decide) fun _ h => h
  | k + 5, h => absurd h (by omega)
theorem s4_5 : On G4 mu4 S4_5 6 12 := fun k _ _ _ h hk => match k, hk with
  | 0, _ => go4 11 d4_5_0 h (by decide) (by decide) fun _ h => h
  | 1, _ => go4 11 d4_5_1 h (by decide) (by decide) fun _ h => h
  | 2, _ => go4 11 d4_5_2 h (by decide) (by decide) fun _ h => h
  | 3, _ => go4 11 d4_5_3 h (by decide) (by decide) fun _ h => h
  | 4, _ => go4 11 d4_5_4 h (by decide) (by decide) fun _ h => h
  | 5, _ => go4 11 d4_5_5 h (by decide) (by decide) fun _ h => h
  | k + 6, h => absurd h (by omega)
theorem s4_6 : On G4 mu4 S4_6 1 1 := fun k _ _ _ h hk => match k, hk with
  | 0, _ => go4 12 d4_6_0 h (by decide) (by decide) fun _ h => h
  | k + 1, h => absurd h (by omega)
theorem s4_7 : On G4 mu4 S4_7 2 3 := fun k _ _ _ h hk => match k, hk with
  | 0, _ => go4 13 d4_7_0 h (by decide) (by decide) fun _ h => h
  | 1, _ => go4 14 d4_7_1 h (by decide) (by decide) fun _ h => h
  | k + 2, h => absurd h (by omega)
theorem s4_8 : On G4 mu4 S4_8 3 5 := fun k _ _ _ h hk => match k, hk with
  | 0, _ => go4 15 d4_8_0 h (by decide) (by decide) fun _ h => h
  | 1, _ => go4 15 d4_8_1 h (by decide) (by decide) fun _ h => h
  | 2, _ => go4 16 d4_8_2 h (by decide) (by decide) fun _ h => h
  | k + 3, h => absurd h (by omega)
theorem s4_9 : On G4 mu4 S4_9 4 7 := fun k _ _ _ h hk => match k, hk with
  | 0, _ => go4 17 d4_9_0 h (by decide) (by decide) fun _ h => h
  | 1, _ => go4 17 d4_9_1 h (by decide) (by decide) fun _ h => h
  | 2, _ => go4 17 d4_9_2 h (by decide) (by decide) fun _ h => h
  | 3, _ => go4 18 d4_9_3 h (by decide) (by decide) fun _ h => h
  | k + 4, h => absurd h (by omega)
theorem s4_10 : On G4 mu4 S4_10 5 9 := fun k _ _ _ h hk => match k, hk with
  | 0, _ => go4 19 d4_10_0 h (by decide) (by decide) fun _ h => h
  | 1, _ => go4 19 d4_10_1 h (by decide) (by decide) fun _ h => h
  | 2, _ => go4 19 d4_10_2 h (by decide) (by decide) fun _ h => h
  | 3, _ => go4 19 d4_10_3 h (by decide) (by decide) fun _ h => h
  | 4, _ => go4 20 d4_10_4 h (by decide) (by decide) fun _ h => h
  | k + 5, h => absurd h (by omega)
theorem s4_11 : On G4 mu4 S4_11 6 11 := fun k _ _ _ h hk => match k, hk with
  | 0, _ => go4 21 d4_11_0 h (by decide) (by decide) fun _ h => h
  | 1, _ => go4 21 d4_11_1 h (by decide) (by decide) fun _ h => h
  | 2, _ => go4 21 d4_11_2 h (by decide) (by decide) fun _ h => h
  | 3, _ => go4 21 d4_11_3 h (by decide) (by decide) fun _ h => h
  | 4, _ => go4 21 d4_11_4 h (by decide) (by decide) fun _ h => h
  | 5, _ => go4 22 d4_11_5 h (by decide) (by decide) fun _ h => h
  | k + 6, h => absurd h (by omega)
theorem s4_13 : On G4 mu4 S4_13 2 2 := fun k _ _ _ h hk => match k, hk with
  | 0, _ => go4 23 d4_13_0 h (by decide) (by decide) fun _ h => h
  | 1, _ => go4 23 d4_13_1 h (by decide) (by decide) fun _ h => h
  | k + 2, h => absurd h (by omega)
theorem s4_14 : On G4 mu4 S4_14 1 2 := fun k _ _ _ h hk => match k, hk with
  | 0, _ => go4 23 d4_14_0 h (by decide) (by decide) fun _ h => h
  | k + 1, h => absurd h (by omega)
theorem s4_15 : On G4 mu4 S4_15 3 4 := fun k _ _ _ h hk => match k, hk with
  | 0, _ => go4 24 d4_15_0 h (by decide) (by decide) fun _ h => h
  | 1, _ => go4 25 d4_15_1 h (by decide) (by decide) fun _ h => h
  | 2, _ => go4 25 d4_15_2 h (by decide) (by decide) fun _ h => h
  | k + 3, h => absurd h (by omega)
theorem s4_16 : On G4 mu4 S4_16 2 4 := fun k _ _ _ h hk => match k, hk with
  | 0, _ => go4 25 d4_16_0 h (by decide) (by decide) fun _ h => h
  | 1, _ => go4 25 d4_16_1 h (by decide) (by decide) fun _ h => h
  | k + 2, h => absurd h (by omega)
theorem s4_17 : On G4 mu4 S4_17 4 6 := fun k _ _ _ h hk => match k, hk with
  | 0, _ => go4 26 d4_17_0 h (by decide) (by decide) fun _ h => h
  | 1, _ => go4 26 d4_17_1 h (by decide) (by decide) fun _ h => h
  | 2, _ => go4 27 d4_17_2 h (by decide) (by decide) fun _ h => h
  | 3, _ => go4 27 d4_17_3 h (by decide) (by decide) fun _ h => h
  | k + 4, h => absurd h (by omega)
theorem s4_18 : On G4 mu4 S4_18 3 6 := fun k _ _ _ h hk => match k, hk with
  | 0, _ => go4 27 d4_18_0 h (by decide) (by decide) fun _ h => h
  | 1, _ => go4 27 d4_18_1 h (by decide) (by decide) fun _ h => h
  | 2, _ => go4 27 d4_18_2 h (by decide) (by decide) fun _ h => h
  | k + 3, h => absurd h (by omega)
theorem s4_19 : On G4 mu4 S4_19 5 8 := fun k _ _ _ h hk => match k, hk with
  | 0, _ => go4 28 d4_19_0 h (by decide) (by decide) fun _ h => h
  | 1, _ => go4 28 d4_19_1 h (by decide) (by decide) fun _ h => h
  | 2, _ => go4 28 d4_19_2 h (by decide) (by decide) fun _ h => h
  | 3, _ => go4 29 d4_19_3 h (by decide) (by decide) fun _ h => h
  | 4, _ => go4 29 d4_19_4 h (by decide) (by decide) fun _ h => h
  | k + 5, h => absurd h (by omega)
theorem s4_20 : On G4 mu4 S4_20 4 8 := fun k _ _ _ h hk => match k, hk with
  | 0, _ => go4 29 d4_20_0 h (by decide) (by decide) fun _ h => h
  | 1, _ => go4 29 d4_20_1 h (by decide) (by decide) fun _ h => h
  | 2, _ => go4 29 d4_20_2 h (by decide) (by decide) fun _ h => h
  | 3, _ => go4 29 d4_20_3 h (by decide) (by decide) fun _ h => h
  | k + 4, h => absurd h (by omega)
theorem s4_21 : On G4 mu4 S4_21 6 10 := fun k _ _ _ h hk => match k, hk with
  | 0, _ => go4 30 d4_21_0 h (by decide) (by decide) fun _ h => h
  | 1, _ => go4 30 d4_21_1 h (by decide) (by decide) fun _ h => h
  | 2, _ => go4 30 d4_21_2 h (by decide) (by decide) fun _ h => h
  | 3, _ => go4 30 d4_21_3 h (by decide) (by decide) fun _ h => h
  | 4, _ => go4 31 d4_21_4 h (by decide) (by decide) fun _ h => h
  | 5, _ => go4 31 d4_21_5 h (by decide) (by decide) fun _ h => h
  | k + 6, h => absurd h (by omega)
theorem s4_22 : On G4 mu4 S4_22 5 10 := fun k _ _ _ h hk => match k, hk with
  | 0, _ => go4 31 d4_22_0 h (by decide) (by decide) fun _ h => h
  | 1, _ => go4 31 d4_22_1 h (by decide) (by decide) fun _ h => h
  | 2, _ => go4 31 d4_22_2 h (by decide) (by decide) fun _ h => h
  | 3, _ => go4 31 d4_22_3 h (by decide) (by decide) fun _ h => h
  | 4, _ => go4 31 d4_22_4 h (by decide) (by decide) fun _ h => h
  | k + 5, h => absurd h (by omega)
theorem s4_23 : On G4 mu4 S4_23 1 1 := fun k _ _ _ h hk => match k, hk with
  | 0, _ => go4 32 d4_23_0 h (by decide) (by decide) fun _ h => h
  | k + 1, h => absurd h (by omega)
theorem s4_24 : On G4 mu4 S4_24 3 3 := fun k _ _ _ h hk => match k, hk with
  | 0, _ => go4 33 d4_24_0 h (by decide) (by decide) fun _ h => h
  | 1, _ => go4 33 d4_24_1 h (by decide) (by decide) fun _ h => h
  | 2, _ => go4 33 d4_24_2 h (by decide) (by decide) fun _ h => h
  | k + 3, h => absurd h (by omega)
theorem s4_25 : On G4 mu4 S4_25 2 3 := fun k _ _ _ h hk => match k, hk with
  | 0, _ => go4 33 d4_25_0 h (by decide) (by decide) fun _ h => h
  | 1, _ => go4 34 d4_25_1 h (by decide) (by decide) fun _ h => h
  | k + 2, h => absurd h (by omega)
theorem s4_26 : On G4 mu4 S4_26 4 5 := fun k _ _ _ h hk => match k, hk with
  | 0, _ => go4 35 d4_26_0 h (by decide) (by decide) fun _ h => h
  | 1, _ => go4 36 d4_26_1 h (by decide) (by decide) fun _ h => h
  | 2, _ => go4 36 d4_26_2 h (by decide) (by decide) fun _ h => h
  | 3, _ => go4 36 d4_26_3 h (by decide) (by decide) fun _ h => h
  | k + 4, h => absurd h (by omega)
theorem s4_27 : On G4 mu4 S4_27 3 5 := fun k _ _ _ h hk => match k, hk with
  | 0, _ => go4 36 d4_27_0 h (by decide) (by decide) fun _ h => h
  | 1, _ => go4 36 d4_27_1 h (by decide) (by decide) fun _ h => h
  | 2, _ => go4 37 d4_27_2 h (by decide) (by decide) fun _ h => h
  | k + 3, h => absurd h (by omega)
theorem s4_28 : On G4 mu4 S4_28 5 7 := fun k _ _ _ h hk => match k, hk with
  | 0, _ => go4 38 d4_28_0 h (by decide) (by decide) fun _ h => h
  | 1, _ => go4 38 d4_28_1 h (by decide) (by decide) fun _ h => h
  | 2, _ => go4 39 d4_28_2 h (by decide) (by decide) fun _ h => h
  | 3, _ => go4 39 d4_28_3 h (by decide) (by decide) fun _ h => h
  | 4, _ => go4 39 d4_28_4 h (by decide) (by decide) fun _ h => h
  | k + 5, h => absurd h (by omega)
theorem s4_29 : On G4 mu4 S4_29 4 7 := fun k _ _ _ h hk => match k, hk with
  | 0, _ => go4 39 d4_29_0 h (by decide) (by decide) fun _ h => h
  | 1, _ => go4 39 d4_29_1 h (by decide) (by decide) fun _ h => h
  | 2, _ => go4 39 d4_29_2 h (by decide) (by decide) fun _ h => h
  | 3, _ => go4 40 d4_29_3 h (by decide) (by decide) fun _ h => h
  | k + 4, h => absurd h (by omega)
theorem s4_30 : On G4 mu4 S4_30 6 9 := fun k _ _ _ h hk => match k, hk with
  | 0, _ => go4 41 d4_30_0 h (by decide) (by decide) fun _ h => h
  | 1, _ => go4 41 d4_30_1 h (by decide) (by decide) fun _ h => h
  | 2, _ => go4 41 d4_30_2 h (by decide) (by decide) fun _ h => h
  | 3, _ => go4 42 d4_30_3 h (by decide) (by decide) fun _ h => h
  | 4, _ => go4 42 d4_30_4 h (by decide) (by decide) fun _ h => h
  | 5, _ => go4 42 d4_30_5 h (by decide) (by decide) fun _ h => h
  | k + 6, h => absurd h (by omega)
theorem s4_31 : On G4 mu4 S4_31 5 9 := fun k _ _ _ h hk => match k, hk with
  | 0, _ => go4 42 d4_31_0 h (by decide) (by decide) fun _ h => h
  | 1, _ => go4 42 d4_31_1 h (by decide) (by decide) fun _ h => h
  | 2, _ => go4 42 d4_31_2 h (by decide) (by decide) fun _ h => h
  | 3, _ => go4 42 d4_31_3 h (by decide) (by decide) fun _ h => h
  | 4, _ => go4 43 d4_31_4 h (by decide) (by decide) fun _ h => h
  | k + 5, h => absurd h (by omega)
theorem s4_33 : On G4 mu4 S4_33 2 2 := fun k _ _ _ h hk => match k, hk with
  | 0, _ => go4 44 d4_33_0 h (by decide) (by decide) fun _ h => h
  | 1, _ => go4 44 d4_33_1 h (by decide) (by decide) fun _ h => h
  | k + 2, h => absurd h (by omega)
theorem s4_34 : On G4 mu4 S4_34 1 2 := fun k _ _ _ h hk => match k, hk with
  | 0, _ => go4 44 d4_34_0 h (by decide) (by decide) fun _ h => h
  | k + 1, h => absurd h (by omega)
theorem s4_35 : On G4 mu4 S4_35 4 4 := fun k _ _ _ h hk => match k, hk with
  | 0, _ => go4 45 d4_35_0 h (by decide) (by decide) fun _ h => h
  | 1, _ => go4 45 d4_35_1 h (by decide) (by decide) fun _ h => h
  | 2, _ => go4 45 d4_35_2 h (by decide) (by decide) fun _ h => h
  | 3, _ => go4 45 d4_35_3 h (by decide) (by decide) fun _ h => h
  | k + 4, h => absurd h (by omega)
theorem s4_36 : On G4 mu4 S4_36 3 4 := fun k _ _ _ h hk => match k, hk with
  | 0, _ => go4 45 d4_36_0 h (by decide) (by decide) fun _ h => h
  | 1, _ => go4 46 d4_36_1 h (by decide) (by decide) fun _ h => h
  | 2, _ => go4 46 d4_36_2 h (by decide) (by decide) fun _ h => h
  | k + 3, h => absurd h (by omega)
theorem s4_37 : On G4 mu4 S4_37 2 4 := fun k _ _ _ h hk => match k, hk with
  | 0, _ => go4 46 d4_37_0 h (by decide) (by decide) fun _ h => h
  | 1, _ => go4 46 d4_37_1 h (by decide) (by decide) fun _ h => h
  | k + 2, h => absurd h (by omega)
theorem s4_38 : On G4 mu4 S4_38 5 6 := fun k _ _ _ h hk => match k, hk with
  | 0, _ => go4 47 d4_38_0 h (by decide) (by decide) fun _ h => h
  | 1, _ => go4 48 d4_38_1 h (by decide) (by decide) fun _ h => h
  | 2, _ => go4 48 d4_38_2 h (by decide) (by decide) fun _ h => h
  | 3, _ => go4 48 d4_38_3 h (by decide) (by decide) fun _ h => h
  | 4, _ => go4 48 d4_38_4 h (by decide) (by decide) fun _ h => h
  | k + 5, h => absurd h (by omega)
theorem s4_39 : On G4 mu4 S4_39 4 6 := fun k _ _ _ h hk => match k, hk with
  | 0, _ => go4 48 d4_39_0 h (by decide) (by decide) fun _ h => h
  | 1, _ => go4 48 d4_39_1 h (by decide) (by decide) fun _ h => h
  | 2, _ => go4 49 d4_39_2 h (by decide) (by decide) fun _ h => h
  | 3, _ => go4 49 d4_39_3 h (by decide) (by decide) fun _ h => h
  | k + 4, h => absurd h (by omega)
theorem s4_40 : On G4 mu4 S4_40 3 6 := fun k _ _ _ h hk => match k, hk with
  | 0, _ => go4 49 d4_40_0 h (by decide) (by decide) fun _ h => h
  | 1, _ => go4 49 d4_40_1 h (by decide) (by decide) fun _ h => h
  | 2, _ => go4 49 d4_40_2 h (by decide) (by decide) fun _ h => h
  | k + 3, h => absurd h (by omega)
theorem s4_41 : On G4 mu4 S4_41 6 8 := fun k _ _ _ h hk => match k, hk with
  | 0, _ => go4 50 d4_41_0 h (by decide) (by decide) fun _ h => h
  | 1, _ => go4 50 d4_41_1 h (by decide) (by decide) fun _ h => h
  | 2, _ => go4 51 d4_41_2 h (by decide) (by decide) fun _ h => h
  | 3, _ => go4 51 d4_41_3 h (by decide) (by decide) fun _ h => h
  | 4, _ => go4 51 d4_41_4 h (by decide) (by decide) fun _ h => h
  | 5, _ => go4 51 d4_41_5 h (by decide) (by decide) fun _ h => h
  | k + 6, h => absurd h (by omega)
theorem s4_42 : On G4 mu4 S4_42 5 8 := fun k _ _ _ h hk => match k, hk with
  | 0, _ => go4 51 d4_42_0 h (by decide) (by decide) fun _ h => h
  | 1, _ => go4 51 d4_42_1 h (by decide) (by decide) fun _ h => h
  | 2, _ => go4 51 d4_42_2 h (by decide) (by decide) fun _ h => h
  | 3, _ => go4 52 d4_42_3 h (by decide) (by decide) fun _ h => h
  | 4, _ => go4 52 d4_42_4 h (by decide) (by decide) fun _ h => h
  | k + 5, h => absurd h (by omega)
theorem s4_43 : On G4 mu4 S4_43 4 8 := fun k _ _ _ h hk => match k, hk with
  | 0, _ => go4 52 d4_43_0 h (by decide) (by decide) fun _ h => h
  | 1, _ => go4 52 d4_43_1 h (by decide) (by decide) fun _ h => h
  | 2, _ => go4 52 d4_43_2 h (by decide) (by decide) fun _ h => h
  | 3, _ => go4 52 d4_43_3 h (by decide) (by decide) fun _ h => h
  | k + 4, h => absurd h (by omega)
theorem s4_44 : On G4 mu4 S4_44 1 1 := fun k _ _ _ h hk => match k, hk with
  | 0, _ => go4 53 d4_44_0 h (by decide) (by decide) fun _ h => h
  | k + 1, h => absurd h (by omega)
theorem s4_45 : On G4 mu4 S4_45 3 3 := fun k _ _ _ h hk => match k, hk with
  | 0, _ => go4 54 d4_45_0 h (by decide) (by decide) fun _ h => h
  | 1, _ => go4 54 d4_45_1 h (by decide) (by decide) fun _ h => h
  | 2, _ => go4 54 d4_45_2 h (by decide) (by decide) fun _ h => h
  | k + 3, h => absurd h (by omega)
theorem s4_46 : On G4 mu4 S4_46 2 3 := fun k _ _ _ h hk => match k, hk with
  | 0, _ => go4 54 d4_46_0 h (by decide) (by decide) fun _ h => h
  | 1, _ => go4 55 d4_46_1 h (by decide) (by decide) fun _ h => h
  | k + 2, h => absurd h (by omega)
theorem s4_47 : On G4 mu4 S4_47 5 5 := fun k _ _ _ h hk => match k, hk with
  | 0, _ => go4 56 d4_47_0 h (by decide) (by decide) fun _ h => h
  | 1, _ => go4 56 d4_47_1 h (by decide) (by decide) fun _ h => h
  | 2, _ => go4 56 d4_47_2 h (by decide) (by decide) fun _ h => h
  | 3, _ => go4 56 d4_47_3 h (by decide) (by decide) fun _ h => h
  | 4, _ => go4 56 d4_47_4 h (by decide) (by decide) fun _ h => h
  | k + 5, h => absurd h (by omega)
theorem s4_48 : On G4 mu4 S4_48 4 5 := fun k _ _ _ h hk => match k, hk with
  | 0, _ => go4 56 d4_48_0 h (by decide) (by decide) fun _ h => h
  | 1, _ => go4 57 d4_48_1 h (by decide) (by decide) fun _ h => h
  | 2, _ => go4 57 d4_48_2 h (by decide) (by decide) fun _ h => h
  | 3, _ => go4 57 d4_48_3 h (by decide) (by decide) fun _ h => h
  | k + 4, h => absurd h (by omega)
theorem s4_49 : On G4 mu4 S4_49 3 5 := fun k _ _ _ h hk => match k, hk with
  | 0, _ => go4 57 d4_49_0 h (by decide) (by decide) fun _ h => h
  | 1, _ => go4 57 d4_49_1 h (by decide) (by decide) fun _ h => h
  | 2, _ => go4 58 d4_49_2 h (by decide) (by decide) fun _ h => h
  | k + 3, h => absurd h (by omega)
theorem s4_50 : On G4 mu4 S4_50 6 7 := fun k _ _ _ h hk => match k, hk with
  | 0, _ => go4 59 d4_50_0 h (by decide) (by decide) fun _ h => h
  | 1, _ => go4 60 d4_50_1 h (by decide) (by decide) fun _ h => h
  | 2, _ => go4 60 d4_50_2 h (by decide) (by decide) fun _ h => h
  | 3, _ => go4 60 d4_50_3 h (by decide) (by decide) fun _ h => h
  | 4, _ => go4 60 d4_50_4 h (by decide) (by decide) fun _ h => h
  | 5, _ => go4 60 d4_50_5 h (by decide) (by decide) fun _ h => h
  | k + 6, h => absurd h (by omega)
theorem s4_51 : On G4 mu4 S4_51 5 7 := fun k _ _ _ h hk => match k, hk with
  | 0, _ => go4 60 d4_51_0 h (by decide) (by decide) fun _ h => h
  | 1, _ => go4 60 d4_51_1 h (by decide) (by decide) fun _ h => h
  | 2, _ => go4 61 d4_51_2 h (by decide) (by decide) fun _ h => h
  | 3, _ => go4 61 d4_51_3 h (by decide) (by decide) fun _ h => h
  | 4, _ => go4 61 d4_51_4 h (by decide) (by decide) fun _ h => h
  | k + 5, h => absurd h (by omega)
theorem s4_52 : On G4 mu4 S4_52 4 7 := fun k _ _ _ h hk => match k, hk with
  | 0, _ => go4 61 d4_52_0 h (by decide) (by decide) fun _ h => h
  | 1, _ => go4 61 d4_52_1 h (by decide) (by decide) fun _ h => h
  | 2, _ => go4 61 d4_52_2 h (by decide) (by decide) fun _ h => h
  | 3, _ => go4 62 d4_52_3 h (by decide) (by decide) fun _ h => h
  | k + 4, h => absurd h (by omega)
theorem s4_54 : On G4 mu4 S4_54 2 2 := fun k _ _ _ h hk => match k, hk with
  | 0, _ => go4 63 d4_54_0 h (by decide) (by decide) fun _ h => h
  | 1, _ => go4 63 d4_54_1 h (by decide) (by decide) fun _ h => h
  | k + 2, h => absurd h (by omega)
theorem s4_55 : On G4 mu4 S4_55 1 2 := fun k _ _ _ h hk => match k, hk with
  | 0, _ => go4 63 d4_55_0 h (by decide) (by decide) fun _ h => h
  | k + 1, h => absurd h (by omega)
theorem s4_56 : On G4 mu4 S4_56 4 4 := fun k _ _ _ h hk => match k, hk with
  | 0, _ => go4 64 d4_56_0 h (by decide) (by decide) fun _ h => h
  | 1, _ => go4 64 d4_56_1 h (by decide) (by decide) fun _ h => h
  | 2, _ => go4 64 d4_56_2 h (by decide) (by decide) fun _ h => h
  | 3, _ => go4 64 d4_56_3 h (by decide) (by decide) fun _ h => h
  | k + 4, h => absurd h (by omega)
theorem s4_57 : On G4 mu4 S4_57 3 4 := fun k _ _ _ h hk => match k, hk with
  | 0, _ => go4 64 d4_57_0 h (by decide) (by decide) fun _ h => h
  | 1, _ => go4 65 d4_57_1 h (by decide) (by decide) fun _ h => h
  | 2, _ => go4 65 d4_57_2 h (by decide) (by decide) fun _ h => h
  | k + 3, h => absurd h (by omega)
theorem s4_58 : On G4 mu4 S4_58 2 4 := fun k _ _ _ h hk => match k, hk with
  | 0, _ => go4 65 d4_58_0 h (by decide) (by decide) fun _ h => h
  | 1, _ => go4 65 d4_58_1 h (by decide) (by decide) fun _ h => h
  | k + 2, h => absurd h (by omega)
theorem s4_59 : On G4 mu4 S4_59 6 6 := fun k _ _ _ h hk => match k, hk with
  | 0, _ => go4 66 d4_59_0 h (by decide) (by decide) fun _ h => h
  | 1, _ => go4 66 d4_59_1 h (by decide) (by decide) fun _ h => h
  | 2, _ => go4 66 d4_59_2 h (by decide) (by decide) fun _ h => h
  | 3, _ => go4 66 d4_59_3 h (by decide) (by decide) fun _ h => h
  | 4, _ => go4 66 d4_59_4 h (by decide) (by decide) fun _ h => h
  | 5, _ => go4 66 d4_59_5 h (by decide) (by decide) fun _ h => h
  | k + 6, h => absurd h (by omega)
theorem s4_60 : On G4 mu4 S4_60 5 6 := fun k _ _ _ h hk => match k, hk with
  | 0, _ => go4 66 d4_60_0 h (by decide) (by decide) fun _ h => h
  | 1, _ => go4 67 d4_60_1 h (by decide) (by decide) fun _ h => h
  | 2, _ => go4 67 d4_60_2 h (by decide) (by decide) fun _ h => h
  | 3, _ => go4 67 d4_60_3 h (by decide) (by decide) fun _ h => h
  | 4, _ => go4 67 d4_60_4 h (by decide) (by decide) fun _ h => h
  | k + 5, h => absurd h (by omega)
theorem s4_61 : On G4 mu4 S4_61 4 6 := fun k _ _ _ h hk => match k, hk with
  | 0, _ => go4 67 d4_61_0 h (by decide) (by decide) fun _ h => h
  | 1, _ => go4 67 d4_61_1 h (by decide) (by decide) fun _ h => h
  | 2, _ => go4 68 d4_61_2 h (by decide) (by decide) fun _ h => h
  | 3, _ => go4 68 d4_61_3 h (by decide) (by decide) fun _ h => h
  | k + 4, h => absurd h (by omega)
theorem s4_62 : On G4 mu4 S4_62 3 6 := fun k _ _ _ h hk => match k, hk with
  | 0, _ => go4 68 d4_62_0 h (by decide) (by decide) fun _ h => h
  | 1, _ => go4 68 d4_62_1 h (by decide) (by decide) fun _ h => h
  | 2, _ => go4 68 d4_62_2 h (by decide) (by decide) fun _ h => h
  | k + 3, h => absurd h (by omega)
theorem s4_63 : On G4 mu4 S4_63 1 1 := fun k _ _ _ h hk => match k, hk with
  | 0, _ => go4 69 d4_63_0 h (by decide) (by decide) fun _ h => h
  | k + 1, h => absurd h (by omega)
theorem s4_64 : On G4 mu4 S4_64 3 3 := fun k _ _ _ h hk => match k, hk with
  | 0, _ => go4 70 d4_64_0 h (by decide) (by decide) fun _ h => h
  | 1, _ => go4 70 d4_64_1 h (by decide) (by decide) fun _ h => h
  | 2, _ => go4 70 d4_64_2 h (by decide) (by decide) fun _ h => h
  | k + 3, h => absurd h (by omega)
theorem s4_65 : On G4 mu4 S4_65 2 3 := fun k _ _ _ h hk => match k, hk with
  | 0, _ => go4 70 d4_65_0 h (by decide) (by decide) fun _ h => h
  | 1, _ => go4 71 d4_65_1 h (by decide) (by decide) fun _ h => h
  | k + 2, h => absurd h (by omega)
theorem s4_66 : On G4 mu4 S4_66 5 5 := fun k _ _ _ h hk => match k, hk with
  | 0, _ => go4 72 d4_66_0 h (by decide) (by decide) fun _ h => h
  | 1, _ => go4 72 d4_66_1 h (by decide) (by decide) fun _ h => h
  | 2, _ => go4 72 d4_66_2 h (by decide) (by decide) fun _ h => h
  | 3, _ => go4 72 d4_66_3 h (by decide) (by decide) fun _ h => h
  | 4, _ => go4 72 d4_66_4 h (by decide) (by decide) fun _ h => h
  | k + 5, h => absurd h (by omega)
theorem s4_67 : On G4 mu4 S4_67 4 5 := fun k _ _ _ h hk => match k, hk with
  | 0, _ => go4 72 d4_67_0 h (by decide) (by decide) fun _ h => h
  | 1, _ => go4 73 d4_67_1 h (by decide) (by decide) fun _ h => h
  | 2, _ => go4 73 d4_67_2 h (by decide) (by decide) fun _ h => h
  | 3, _ => go4 73 d4_67_3 h (by decide) (by decide) fun _ h => h
  | k + 4, h => absurd h (by omega)
theorem s4_68 : On G4 mu4 S4_68 3 5 := fun k _ _ _ h hk => match k, hk with
  | 0, _ => go4 73 d4_68_0 h (by decide) (by decide) fun _ h => h
  | 1, _ => go4 73 d4_68_1 h (by decide) (by decide) fun _ h => h
  | 2, _ => go4 74 d4_68_2 h (by decide) (by decide) fun _ h => h
  | k + 3, h => absurd h (by omega)
theorem s4_70 : On G4 mu4 S4_70 2 2 := fun k _ _ _ h hk => match k, hk with
  | 0, _ => go4 75 d4_70_0 h (by decide) (by decide) fun _ h => h
  | 1, _ => go4 75 d4_70_1 h (by decide) (by decide) fun _ h => h
  | k + 2, h => absurd h (by omega)
theorem s4_71 : On G4 mu4 S4_71 1 2 := fun k _ _ _ h hk => match k, hk with
  | 0, _ => go4 75 d4_71_0 h (by decide) (by decide) fun _ h => h
  | k + 1, h => absurd h (by omega)
theorem s4_72 : On G4 mu4 S4_72 4 4 := fun k _ _ _ h hk => match k, hk with
  | 0, _ => go4 76 d4_72_0 h (by decide) (by decide) fun _ h => h
  | 1, _ => go4 76 d4_72_1 h (by decide) (by decide) fun _ h => h
  | 2, _ => go4 76 d4_72_2 h (by decide) (by decide) fun _ h => h
  | 3, _ => go4 76 d4_72_3 h (by decide) (by decide) fun _ h => h
  | k + 4, h => absurd h (by omega)
theorem s4_73 : On G4 mu4 S4_73 3 4 := fun k _ _ _ h hk => match k, hk with
  | 0, _ => go4 76 d4_73_0 h (by decide) (by decide) fun _ h => h
  | 1, _ => go4 77 d4_73_1 h (by decide) (by decide) fun _ h => h
  | 2, _ => go4 77 d4_73_2 h (by decide) (by decide) fun _ h => h
  | k + 3, h => absurd h (by omega)
theorem s4_74 : On G4 mu4 S4_74 2 4 := fun k _ _ _ h hk => match k, hk with
  | 0, _ => go4 77 d4_74_0 h (by decide) (by decide) fun _ h => h
  | 1, _ => go4 77 d4_74_1 h (by decide) (by decide) fun _ h => h
  | k + 2, h => absurd h (by omega)
theorem s4_75 : On G4 mu4 S4_75 1 1 := fun k _ _ _ h hk => match k, hk with
  | 0, _ => go4 78 d4_75_0 h (by decide) (by decide) fun _ h => h
  | k + 1, h => absurd h (by omega)
theorem s4_76 : On G4 mu4 S4_76 3 3 := fun k _ _ _ h hk => match k, hk with
  | 0, _ => go4 79 d4_76_0 h (by decide) (by decide) fun _ h => h
  | 1, _ => go4 79 d4_76_1 h (by decide) (by decide) fun _ h => h
  | 2, _ => go4 79 d4_76_2 h (by decide) (by decide) fun _ h => h
  | k + 3, h => absurd h (by omega)
theorem s4_77 : On G4 mu4 S4_77 2 3 := fun k _ _ _ h hk => match k, hk with
  | 0, _ => go4 79 d4_77_0 h (by decide) (by decide) fun _ h => h
  | 1, _ => go4 80 d4_77_1 h (by decide) (by decide) fun _ h => h
  | k + 2, h => absurd h (by omega)
theorem s4_79 : On G4 mu4 S4_79 2 2 := fun k _ _ _ h hk => match k, hk with
  | 0, _ => go4 81 d4_79_0 h (by decide) (by decide) fun _ h => h
  | 1, _ => go4 81 d4_79_1 h (by decide) (by decide) fun _ h => h
  | k + 2, h => absurd h (by omega)
theorem s4_80 : On G4 mu4 S4_80 1 2 := fun k _ _ _ h hk => match k, hk with
  | 0, _ => go4 81 d4_80_0 h (by decide) (by decide) fun _ h => h
  | k + 1, h => absurd h (by omega)
theorem s4_81 : On G4 mu4 S4_81 1 1 := fun k _ _ _ h hk => match k, hk with
  | 0, _ => go4 82 d4_81_0 h (by decide) (by decide) fun _ h => h
  | k + 1, h => absurd h (by omega)
theorem step4 (s k : Nat) (w0 : World) (u : Value) (w : World) (h : G4 s w0 u w) (hs : s < 83) (hk : k < und4 s) : Calls Tryz.prog 11 #[u, .int .i64 (k : Int)] w fun e w' => e = .returned (.bool true) ∧ ∃ t, t < 83 ∧ mu4 t < mu4 s ∧ G4 t w0 u w' := match s, hs, h, hk with
  | 0, _, h, hk => s4_0 k w0 u w h hk
  | 1, _, h, hk => s4_1 k w0 u w h hk
  | 2, _, h, hk => s4_2 k w0 u w h hk
  | 3, _, h, hk => s4_3 k w0 u w h hk
  | 4, _, h, hk => s4_4 k w0 u w h hk
  | 5, _, h, hk => s4_5 k w0 u w h hk
  | 6, _, h, hk => s4_6 k w0 u w h hk
  | 7, _, h, hk => s4_7 k w0 u w h hk
  | 8, _, h, hk => s4_8 k w0 u w h hk
  | 9, _, h, hk => s4_9 k w0 u w h hk
  | 10, _, h, hk => s4_10 k w0 u w h hk
  | 11, _, h, hk => s4_11 k w0 u w h hk
  | 12, _, h, hk => absurd hk (Nat.not_lt_zero k)
  | 13, _, h, hk => s4_13 k w0 u w h hk
  | 14, _, h, hk => s4_14 k w0 u w h hk
  | 15, _, h, hk => s4_15 k w0 u w h hk
  | 16, _, h, hk => s4_16 k w0 u w h hk
  | 17, _, h, hk => s4_17 k w0 u w h hk
  | 18, _, h, hk => s4_18 k w0 u w h hk
  | 19, _, h, hk => s4_19 k w0 u w h hk
  | 20, _, h, hk => s4_20 k w0 u w h hk
  | 21, _, h, hk => s4_21 k w0 u w h hk
  | 22, _, h, hk => s4_22 k w0 u w h hk
  | 23, _, h, hk => s4_23 k w0 u w h hk
  | 24, _, h, hk => s4_24 k w0 u w h hk
  | 25, _, h, hk => s4_25 k w0 u w h hk
  | 26, _, h, hk => s4_26 k w0 u w h hk
  | 27, _, h, hk => s4_27 k w0 u w h hk
  | 28, _, h, hk => s4_28 k w0 u w h hk
  | 29, _, h, hk => s4_29 k w0 u w h hk
  | 30, _, h, hk => s4_30 k w0 u w h hk
  | 31, _, h, hk => s4_31 k w0 u w h hk
  | 32, _, h, hk => absurd hk (Nat.not_lt_zero k)
  | 33, _, h, hk => s4_33 k w0 u w h hk
  | 34, _, h, hk => s4_34 k w0 u w h hk
  | 35, _, h, hk => s4_35 k w0 u w h hk
  | 36, _, h, hk => s4_36 k w0 u w h hk
  | 37, _, h, hk => s4_37 k w0 u w h hk
  | 38, _, h, hk => s4_38 k w0 u w h hk
  | 39, _, h, hk => s4_39 k w0 u w h hk
  | 40, _, h, hk => s4_40 k w0 u w h hk
  | 41, _, h, hk => s4_41 k w0 u w h hk
  | 42, _, h, hk => s4_42 k w0 u w h hk
  | 43, _, h, hk => s4_43 k w0 u w h hk
  | 44, _, h, hk => s4_44 k w0 u w h hk
  | 45, _, h, hk => s4_45 k w0 u w h hk
  | 46, _, h, hk => s4_46 k w0 u w h hk
  | 47, _, h, hk => s4_47 k w0 u w h hk
  | 48, _, h, hk => s4_48 k w0 u w h hk
  | 49, _, h, hk => s4_49 k w0 u w h hk
  | 50, _, h, hk => s4_50 k w0 u w h hk
  | 51, _, h, hk => s4_51 k w0 u w h hk
  | 52, _, h, hk => s4_52 k w0 u w h hk
  | 53, _, h, hk => absurd hk (Nat.not_lt_zero k)
  | 54, _, h, hk => s4_54 k w0 u w h hk
  | 55, _, h, hk => s4_55 k w0 u w h hk
  | 56, _, h, hk => s4_56 k w0 u w h hk
  | 57, _, h, hk => s4_57 k w0 u w h hk
  | 58, _, h, hk => s4_58 k w0 u w h hk
  | 59, _, h, hk => s4_59 k w0 u w h hk
  | 60, _, h, hk => s4_60 k w0 u w h hk
  | 61, _, h, hk => s4_61 k w0 u w h hk
  | 62, _, h, hk => s4_62 k w0 u w h hk
  | 63, _, h, hk => s4_63 k w0 u w h hk
  | 64, _, h, hk => s4_64 k w0 u w h hk
  | 65, _, h, hk => s4_65 k w0 u w h hk
  | 66, _, h, hk => s4_66 k w0 u w h hk
  | 67, _, h, hk => s4_67 k w0 u w h hk
  | 68, _, h, hk => s4_68 k w0 u w h hk
  | 69, _, h, hk => absurd hk (Nat.not_lt_zero k)
  | 70, _, h, hk => s4_70 k w0 u w h hk
  | 71, _, h, hk => s4_71 k w0 u w h hk
  | 72, _, h, hk => s4_72 k w0 u w h hk
  | 73, _, h, hk => s4_73 k w0 u w h hk
  | 74, _, h, hk => s4_74 k w0 u w h hk
  | 75, _, h, hk => s4_75 k w0 u w h hk
  | 76, _, h, hk => s4_76 k w0 u w h hk
  | 77, _, h, hk => s4_77 k w0 u w h hk
  | 78, _, h, hk => absurd hk (Nat.not_lt_zero k)
  | 79, _, h, hk => s4_79 k w0 u w h hk
  | 80, _, h, hk => s4_80 k w0 u w h hk
  | 81, _, h, hk => s4_81 k w0 u w h hk
  | 82, _, h, hk => absurd hk (Nat.not_lt_zero k)
  | s + 83, h, _, _ => absurd h (by omega)
theorem un4 (s : Nat) (w0 : World) (u : Value) (w : World) (h : G4 s w0 u w) (hs : s < 83) : Calls Tryz.prog 10 #[u] w fun e w' => e = .returned (.int .i64 (und4 s : Int)) ∧ w' = w := match s, hs, h with
  | 0, _, h => under_calls u4_0 h
  | 1, _, h => under_calls u4_1 h
  | 2, _, h => under_calls u4_2 h
  | 3, _, h => under_calls u4_3 h
  | 4, _, h => under_calls u4_4 h
  | 5, _, h => under_calls u4_5 h
  | 6, _, h => under_calls u4_6 h
  | 7, _, h => under_calls u4_7 h
  | 8, _, h => under_calls u4_8 h
  | 9, _, h => under_calls u4_9 h
  | 10, _, h => under_calls u4_10 h
  | 11, _, h => under_calls u4_11 h
  | 12, _, h => under_calls u4_12 h
  | 13, _, h => under_calls u4_13 h
  | 14, _, h => under_calls u4_14 h
  | 15, _, h => under_calls u4_15 h
  | 16, _, h => under_calls u4_16 h
  | 17, _, h => under_calls u4_17 h
  | 18, _, h => under_calls u4_18 h
  | 19, _, h => under_calls u4_19 h
  | 20, _, h => under_calls u4_20 h
  | 21, _, h => under_calls u4_21 h
  | 22, _, h => under_calls u4_22 h
  | 23, _, h => under_calls u4_23 h
  | 24, _, h => under_calls u4_24 h
  | 25, _, h => under_calls u4_25 h
  | 26, _, h => under_calls u4_26 h
  | 27, _, h => under_calls u4_27 h
  | 28, _, h => under_calls u4_28 h
  | 29, _, h => under_calls u4_29 h
  | 30, _, h => under_calls u4_30 h
  | 31, _, h => under_calls u4_31 h
  | 32, _, h => under_calls u4_32 h
  | 33, _, h => under_calls u4_33 h
  | 34, _, h => under_calls u4_34 h
  | 35, _, h => under_calls u4_35 h
  | 36, _, h => under_calls u4_36 h
  | 37, _, h => under_calls u4_37 h
  | 38, _, h => under_calls u4_38 h
  | 39, _, h => under_calls u4_39 h
  | 40, _, h => under_calls u4_40 h
  | 41, _, h => under_calls u4_41 h
  | 42, _, h => under_calls u4_42 h
  | 43, _, h => under_calls u4_43 h
  | 44, _, h => under_calls u4_44 h
  | 45, _, h => under_calls u4_45 h
  | 46, _, h => under_calls u4_46 h
  | 47, _, h => under_calls u4_47 h
  | 48, _, h => under_calls u4_48 h
  | 49, _, h => under_calls u4_49 h
  | 50, _, h => under_calls u4_50 h
  | 51, _, h => under_calls u4_51 h
  | 52, _, h => under_calls u4_52 h
  | 53, _, h => under_calls u4_53 h
  | 54, _, h => under_calls u4_54 h
  | 55, _, h => under_calls u4_55 h
  | 56, _, h => under_calls u4_56 h
  | 57, _, h => under_calls u4_57 h
  | 58, _, h => under_calls u4_58 h
  | 59, _, h => under_calls u4_59 h
  | 60, _, h => under_calls u4_60 h
  | 61, _, h => under_calls u4_61 h
  | 62, _, h => under_calls u4_62 h
  | 63, _, h => under_calls u4_63 h
  | 64, _, h => under_calls u4_64 h
  | 65, _, h => under_calls u4_65 h
  | 66, _, h => under_calls u4_66 h
  | 67, _, h => under_calls u4_67 h
  | 68, _, h => under_calls u4_68 h
  | 69, _, h => under_calls u4_69 h
  | 70, _, h => under_calls u4_70 h
  | 71, _, h => under_calls u4_71 h
  | 72, _, h => under_calls u4_72 h
  | 73, _, h => under_calls u4_73 h
  | 74, _, h => under_calls u4_74 h
  | 75, _, h => under_calls u4_75 h
  | 76, _, h => under_calls u4_76 h
  | 77, _, h => under_calls u4_77 h
  | 78, _, h => under_calls u4_78 h
  | 79, _, h => under_calls u4_79 h
  | 80, _, h => under_calls u4_80 h
  | 81, _, h => under_calls u4_81 h
  | 82, _, h => under_calls u4_82 h
  | s + 83, h, _ => absurd h (by omega)
theorem ta4 (s : Nat) (w0 : World) (u : Value) (w : World) (a : Act) (h : G4 s w0 u w) (hs : s < 83) (h0 : und4 s = 0) (q0 : a.tmps.getD 0 undef = numV 4) (q7 : a.tmps.getD 7 undef = u) (hsz : Tryz.f3.ntmps ≤ a.tmps.size) (hd : a.defers = []) : tailC.wp Tryz.prog (bodyPost Tryz.prog Tryz.f3 fun e w' => e = .returned (.bool true) ∧ Below w0.heap.size w0 w') a w := match s, hs, h, h0 with
  | 0, _, h, h0 => absurd h0 (by decide)
  | 1, _, h, h0 => absurd h0 (by decide)
  | 2, _, h, h0 => absurd h0 (by decide)
  | 3, _, h, h0 => absurd h0 (by decide)
  | 4, _, h, h0 => absurd h0 (by decide)
  | 5, _, h, h0 => absurd h0 (by decide)
  | 6, _, h, h0 => absurd h0 (by decide)
  | 7, _, h, h0 => absurd h0 (by decide)
  | 8, _, h, h0 => absurd h0 (by decide)
  | 9, _, h, h0 => absurd h0 (by decide)
  | 10, _, h, h0 => absurd h0 (by decide)
  | 11, _, h, h0 => absurd h0 (by decide)
  | 12, _, h, h0 => tail_wp t4_12 h q0 q7 hsz hd
  | 13, _, h, h0 => absurd h0 (by decide)
  | 14, _, h, h0 => absurd h0 (by decide)
  | 15, _, h, h0 => absurd h0 (by decide)
  | 16, _, h, h0 => absurd h0 (by decide)
  | 17, _, h, h0 => absurd h0 (by decide)
  | 18, _, h, h0 => absurd h0 (by decide)
  | 19, _, h, h0 => absurd h0 (by decide)
  | 20, _, h, h0 => absurd h0 (by decide)
  | 21, _, h, h0 => absurd h0 (by decide)
  | 22, _, h, h0 => absurd h0 (by decide)
  | 23, _, h, h0 => absurd h0 (by decide)
  | 24, _, h, h0 => absurd h0 (by decide)
  | 25, _, h, h0 => absurd h0 (by decide)
  | 26, _, h, h0 => absurd h0 (by decide)
  | 27, _, h, h0 => absurd h0 (by decide)
  | 28, _, h, h0 => absurd h0 (by decide)
  | 29, _, h, h0 => absurd h0 (by decide)
  | 30, _, h, h0 => absurd h0 (by decide)
  | 31, _, h, h0 => absurd h0 (by decide)
  | 32, _, h, h0 => tail_wp t4_32 h q0 q7 hsz hd
  | 33, _, h, h0 => absurd h0 (by decide)
  | 34, _, h, h0 => absurd h0 (by decide)
  | 35, _, h, h0 => absurd h0 (by decide)
  | 36, _, h, h0 => absurd h0 (by decide)
  | 37, _, h, h0 => absurd h0 (by decide)
  | 38, _, h, h0 => absurd h0 (by decide)
  | 39, _, h, h0 => absurd h0 (by decide)
  | 40, _, h, h0 => absurd h0 (by decide)
  | 41, _, h, h0 => absurd h0 (by decide)
  | 42, _, h, h0 => absurd h0 (by decide)
  | 43, _, h, h0 => absurd h0 (by decide)
  | 44, _, h, h0 => absurd h0 (by decide)
  | 45, _, h, h0 => absurd h0 (by decide)
  | 46, _, h, h0 => absurd h0 (by decide)
  | 47, _, h, h0 => absurd h0 (by decide)
  | 48, _, h, h0 => absurd h0 (by decide)
  | 49, _, h, h0 => absurd h0 (by decide)
  | 50, _, h, h0 => absurd h0 (by decide)
  | 51, _, h, h0 => absurd h0 (by decide)
  | 52, _, h, h0 => absurd h0 (by decide)
  | 53, _, h, h0 => tail_wp t4_53 h q0 q7 hsz hd
  | 54, _, h, h0 => absurd h0 (by decide)
  | 55, _, h, h0 => absurd h0 (by decide)
  | 56, _, h, h0 => absurd h0 (by decide)
  | 57, _, h, h0 => absurd h0 (by decide)
  | 58, _, h, h0 => absurd h0 (by decide)
  | 59, _, h, h0 => absurd h0 (by decide)
  | 60, _, h, h0 => absurd h0 (by decide)
  | 61, _, h, h0 => absurd h0 (by decide)
  | 62, _, h, h0 => absurd h0 (by decide)
  | 63, _, h, h0 => absurd h0 (by decide)
  | 64, _, h, h0 => absurd h0 (by decide)
  | 65, _, h, h0 => absurd h0 (by decide)
  | 66, _, h, h0 => absurd h0 (by decide)
  | 67, _, h, h0 => absurd h0 (by decide)
  | 68, _, h, h0 => absurd h0 (by decide)
  | 69, _, h, h0 => tail_wp t4_69 h q0 q7 hsz hd
  | 70, _, h, h0 => absurd h0 (by decide)
  | 71, _, h, h0 => absurd h0 (by decide)
  | 72, _, h, h0 => absurd h0 (by decide)
  | 73, _, h, h0 => absurd h0 (by decide)
  | 74, _, h, h0 => absurd h0 (by decide)
  | 75, _, h, h0 => absurd h0 (by decide)
  | 76, _, h, h0 => absurd h0 (by decide)
  | 77, _, h, h0 => absurd h0 (by decide)
  | 78, _, h, h0 => tail_wp t4_78 h q0 q7 hsz hd
  | 79, _, h, h0 => absurd h0 (by decide)
  | 80, _, h, h0 => absurd h0 (by decide)
  | 81, _, h, h0 => absurd h0 (by decide)
  | 82, _, h, h0 => tail_wp t4_82 h q0 q7 hsz hd
  | s + 83, h, _, _ => absurd h (by omega)
theorem be4 (s : Nat) (w0 : World) (u : Value) (w : World) (h : G4 s w0 u w) : Below w0.heap.size w0 w ∧ G4 s w0 u w.drew := by
  unfold G4 at h ⊢
  split at h
  all_goals first
    | exact ⟨h.below, h.drew⟩
    | exact h.elim
theorem sen4 (s : Nat) (w0 : World) (u : Value) (w : World) (h : G4 s w0 u w) (hs : s < 5) : Calls Tryz.prog 9 #[u, .int .i64 0, .int .i64 0] w fun e w' => e = .returned (.bool true) ∧ G4 (s + 1) w0 u w' := match s, hs, h with
  | 0, _, h => call2v se4_1 rfl rfl rfl h
  | 1, _, h => call2v se4_2 rfl rfl rfl h
  | 2, _, h => call2v se4_3 rfl rfl rfl h
  | 3, _, h => call2v se4_4 rfl rfl rfl h
  | 4, _, h => call2v se4_5 rfl rfl rfl h
  | s + 5, h, _ => absurd h (by omega)
theorem law4 (x : Int) (a1 a2 : Option Addr) (n1 n2 c1 c2 : Nat) (w : World) (hx : 1 + x % 4 = (4 : Nat)) (hcell : ∀ i, i < n2 → ∃ ad z, a2 = some ad ∧ w.cell? (ad.add i) = some (.int .i64 z)) :
    Calls Tryz.prog 3 #[.int .i64 x, .slice a1 n1 c1, .slice a2 n2 c2] w fun e w' => e = .returned (.bool true) ∧ Below w.heap.size w w' :=
  walk_a (D := DS) (E := ES) (S := G4) (und := und4) (mu := mu4) 4 x a1 a2 n1 n2 c1 c2 w (by decide) (by decide) hx known_calls
    (fun w0 w hb => (ready_calls w).mono fun e w' ⟨u, h1, h2⟩ => ⟨u, h1, h2.base hb⟩)
    (fun x n w h1 h2 => within_calls x n h1 h2 w) edge_c do_c
    (fun w0 u w h => call2v se4_0 rfl rfl rfl h)
    (fun s w0 u w h hs => sen4 s w0 u w h hs)
    (fun s w0 u w h hs => un4 s w0 u w h hs)
    (by decide)
    (fun s w0 u w h => (be4 s w0 u w h).1) (fun s w0 u w h => (be4 s w0 u w h).2) hcell
    (fun s k w0 u w h hs hk => step4 s k w0 u w h hs hk)
    (by decide) (by decide)
    (fun s w0 u wr a c hc h hs h0 hsz hd q0 q7 => by
      subst hc
      exact ta4 s w0 u wr a h hs h0 q0 q7 (by rw [hsz]; decide) hd)

end Go.Proofs.YtaceajadklmddaaGreat
