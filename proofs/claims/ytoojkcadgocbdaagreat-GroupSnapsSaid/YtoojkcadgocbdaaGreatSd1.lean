/- The law GroupSnaps: the loop, server 1 away. -/
import Derived.Test.YtoojkcadgocbdaaGreatSl1a
import Derived.Test.YtoojkcadgocbdaaGreatSl1b
import Derived.Test.YtoojkcadgocbdaaGreatSs
namespace Go.Proofs.YtoojkcadgocbdaaGreat
open Go Go.Cx Go.RowKit

theorem dn1_14 {n away : Int} {m : Nat} {wB : World} (hm : 14 ≤ m) (h : LpN n away m 1 wB P1_14) : LpN n away m 1 wB P1_0 := (loop_go (x := P1_0) (y := P1_14) (k := 0) (c := 14) (by omega) P1_14_h h)
theorem dn1_25 {n away : Int} {m : Nat} {wB : World} (hm : 25 ≤ m) (h : LpN n away m 1 wB P1_25) : LpN n away m 1 wB P1_0 := dn1_14 (by omega) (loop_go (x := P1_14) (y := P1_25) (k := 14) (c := 11) (by omega) P1_25_h h)
theorem dn1_30 {n away : Int} {m : Nat} {wB : World} (hm : 30 ≤ m) (h : LpN n away m 1 wB P1_30) : LpN n away m 1 wB P1_0 := dn1_25 (by omega) (loop_go (x := P1_25) (y := P1_30) (k := 25) (c := 5) (by omega) P1_30_h h)
theorem dn1_31 {n away : Int} {m : Nat} {wB : World} (hm : 31 ≤ m) (h : LpN n away m 1 wB P1_31) : LpN n away m 1 wB P1_0 := dn1_30 (by omega) (loop_go (x := P1_30) (y := P1_31) (k := 30) (c := 1) (by omega) P1_31_h h)
theorem dn1_32 {n away : Int} {m : Nat} {wB : World} (hm : 32 ≤ m) (h : LpN n away m 1 wB P1_32) : LpN n away m 1 wB P1_0 := dn1_31 (by omega) (loop_go (x := P1_31) (y := P1_32) (k := 31) (c := 1) (by omega) P1_32_h h)
theorem dn1_33 {n away : Int} {m : Nat} {wB : World} (hm : 33 ≤ m) (h : LpN n away m 1 wB P1_33) : LpN n away m 1 wB P1_0 := dn1_32 (by omega) (loop_go (x := P1_32) (y := P1_33) (k := 32) (c := 1) (by omega) P1_33_h h)
theorem dn1_34 {n away : Int} {m : Nat} {wB : World} (hm : 34 ≤ m) (h : LpN n away m 1 wB P1_34) : LpN n away m 1 wB P1_0 := dn1_33 (by omega) (loop_go (x := P1_33) (y := P1_34) (k := 33) (c := 1) (by omega) P1_34_h h)
theorem dn1_35 {n away : Int} {m : Nat} {wB : World} (hm : 35 ≤ m) (h : LpN n away m 1 wB P1_35) : LpN n away m 1 wB P1_0 := dn1_34 (by omega) (loop_go (x := P1_34) (y := P1_35) (k := 34) (c := 1) (by omega) P1_35_h h)
theorem dn1_36 {n away : Int} {m : Nat} {wB : World} (hm : 36 ≤ m) (h : LpN n away m 1 wB P1_36) : LpN n away m 1 wB P1_0 := dn1_35 (by omega) (loop_go (x := P1_35) (y := P1_36) (k := 35) (c := 1) (by omega) P1_36_h h)
theorem dn1_37 {n away : Int} {m : Nat} {wB : World} (hm : 37 ≤ m) (h : LpN n away m 1 wB P1_37) : LpN n away m 1 wB P1_0 := dn1_36 (by omega) (loop_go (x := P1_36) (y := P1_37) (k := 36) (c := 1) (by omega) P1_37_h h)
theorem dn1_38 {n away : Int} {m : Nat} {wB : World} (hm : 38 ≤ m) (h : LpN n away m 1 wB P1_38) : LpN n away m 1 wB P1_0 := dn1_37 (by omega) (loop_go (x := P1_37) (y := P1_38) (k := 37) (c := 1) (by omega) P1_38_h h)
theorem dn1_39 {n away : Int} {m : Nat} {wB : World} (hm : 39 ≤ m) (h : LpN n away m 1 wB P1_39) : LpN n away m 1 wB P1_0 := dn1_38 (by omega) (loop_go (x := P1_38) (y := P1_39) (k := 38) (c := 1) (by omega) P1_39_h h)
theorem dn1_40 {n away : Int} {m : Nat} {wB : World} (hm : 40 ≤ m) (h : LpN n away m 1 wB P1_40) : LpN n away m 1 wB P1_0 := dn1_39 (by omega) (loop_go (x := P1_39) (y := P1_40) (k := 39) (c := 1) (by omega) P1_40_h h)
theorem dn1_41 {n away : Int} {m : Nat} {wB : World} (hm : 41 ≤ m) (h : LpN n away m 1 wB P1_41) : LpN n away m 1 wB P1_0 := dn1_40 (by omega) (loop_go (x := P1_40) (y := P1_41) (k := 40) (c := 1) (by omega) P1_41_h h)
theorem dn1_42 {n away : Int} {m : Nat} {wB : World} (hm : 42 ≤ m) (h : LpN n away m 1 wB P1_42) : LpN n away m 1 wB P1_0 := dn1_41 (by omega) (loop_go (x := P1_41) (y := P1_42) (k := 41) (c := 1) (by omega) P1_42_h h)
theorem dn1_43 {n away : Int} {m : Nat} {wB : World} (hm : 43 ≤ m) (h : LpN n away m 1 wB P1_43) : LpN n away m 1 wB P1_0 := dn1_42 (by omega) (loop_go (x := P1_42) (y := P1_43) (k := 42) (c := 1) (by omega) P1_43_h h)
theorem dn1_44 {n away : Int} {m : Nat} {wB : World} (hm : 44 ≤ m) (h : LpN n away m 1 wB P1_44) : LpN n away m 1 wB P1_0 := dn1_43 (by omega) (loop_go (x := P1_43) (y := P1_44) (k := 43) (c := 1) (by omega) P1_44_h h)
theorem dn1_45 {n away : Int} {m : Nat} {wB : World} (hm : 45 ≤ m) (h : LpN n away m 1 wB P1_45) : LpN n away m 1 wB P1_0 := dn1_44 (by omega) (loop_go (x := P1_44) (y := P1_45) (k := 44) (c := 1) (by omega) P1_45_h h)
theorem dn1_46 {n away : Int} {m : Nat} {wB : World} (hm : 46 ≤ m) (h : LpN n away m 1 wB P1_46) : LpN n away m 1 wB P1_0 := dn1_45 (by omega) (loop_go (x := P1_45) (y := P1_46) (k := 45) (c := 1) (by omega) P1_46_h h)
theorem dn1_47 {n away : Int} {m : Nat} {wB : World} (hm : 47 ≤ m) (h : LpN n away m 1 wB P1_47) : LpN n away m 1 wB P1_0 := dn1_46 (by omega) (loop_go (x := P1_46) (y := P1_47) (k := 46) (c := 1) (by omega) P1_47_h h)
theorem dn1_48 {n away : Int} {m : Nat} {wB : World} (hm : 48 ≤ m) (h : LpN n away m 1 wB P1_48) : LpN n away m 1 wB P1_0 := dn1_47 (by omega) (loop_go (x := P1_47) (y := P1_48) (k := 47) (c := 1) (by omega) P1_48_h h)
theorem dn1_49 {n away : Int} {m : Nat} {wB : World} (hm : 49 ≤ m) (h : LpN n away m 1 wB P1_49) : LpN n away m 1 wB P1_0 := dn1_48 (by omega) (loop_go (x := P1_48) (y := P1_49) (k := 48) (c := 1) (by omega) P1_49_h h)
theorem dn1_50 {n away : Int} {m : Nat} {wB : World} (hm : 50 ≤ m) (h : LpN n away m 1 wB P1_50) : LpN n away m 1 wB P1_0 := dn1_49 (by omega) (loop_go (x := P1_49) (y := P1_50) (k := 49) (c := 1) (by omega) P1_50_h h)
theorem dn1_51 {n away : Int} {m : Nat} {wB : World} (hm : 51 ≤ m) (h : LpN n away m 1 wB P1_51) : LpN n away m 1 wB P1_0 := dn1_50 (by omega) (loop_go (x := P1_50) (y := P1_51) (k := 50) (c := 1) (by omega) P1_51_h h)
theorem dn1_52 {n away : Int} {m : Nat} {wB : World} (hm : 52 ≤ m) (h : LpN n away m 1 wB P1_52) : LpN n away m 1 wB P1_0 := dn1_51 (by omega) (loop_go (x := P1_51) (y := P1_52) (k := 51) (c := 1) (by omega) P1_52_h h)
theorem dn1_53 {n away : Int} {m : Nat} {wB : World} (hm : 53 ≤ m) (h : LpN n away m 1 wB P1_53) : LpN n away m 1 wB P1_0 := dn1_52 (by omega) (loop_go (x := P1_52) (y := P1_53) (k := 52) (c := 1) (by omega) P1_53_h h)
theorem dn1_54 {n away : Int} {m : Nat} {wB : World} (hm : 54 ≤ m) (h : LpN n away m 1 wB P1_54) : LpN n away m 1 wB P1_0 := dn1_53 (by omega) (loop_go (x := P1_53) (y := P1_54) (k := 53) (c := 1) (by omega) P1_54_h h)
theorem dn1_55 {n away : Int} {m : Nat} {wB : World} (hm : 55 ≤ m) (h : LpN n away m 1 wB P1_55) : LpN n away m 1 wB P1_0 := dn1_54 (by omega) (loop_go (x := P1_54) (y := P1_55) (k := 54) (c := 1) (by omega) P1_55_h h)
theorem dn1_56 {n away : Int} {m : Nat} {wB : World} (hm : 56 ≤ m) (h : LpN n away m 1 wB P1_56) : LpN n away m 1 wB P1_0 := dn1_55 (by omega) (loop_go (x := P1_55) (y := P1_56) (k := 55) (c := 1) (by omega) P1_56_h h)
theorem dn1_57 {n away : Int} {m : Nat} {wB : World} (hm : 57 ≤ m) (h : LpN n away m 1 wB P1_57) : LpN n away m 1 wB P1_0 := dn1_56 (by omega) (loop_go (x := P1_56) (y := P1_57) (k := 56) (c := 1) (by omega) P1_57_h h)
theorem dn1_58 {n away : Int} {m : Nat} {wB : World} (hm : 58 ≤ m) (h : LpN n away m 1 wB P1_58) : LpN n away m 1 wB P1_0 := dn1_57 (by omega) (loop_go (x := P1_57) (y := P1_58) (k := 57) (c := 1) (by omega) P1_58_h h)
theorem dn1_59 {n away : Int} {m : Nat} {wB : World} (hm : 59 ≤ m) (h : LpN n away m 1 wB P1_59) : LpN n away m 1 wB P1_0 := dn1_58 (by omega) (loop_go (x := P1_58) (y := P1_59) (k := 58) (c := 1) (by omega) P1_59_h h)
theorem dn1_60 {n away : Int} {m : Nat} {wB : World} (hm : 60 ≤ m) (h : LpN n away m 1 wB P1_60) : LpN n away m 1 wB P1_0 := dn1_59 (by omega) (loop_go (x := P1_59) (y := P1_60) (k := 59) (c := 1) (by omega) P1_60_h h)
theorem dn1_61 {n away : Int} {m : Nat} {wB : World} (hm : 61 ≤ m) (h : LpN n away m 1 wB P1_61) : LpN n away m 1 wB P1_0 := dn1_60 (by omega) (loop_go (x := P1_60) (y := P1_61) (k := 60) (c := 1) (by omega) P1_61_h h)
theorem dn1_62 {n away : Int} {m : Nat} {wB : World} (hm : 62 ≤ m) (h : LpN n away m 1 wB P1_62) : LpN n away m 1 wB P1_0 := dn1_61 (by omega) (loop_go (x := P1_61) (y := P1_62) (k := 61) (c := 1) (by omega) P1_62_h h)
theorem dn1_63 {n away : Int} {m : Nat} {wB : World} (hm : 63 ≤ m) (h : LpN n away m 1 wB P1_63) : LpN n away m 1 wB P1_0 := dn1_62 (by omega) (loop_go (x := P1_62) (y := P1_63) (k := 62) (c := 1) (by omega) P1_63_h h)
theorem dn1_64 {n away : Int} {m : Nat} {wB : World} (hm : 64 ≤ m) (h : LpN n away m 1 wB P1_64) : LpN n away m 1 wB P1_0 := dn1_63 (by omega) (loop_go (x := P1_63) (y := P1_64) (k := 63) (c := 1) (by omega) P1_64_h h)
theorem dn1_65 {n away : Int} {m : Nat} {wB : World} (hm : 65 ≤ m) (h : LpN n away m 1 wB P1_65) : LpN n away m 1 wB P1_0 := dn1_64 (by omega) (loop_go (x := P1_64) (y := P1_65) (k := 64) (c := 1) (by omega) P1_65_h h)
theorem dn1_66 {n away : Int} {m : Nat} {wB : World} (hm : 66 ≤ m) (h : LpN n away m 1 wB P1_66) : LpN n away m 1 wB P1_0 := dn1_65 (by omega) (loop_go (x := P1_65) (y := P1_66) (k := 65) (c := 1) (by omega) P1_66_h h)
theorem dn1_67 {n away : Int} {m : Nat} {wB : World} (hm : 67 ≤ m) (h : LpN n away m 1 wB P1_67) : LpN n away m 1 wB P1_0 := dn1_66 (by omega) (loop_go (x := P1_66) (y := P1_67) (k := 66) (c := 1) (by omega) P1_67_h h)
theorem dn1_68 {n away : Int} {m : Nat} {wB : World} (hm : 68 ≤ m) (h : LpN n away m 1 wB P1_68) : LpN n away m 1 wB P1_0 := dn1_67 (by omega) (loop_go (x := P1_67) (y := P1_68) (k := 67) (c := 1) (by omega) P1_68_h h)
theorem dn1_69 {n away : Int} {m : Nat} {wB : World} (hm : 69 ≤ m) (h : LpN n away m 1 wB P1_69) : LpN n away m 1 wB P1_0 := dn1_68 (by omega) (loop_go (x := P1_68) (y := P1_69) (k := 68) (c := 1) (by omega) P1_69_h h)
theorem in1 {n away : Int} {m : Nat} {wB : World} (hn : 30 + n % 40 = m) (hb : 1 + away % 2 = (1 : Nat)) (h : LpN n away m 1 wB P1_0) : Calls Tryz.prog 3 #[.int .i64 n, .int .i64 away] wB fun e w' => e = .returned (.bool true) ∧ Below wB.heap.size wB w' := by
  obtain ⟨i, rfl⟩ : ∃ i : Nat, m = 30 + i := ⟨m - 30, by omega⟩
  exact start_calls (x := S0) hn hb (S0_h1 (by omega)) (End.mid (j := 3) (k := 1) (x := S0) (y := S1) o0_ok S1_h (loop_start (x := S1) (y := P1_0) P1_0_h h))

end Go.Proofs.YtoojkcadgocbdaaGreat
