/- The law GroupSnaps: the loop, server 2 away. -/
import Derived.Test.YtoojkcadgocbdaaGreatSl2a
import Derived.Test.YtoojkcadgocbdaaGreatSl2b
import Derived.Test.YtoojkcadgocbdaaGreatSs
namespace Go.Proofs.YtoojkcadgocbdaaGreat
open Go Go.Cx Go.RowKit

theorem dn2_14 {n away : Int} {m : Nat} {wB : World} (hm : 14 ≤ m) (h : LpN n away m 2 wB P2_14) : LpN n away m 2 wB P2_0 := (loop_go (x := P2_0) (y := P2_14) (k := 0) (c := 14) (by omega) P2_14_h h)
theorem dn2_25 {n away : Int} {m : Nat} {wB : World} (hm : 25 ≤ m) (h : LpN n away m 2 wB P2_25) : LpN n away m 2 wB P2_0 := dn2_14 (by omega) (loop_go (x := P2_14) (y := P2_25) (k := 14) (c := 11) (by omega) P2_25_h h)
theorem dn2_30 {n away : Int} {m : Nat} {wB : World} (hm : 30 ≤ m) (h : LpN n away m 2 wB P2_30) : LpN n away m 2 wB P2_0 := dn2_25 (by omega) (loop_go (x := P2_25) (y := P2_30) (k := 25) (c := 5) (by omega) P2_30_h h)
theorem dn2_31 {n away : Int} {m : Nat} {wB : World} (hm : 31 ≤ m) (h : LpN n away m 2 wB P2_31) : LpN n away m 2 wB P2_0 := dn2_30 (by omega) (loop_go (x := P2_30) (y := P2_31) (k := 30) (c := 1) (by omega) P2_31_h h)
theorem dn2_32 {n away : Int} {m : Nat} {wB : World} (hm : 32 ≤ m) (h : LpN n away m 2 wB P2_32) : LpN n away m 2 wB P2_0 := dn2_31 (by omega) (loop_go (x := P2_31) (y := P2_32) (k := 31) (c := 1) (by omega) P2_32_h h)
theorem dn2_33 {n away : Int} {m : Nat} {wB : World} (hm : 33 ≤ m) (h : LpN n away m 2 wB P2_33) : LpN n away m 2 wB P2_0 := dn2_32 (by omega) (loop_go (x := P2_32) (y := P2_33) (k := 32) (c := 1) (by omega) P2_33_h h)
theorem dn2_34 {n away : Int} {m : Nat} {wB : World} (hm : 34 ≤ m) (h : LpN n away m 2 wB P2_34) : LpN n away m 2 wB P2_0 := dn2_33 (by omega) (loop_go (x := P2_33) (y := P2_34) (k := 33) (c := 1) (by omega) P2_34_h h)
theorem dn2_35 {n away : Int} {m : Nat} {wB : World} (hm : 35 ≤ m) (h : LpN n away m 2 wB P2_35) : LpN n away m 2 wB P2_0 := dn2_34 (by omega) (loop_go (x := P2_34) (y := P2_35) (k := 34) (c := 1) (by omega) P2_35_h h)
theorem dn2_36 {n away : Int} {m : Nat} {wB : World} (hm : 36 ≤ m) (h : LpN n away m 2 wB P2_36) : LpN n away m 2 wB P2_0 := dn2_35 (by omega) (loop_go (x := P2_35) (y := P2_36) (k := 35) (c := 1) (by omega) P2_36_h h)
theorem dn2_37 {n away : Int} {m : Nat} {wB : World} (hm : 37 ≤ m) (h : LpN n away m 2 wB P2_37) : LpN n away m 2 wB P2_0 := dn2_36 (by omega) (loop_go (x := P2_36) (y := P2_37) (k := 36) (c := 1) (by omega) P2_37_h h)
theorem dn2_38 {n away : Int} {m : Nat} {wB : World} (hm : 38 ≤ m) (h : LpN n away m 2 wB P2_38) : LpN n away m 2 wB P2_0 := dn2_37 (by omega) (loop_go (x := P2_37) (y := P2_38) (k := 37) (c := 1) (by omega) P2_38_h h)
theorem dn2_39 {n away : Int} {m : Nat} {wB : World} (hm : 39 ≤ m) (h : LpN n away m 2 wB P2_39) : LpN n away m 2 wB P2_0 := dn2_38 (by omega) (loop_go (x := P2_38) (y := P2_39) (k := 38) (c := 1) (by omega) P2_39_h h)
theorem dn2_40 {n away : Int} {m : Nat} {wB : World} (hm : 40 ≤ m) (h : LpN n away m 2 wB P2_40) : LpN n away m 2 wB P2_0 := dn2_39 (by omega) (loop_go (x := P2_39) (y := P2_40) (k := 39) (c := 1) (by omega) P2_40_h h)
theorem dn2_41 {n away : Int} {m : Nat} {wB : World} (hm : 41 ≤ m) (h : LpN n away m 2 wB P2_41) : LpN n away m 2 wB P2_0 := dn2_40 (by omega) (loop_go (x := P2_40) (y := P2_41) (k := 40) (c := 1) (by omega) P2_41_h h)
theorem dn2_42 {n away : Int} {m : Nat} {wB : World} (hm : 42 ≤ m) (h : LpN n away m 2 wB P2_42) : LpN n away m 2 wB P2_0 := dn2_41 (by omega) (loop_go (x := P2_41) (y := P2_42) (k := 41) (c := 1) (by omega) P2_42_h h)
theorem dn2_43 {n away : Int} {m : Nat} {wB : World} (hm : 43 ≤ m) (h : LpN n away m 2 wB P2_43) : LpN n away m 2 wB P2_0 := dn2_42 (by omega) (loop_go (x := P2_42) (y := P2_43) (k := 42) (c := 1) (by omega) P2_43_h h)
theorem dn2_44 {n away : Int} {m : Nat} {wB : World} (hm : 44 ≤ m) (h : LpN n away m 2 wB P2_44) : LpN n away m 2 wB P2_0 := dn2_43 (by omega) (loop_go (x := P2_43) (y := P2_44) (k := 43) (c := 1) (by omega) P2_44_h h)
theorem dn2_45 {n away : Int} {m : Nat} {wB : World} (hm : 45 ≤ m) (h : LpN n away m 2 wB P2_45) : LpN n away m 2 wB P2_0 := dn2_44 (by omega) (loop_go (x := P2_44) (y := P2_45) (k := 44) (c := 1) (by omega) P2_45_h h)
theorem dn2_46 {n away : Int} {m : Nat} {wB : World} (hm : 46 ≤ m) (h : LpN n away m 2 wB P2_46) : LpN n away m 2 wB P2_0 := dn2_45 (by omega) (loop_go (x := P2_45) (y := P2_46) (k := 45) (c := 1) (by omega) P2_46_h h)
theorem dn2_47 {n away : Int} {m : Nat} {wB : World} (hm : 47 ≤ m) (h : LpN n away m 2 wB P2_47) : LpN n away m 2 wB P2_0 := dn2_46 (by omega) (loop_go (x := P2_46) (y := P2_47) (k := 46) (c := 1) (by omega) P2_47_h h)
theorem dn2_48 {n away : Int} {m : Nat} {wB : World} (hm : 48 ≤ m) (h : LpN n away m 2 wB P2_48) : LpN n away m 2 wB P2_0 := dn2_47 (by omega) (loop_go (x := P2_47) (y := P2_48) (k := 47) (c := 1) (by omega) P2_48_h h)
theorem dn2_49 {n away : Int} {m : Nat} {wB : World} (hm : 49 ≤ m) (h : LpN n away m 2 wB P2_49) : LpN n away m 2 wB P2_0 := dn2_48 (by omega) (loop_go (x := P2_48) (y := P2_49) (k := 48) (c := 1) (by omega) P2_49_h h)
theorem dn2_50 {n away : Int} {m : Nat} {wB : World} (hm : 50 ≤ m) (h : LpN n away m 2 wB P2_50) : LpN n away m 2 wB P2_0 := dn2_49 (by omega) (loop_go (x := P2_49) (y := P2_50) (k := 49) (c := 1) (by omega) P2_50_h h)
theorem dn2_51 {n away : Int} {m : Nat} {wB : World} (hm : 51 ≤ m) (h : LpN n away m 2 wB P2_51) : LpN n away m 2 wB P2_0 := dn2_50 (by omega) (loop_go (x := P2_50) (y := P2_51) (k := 50) (c := 1) (by omega) P2_51_h h)
theorem dn2_52 {n away : Int} {m : Nat} {wB : World} (hm : 52 ≤ m) (h : LpN n away m 2 wB P2_52) : LpN n away m 2 wB P2_0 := dn2_51 (by omega) (loop_go (x := P2_51) (y := P2_52) (k := 51) (c := 1) (by omega) P2_52_h h)
theorem dn2_53 {n away : Int} {m : Nat} {wB : World} (hm : 53 ≤ m) (h : LpN n away m 2 wB P2_53) : LpN n away m 2 wB P2_0 := dn2_52 (by omega) (loop_go (x := P2_52) (y := P2_53) (k := 52) (c := 1) (by omega) P2_53_h h)
theorem dn2_54 {n away : Int} {m : Nat} {wB : World} (hm : 54 ≤ m) (h : LpN n away m 2 wB P2_54) : LpN n away m 2 wB P2_0 := dn2_53 (by omega) (loop_go (x := P2_53) (y := P2_54) (k := 53) (c := 1) (by omega) P2_54_h h)
theorem dn2_55 {n away : Int} {m : Nat} {wB : World} (hm : 55 ≤ m) (h : LpN n away m 2 wB P2_55) : LpN n away m 2 wB P2_0 := dn2_54 (by omega) (loop_go (x := P2_54) (y := P2_55) (k := 54) (c := 1) (by omega) P2_55_h h)
theorem dn2_56 {n away : Int} {m : Nat} {wB : World} (hm : 56 ≤ m) (h : LpN n away m 2 wB P2_56) : LpN n away m 2 wB P2_0 := dn2_55 (by omega) (loop_go (x := P2_55) (y := P2_56) (k := 55) (c := 1) (by omega) P2_56_h h)
theorem dn2_57 {n away : Int} {m : Nat} {wB : World} (hm : 57 ≤ m) (h : LpN n away m 2 wB P2_57) : LpN n away m 2 wB P2_0 := dn2_56 (by omega) (loop_go (x := P2_56) (y := P2_57) (k := 56) (c := 1) (by omega) P2_57_h h)
theorem dn2_58 {n away : Int} {m : Nat} {wB : World} (hm : 58 ≤ m) (h : LpN n away m 2 wB P2_58) : LpN n away m 2 wB P2_0 := dn2_57 (by omega) (loop_go (x := P2_57) (y := P2_58) (k := 57) (c := 1) (by omega) P2_58_h h)
theorem dn2_59 {n away : Int} {m : Nat} {wB : World} (hm : 59 ≤ m) (h : LpN n away m 2 wB P2_59) : LpN n away m 2 wB P2_0 := dn2_58 (by omega) (loop_go (x := P2_58) (y := P2_59) (k := 58) (c := 1) (by omega) P2_59_h h)
theorem dn2_60 {n away : Int} {m : Nat} {wB : World} (hm : 60 ≤ m) (h : LpN n away m 2 wB P2_60) : LpN n away m 2 wB P2_0 := dn2_59 (by omega) (loop_go (x := P2_59) (y := P2_60) (k := 59) (c := 1) (by omega) P2_60_h h)
theorem dn2_61 {n away : Int} {m : Nat} {wB : World} (hm : 61 ≤ m) (h : LpN n away m 2 wB P2_61) : LpN n away m 2 wB P2_0 := dn2_60 (by omega) (loop_go (x := P2_60) (y := P2_61) (k := 60) (c := 1) (by omega) P2_61_h h)
theorem dn2_62 {n away : Int} {m : Nat} {wB : World} (hm : 62 ≤ m) (h : LpN n away m 2 wB P2_62) : LpN n away m 2 wB P2_0 := dn2_61 (by omega) (loop_go (x := P2_61) (y := P2_62) (k := 61) (c := 1) (by omega) P2_62_h h)
theorem dn2_63 {n away : Int} {m : Nat} {wB : World} (hm : 63 ≤ m) (h : LpN n away m 2 wB P2_63) : LpN n away m 2 wB P2_0 := dn2_62 (by omega) (loop_go (x := P2_62) (y := P2_63) (k := 62) (c := 1) (by omega) P2_63_h h)
theorem dn2_64 {n away : Int} {m : Nat} {wB : World} (hm : 64 ≤ m) (h : LpN n away m 2 wB P2_64) : LpN n away m 2 wB P2_0 := dn2_63 (by omega) (loop_go (x := P2_63) (y := P2_64) (k := 63) (c := 1) (by omega) P2_64_h h)
theorem dn2_65 {n away : Int} {m : Nat} {wB : World} (hm : 65 ≤ m) (h : LpN n away m 2 wB P2_65) : LpN n away m 2 wB P2_0 := dn2_64 (by omega) (loop_go (x := P2_64) (y := P2_65) (k := 64) (c := 1) (by omega) P2_65_h h)
theorem dn2_66 {n away : Int} {m : Nat} {wB : World} (hm : 66 ≤ m) (h : LpN n away m 2 wB P2_66) : LpN n away m 2 wB P2_0 := dn2_65 (by omega) (loop_go (x := P2_65) (y := P2_66) (k := 65) (c := 1) (by omega) P2_66_h h)
theorem dn2_67 {n away : Int} {m : Nat} {wB : World} (hm : 67 ≤ m) (h : LpN n away m 2 wB P2_67) : LpN n away m 2 wB P2_0 := dn2_66 (by omega) (loop_go (x := P2_66) (y := P2_67) (k := 66) (c := 1) (by omega) P2_67_h h)
theorem dn2_68 {n away : Int} {m : Nat} {wB : World} (hm : 68 ≤ m) (h : LpN n away m 2 wB P2_68) : LpN n away m 2 wB P2_0 := dn2_67 (by omega) (loop_go (x := P2_67) (y := P2_68) (k := 67) (c := 1) (by omega) P2_68_h h)
theorem dn2_69 {n away : Int} {m : Nat} {wB : World} (hm : 69 ≤ m) (h : LpN n away m 2 wB P2_69) : LpN n away m 2 wB P2_0 := dn2_68 (by omega) (loop_go (x := P2_68) (y := P2_69) (k := 68) (c := 1) (by omega) P2_69_h h)
theorem in2 {n away : Int} {m : Nat} {wB : World} (hn : 30 + n % 40 = m) (hb : 1 + away % 2 = (2 : Nat)) (h : LpN n away m 2 wB P2_0) : Calls Tryz.prog 3 #[.int .i64 n, .int .i64 away] wB fun e w' => e = .returned (.bool true) ∧ Below wB.heap.size wB w' := by
  obtain ⟨i, rfl⟩ : ∃ i : Nat, m = 30 + i := ⟨m - 30, by omega⟩
  exact start_calls (x := S0) hn hb (S0_h2 (by omega)) (End.mid (j := 3) (k := 1) (x := S0) (y := S1) o0_ok S1_h (loop_start (x := S1) (y := P2_0) P2_0_h h))

end Go.Proofs.YtoojkcadgocbdaaGreat
