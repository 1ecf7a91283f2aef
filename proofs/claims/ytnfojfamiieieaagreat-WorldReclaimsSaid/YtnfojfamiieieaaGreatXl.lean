/- The law WorldReclaims: all that is waited. -/
import Derived.Test.YtnfojfamiieieaaGreatL0
import Derived.Test.YtnfojfamiieieaaGreatL1
import Derived.Test.YtnfojfamiieieaaGreatL2
import Derived.Test.YtnfojfamiieieaaGreatL3
import Derived.Test.YtnfojfamiieieaaGreatL4
import Derived.Test.YtnfojfamiieieaaGreatL5
import Derived.Test.YtnfojfamiieieaaGreatL6
import Derived.Test.YtnfojfamiieieaaGreatL7
import Derived.Test.YtnfojfamiieieaaGreatL8
import Derived.Test.YtnfojfamiieieaaGreatL9
import Derived.Test.YtnfojfamiieieaaGreatL10
import Derived.Test.YtnfojfamiieieaaGreatL11
import Derived.Test.YtnfojfamiieieaaGreatL12
import Derived.Test.YtnfojfamiieieaaGreatL13
namespace Go.Proofs.YtnfojfamiieieaaGreat
open Go Go.Cx Go.RowKit

set_option maxRecDepth 1000000 in
theorem d_s : linS 3 1 30 2 0 X3 S = true := by kernel_rfl
theorem leaf0 {ticks wait : Int} {down : Bool} {t : Nat} {wB : World} (h1 : 1 ≤ t) (h2 : t ≤ 30) : End ticks wait down t 0 wB 8 S := by
  cases hd : down with
  | true => exact End.last rfl h1 h2 (by decide) (by decide) d_s d0
  | false =>
    exact End.last rfl (lo := 1) (hi := 30) (by omega) h2 (by decide) (by decide) e0_s e0
theorem leaf1 {ticks wait : Int} {down : Bool} {t : Nat} {wB : World} (h1 : 1 ≤ t) (h2 : t ≤ 30) : End ticks wait down t 1 wB 8 S := by
  cases hd : down with
  | true => exact End.last rfl h1 h2 (by decide) (by decide) d_s d1
  | false =>
    exact End.last rfl (lo := 1) (hi := 30) (by omega) h2 (by decide) (by decide) e1_s e1
theorem leaf2 {ticks wait : Int} {down : Bool} {t : Nat} {wB : World} (h1 : 1 ≤ t) (h2 : t ≤ 30) : End ticks wait down t 2 wB 8 S := by
  cases hd : down with
  | true => exact End.last rfl h1 h2 (by decide) (by decide) d_s d2
  | false =>
    exact End.last rfl (lo := 1) (hi := 30) (by omega) h2 (by decide) (by decide) e2_s e2
theorem leaf3 {ticks wait : Int} {down : Bool} {t : Nat} {wB : World} (h1 : 1 ≤ t) (h2 : t ≤ 30) : End ticks wait down t 3 wB 8 S := by
  cases hd : down with
  | true => exact End.last rfl h1 h2 (by decide) (by decide) d_s d3
  | false =>
    exact End.last rfl (lo := 1) (hi := 30) (by omega) h2 (by decide) (by decide) e3_s e3
theorem leaf4 {ticks wait : Int} {down : Bool} {t : Nat} {wB : World} (h1 : 1 ≤ t) (h2 : t ≤ 30) : End ticks wait down t 4 wB 8 S := by
  cases hd : down with
  | true => exact End.last rfl h1 h2 (by decide) (by decide) d_s d4
  | false =>
    exact End.last rfl (lo := 1) (hi := 30) (by omega) h2 (by decide) (by decide) e4_s e4
theorem leaf5 {ticks wait : Int} {down : Bool} {t : Nat} {wB : World} (h1 : 1 ≤ t) (h2 : t ≤ 30) : End ticks wait down t 5 wB 8 S := by
  cases hd : down with
  | true => exact End.last rfl h1 h2 (by decide) (by decide) d_s d5
  | false =>
    exact End.last rfl (lo := 1) (hi := 30) (by omega) h2 (by decide) (by decide) e5_s e5
theorem leaf6 {ticks wait : Int} {down : Bool} {t : Nat} {wB : World} (h1 : 1 ≤ t) (h2 : t ≤ 30) : End ticks wait down t 6 wB 8 S := by
  cases hd : down with
  | true => exact End.last rfl h1 h2 (by decide) (by decide) d_s d6
  | false =>
    by_cases hc : 2 ≤ t
    · exact End.last rfl (lo := 2) (hi := 30) (by omega) h2 (by decide) (by decide) e6_s e6
    · exact End.last rfl (lo := 1) (hi := 1) h1 (by omega) (by decide) (by decide) f6_s f6
theorem leaf7 {ticks wait : Int} {down : Bool} {t : Nat} {wB : World} (h1 : 1 ≤ t) (h2 : t ≤ 30) : End ticks wait down t 7 wB 8 S := by
  cases hd : down with
  | true => exact End.last rfl h1 h2 (by decide) (by decide) d_s d7
  | false =>
    by_cases hc : 3 ≤ t
    · exact End.last rfl (lo := 3) (hi := 30) (by omega) h2 (by decide) (by decide) e7_s e7
    · exact End.last rfl (lo := 1) (hi := 2) h1 (by omega) (by decide) (by decide) f7_s f7
theorem leaf8 {ticks wait : Int} {down : Bool} {t : Nat} {wB : World} (h1 : 1 ≤ t) (h2 : t ≤ 30) : End ticks wait down t 8 wB 8 S := by
  cases hd : down with
  | true => exact End.last rfl h1 h2 (by decide) (by decide) d_s d8
  | false =>
    by_cases hc : 4 ≤ t
    · exact End.last rfl (lo := 4) (hi := 30) (by omega) h2 (by decide) (by decide) e8_s e8
    · exact End.last rfl (lo := 1) (hi := 3) h1 (by omega) (by decide) (by decide) f8_s f8
theorem leaf9 {ticks wait : Int} {down : Bool} {t : Nat} {wB : World} (h1 : 1 ≤ t) (h2 : t ≤ 30) : End ticks wait down t 9 wB 8 S := by
  cases hd : down with
  | true => exact End.last rfl h1 h2 (by decide) (by decide) d_s d9
  | false =>
    by_cases hc : 5 ≤ t
    · exact End.last rfl (lo := 5) (hi := 30) (by omega) h2 (by decide) (by decide) e9_s e9
    · exact End.last rfl (lo := 1) (hi := 4) h1 (by omega) (by decide) (by decide) f9_s f9
theorem leaf10 {ticks wait : Int} {down : Bool} {t : Nat} {wB : World} (h1 : 1 ≤ t) (h2 : t ≤ 30) : End ticks wait down t 10 wB 8 S := by
  cases hd : down with
  | true => exact End.last rfl h1 h2 (by decide) (by decide) d_s d10
  | false =>
    by_cases hc : 6 ≤ t
    · exact End.last rfl (lo := 6) (hi := 30) (by omega) h2 (by decide) (by decide) e10_s e10
    · exact End.last rfl (lo := 1) (hi := 5) h1 (by omega) (by decide) (by decide) f10_s f10
theorem leaf11 {ticks wait : Int} {down : Bool} {t : Nat} {wB : World} (h1 : 1 ≤ t) (h2 : t ≤ 30) : End ticks wait down t 11 wB 8 S := by
  cases hd : down with
  | true => exact End.last rfl h1 h2 (by decide) (by decide) d_s d11
  | false =>
    by_cases hc : 7 ≤ t
    · exact End.last rfl (lo := 7) (hi := 30) (by omega) h2 (by decide) (by decide) e11_s e11
    · exact End.last rfl (lo := 1) (hi := 6) h1 (by omega) (by decide) (by decide) f11_s f11
theorem leaf12 {ticks wait : Int} {down : Bool} {t : Nat} {wB : World} (h1 : 1 ≤ t) (h2 : t ≤ 30) : End ticks wait down t 12 wB 8 S := by
  cases hd : down with
  | true => exact End.last rfl h1 h2 (by decide) (by decide) d_s d12
  | false =>
    by_cases hc : 8 ≤ t
    · exact End.last rfl (lo := 8) (hi := 30) (by omega) h2 (by decide) (by decide) e12_s e12
    · exact End.last rfl (lo := 1) (hi := 7) h1 (by omega) (by decide) (by decide) f12_s f12
theorem leaf13 {ticks wait : Int} {down : Bool} {t : Nat} {wB : World} (h1 : 1 ≤ t) (h2 : t ≤ 30) : End ticks wait down t 13 wB 8 S := by
  cases hd : down with
  | true => exact End.last rfl h1 h2 (by decide) (by decide) d_s d13
  | false =>
    by_cases hc : 9 ≤ t
    · exact End.last rfl (lo := 9) (hi := 30) (by omega) h2 (by decide) (by decide) e13_s e13
    · exact End.last rfl (lo := 1) (hi := 8) h1 (by omega) (by decide) (by decide) f13_s f13
theorem leaf14 {ticks wait : Int} {down : Bool} {t : Nat} {wB : World} (h1 : 1 ≤ t) (h2 : t ≤ 30) : End ticks wait down t 14 wB 8 S := by
  cases hd : down with
  | true => exact End.last rfl h1 h2 (by decide) (by decide) d_s d14
  | false =>
    by_cases hc : 10 ≤ t
    · exact End.last rfl (lo := 10) (hi := 30) (by omega) h2 (by decide) (by decide) e14_s e14
    · exact End.last rfl (lo := 1) (hi := 9) h1 (by omega) (by decide) (by decide) f14_s f14
theorem leaf15 {ticks wait : Int} {down : Bool} {t : Nat} {wB : World} (h1 : 1 ≤ t) (h2 : t ≤ 30) : End ticks wait down t 15 wB 8 S := by
  cases hd : down with
  | true => exact End.last rfl h1 h2 (by decide) (by decide) d_s d15
  | false =>
    by_cases hc : 11 ≤ t
    · exact End.last rfl (lo := 11) (hi := 30) (by omega) h2 (by decide) (by decide) e15_s e15
    · exact End.last rfl (lo := 1) (hi := 10) h1 (by omega) (by decide) (by decide) f15_s f15
theorem leaf16 {ticks wait : Int} {down : Bool} {t : Nat} {wB : World} (h1 : 1 ≤ t) (h2 : t ≤ 30) : End ticks wait down t 16 wB 8 S := by
  cases hd : down with
  | true => exact End.last rfl h1 h2 (by decide) (by decide) d_s d16
  | false =>
    by_cases hc : 12 ≤ t
    · exact End.last rfl (lo := 12) (hi := 30) (by omega) h2 (by decide) (by decide) e16_s e16
    · exact End.last rfl (lo := 1) (hi := 11) h1 (by omega) (by decide) (by decide) f16_s f16
theorem leaf17 {ticks wait : Int} {down : Bool} {t : Nat} {wB : World} (h1 : 1 ≤ t) (h2 : t ≤ 30) : End ticks wait down t 17 wB 8 S := by
  cases hd : down with
  | true => exact End.last rfl h1 h2 (by decide) (by decide) d_s d17
  | false =>
    by_cases hc : 13 ≤ t
    · exact End.last rfl (lo := 13) (hi := 30) (by omega) h2 (by decide) (by decide) e17_s e17
    · exact End.last rfl (lo := 1) (hi := 12) h1 (by omega) (by decide) (by decide) f17_s f17
theorem leaf18 {ticks wait : Int} {down : Bool} {t : Nat} {wB : World} (h1 : 1 ≤ t) (h2 : t ≤ 30) : End ticks wait down t 18 wB 8 S := by
  cases hd : down with
  | true => exact End.last rfl h1 h2 (by decide) (by decide) d_s d18
  | false =>
    by_cases hc : 14 ≤ t
    · exact End.last rfl (lo := 14) (hi := 30) (by omega) h2 (by decide) (by decide) e18_s e18
    · exact End.last rfl (lo := 1) (hi := 13) h1 (by omega) (by decide) (by decide) f18_s f18
theorem leaf19 {ticks wait : Int} {down : Bool} {t : Nat} {wB : World} (h1 : 1 ≤ t) (h2 : t ≤ 30) : End ticks wait down t 19 wB 8 S := by
  cases hd : down with
  | true => exact End.last rfl h1 h2 (by decide) (by decide) d_s d19
  | false =>
    by_cases hc : 15 ≤ t
    · exact End.last rfl (lo := 15) (hi := 30) (by omega) h2 (by decide) (by decide) e19_s e19
    · exact End.last rfl (lo := 1) (hi := 14) h1 (by omega) (by decide) (by decide) f19_s f19
theorem leaf20 {ticks wait : Int} {down : Bool} {t : Nat} {wB : World} (h1 : 1 ≤ t) (h2 : t ≤ 30) : End ticks wait down t 20 wB 8 S := by
  cases hd : down with
  | true => exact End.last rfl h1 h2 (by decide) (by decide) d_s d20
  | false =>
    by_cases hc : 16 ≤ t
    · exact End.last rfl (lo := 16) (hi := 30) (by omega) h2 (by decide) (by decide) e20_s e20
    · exact End.last rfl (lo := 1) (hi := 15) h1 (by omega) (by decide) (by decide) f20_s f20
theorem leaf21 {ticks wait : Int} {down : Bool} {t : Nat} {wB : World} (h1 : 1 ≤ t) (h2 : t ≤ 30) : End ticks wait down t 21 wB 8 S := by
  cases hd : down with
  | true => exact End.last rfl h1 h2 (by decide) (by decide) d_s d21
  | false =>
    by_cases hc : 17 ≤ t
    · exact End.last rfl (lo := 17) (hi := 30) (by omega) h2 (by decide) (by decide) e21_s e21
    · exact End.last rfl (lo := 1) (hi := 16) h1 (by omega) (by decide) (by decide) f21_s f21
theorem leaf22 {ticks wait : Int} {down : Bool} {t : Nat} {wB : World} (h1 : 1 ≤ t) (h2 : t ≤ 30) : End ticks wait down t 22 wB 8 S := by
  cases hd : down with
  | true => exact End.last rfl h1 h2 (by decide) (by decide) d_s d22
  | false =>
    by_cases hc : 18 ≤ t
    · exact End.last rfl (lo := 18) (hi := 30) (by omega) h2 (by decide) (by decide) e22_s e22
    · exact End.last rfl (lo := 1) (hi := 17) h1 (by omega) (by decide) (by decide) f22_s f22
theorem leaf23 {ticks wait : Int} {down : Bool} {t : Nat} {wB : World} (h1 : 1 ≤ t) (h2 : t ≤ 30) : End ticks wait down t 23 wB 8 S := by
  cases hd : down with
  | true => exact End.last rfl h1 h2 (by decide) (by decide) d_s d23
  | false =>
    by_cases hc : 19 ≤ t
    · exact End.last rfl (lo := 19) (hi := 30) (by omega) h2 (by decide) (by decide) e23_s e23
    · exact End.last rfl (lo := 1) (hi := 18) h1 (by omega) (by decide) (by decide) f23_s f23
theorem leaf24 {ticks wait : Int} {down : Bool} {t : Nat} {wB : World} (h1 : 1 ≤ t) (h2 : t ≤ 30) : End ticks wait down t 24 wB 8 S := by
  cases hd : down with
  | true => exact End.last rfl h1 h2 (by decide) (by decide) d_s d24
  | false =>
    by_cases hc : 20 ≤ t
    · exact End.last rfl (lo := 20) (hi := 30) (by omega) h2 (by decide) (by decide) e24_s e24
    · exact End.last rfl (lo := 1) (hi := 19) h1 (by omega) (by decide) (by decide) f24_s f24
theorem leaf25 {ticks wait : Int} {down : Bool} {t : Nat} {wB : World} (h1 : 1 ≤ t) (h2 : t ≤ 30) : End ticks wait down t 25 wB 8 S := by
  cases hd : down with
  | true => exact End.last rfl h1 h2 (by decide) (by decide) d_s d25
  | false =>
    by_cases hc : 21 ≤ t
    · exact End.last rfl (lo := 21) (hi := 30) (by omega) h2 (by decide) (by decide) e25_s e25
    · exact End.last rfl (lo := 1) (hi := 20) h1 (by omega) (by decide) (by decide) f25_s f25
theorem leaf26 {ticks wait : Int} {down : Bool} {t : Nat} {wB : World} (h1 : 1 ≤ t) (h2 : t ≤ 30) : End ticks wait down t 26 wB 8 S := by
  cases hd : down with
  | true => exact End.last rfl h1 h2 (by decide) (by decide) d_s d26
  | false =>
    by_cases hc : 22 ≤ t
    · exact End.last rfl (lo := 22) (hi := 30) (by omega) h2 (by decide) (by decide) e26_s e26
    · exact End.last rfl (lo := 1) (hi := 21) h1 (by omega) (by decide) (by decide) f26_s f26
theorem leaf27 {ticks wait : Int} {down : Bool} {t : Nat} {wB : World} (h1 : 1 ≤ t) (h2 : t ≤ 30) : End ticks wait down t 27 wB 8 S := by
  cases hd : down with
  | true => exact End.last rfl h1 h2 (by decide) (by decide) d_s d27
  | false =>
    by_cases hc : 23 ≤ t
    · exact End.last rfl (lo := 23) (hi := 30) (by omega) h2 (by decide) (by decide) e27_s e27
    · exact End.last rfl (lo := 1) (hi := 22) h1 (by omega) (by decide) (by decide) f27_s f27
theorem leaf28 {ticks wait : Int} {down : Bool} {t : Nat} {wB : World} (h1 : 1 ≤ t) (h2 : t ≤ 30) : End ticks wait down t 28 wB 8 S := by
  cases hd : down with
  | true => exact End.last rfl h1 h2 (by decide) (by decide) d_s d28
  | false =>
    by_cases hc : 24 ≤ t
    · exact End.last rfl (lo := 24) (hi := 30) (by omega) h2 (by decide) (by decide) e28_s e28
    · exact End.last rfl (lo := 1) (hi := 23) h1 (by omega) (by decide) (by decide) f28_s f28
theorem leaf29 {ticks wait : Int} {down : Bool} {t : Nat} {wB : World} (h1 : 1 ≤ t) (h2 : t ≤ 30) : End ticks wait down t 29 wB 8 S := by
  cases hd : down with
  | true => exact End.last rfl h1 h2 (by decide) (by decide) d_s d29
  | false =>
    by_cases hc : 25 ≤ t
    · exact End.last rfl (lo := 25) (hi := 30) (by omega) h2 (by decide) (by decide) e29_s e29
    · exact End.last rfl (lo := 1) (hi := 24) h1 (by omega) (by decide) (by decide) f29_s f29
theorem leaf30 {ticks wait : Int} {down : Bool} {t : Nat} {wB : World} (h1 : 1 ≤ t) (h2 : t ≤ 30) : End ticks wait down t 30 wB 8 S := by
  cases hd : down with
  | true => exact End.last rfl h1 h2 (by decide) (by decide) d_s d30
  | false =>
    by_cases hc : 26 ≤ t
    · exact End.last rfl (lo := 26) (hi := 30) (by omega) h2 (by decide) (by decide) e30_s e30
    · exact End.last rfl (lo := 1) (hi := 25) h1 (by omega) (by decide) (by decide) f30_s f30
theorem leaf31 {ticks wait : Int} {down : Bool} {t : Nat} {wB : World} (h1 : 1 ≤ t) (h2 : t ≤ 30) : End ticks wait down t 31 wB 8 S := by
  cases hd : down with
  | true => exact End.last rfl h1 h2 (by decide) (by decide) d_s d31
  | false =>
    by_cases hc : 27 ≤ t
    · exact End.last rfl (lo := 27) (hi := 30) (by omega) h2 (by decide) (by decide) e31_s e31
    · exact End.last rfl (lo := 1) (hi := 26) h1 (by omega) (by decide) (by decide) f31_s f31
theorem leaf32 {ticks wait : Int} {down : Bool} {t : Nat} {wB : World} (h1 : 1 ≤ t) (h2 : t ≤ 30) : End ticks wait down t 32 wB 8 S := by
  cases hd : down with
  | true => exact End.last rfl h1 h2 (by decide) (by decide) d_s d32
  | false =>
    by_cases hc : 28 ≤ t
    · exact End.last rfl (lo := 28) (hi := 30) (by omega) h2 (by decide) (by decide) e32_s e32
    · exact End.last rfl (lo := 1) (hi := 27) h1 (by omega) (by decide) (by decide) f32_s f32
theorem leaf33 {ticks wait : Int} {down : Bool} {t : Nat} {wB : World} (h1 : 1 ≤ t) (h2 : t ≤ 30) : End ticks wait down t 33 wB 8 S := by
  cases hd : down with
  | true => exact End.last rfl h1 h2 (by decide) (by decide) d_s d33
  | false =>
    by_cases hc : 29 ≤ t
    · exact End.last rfl (lo := 29) (hi := 30) (by omega) h2 (by decide) (by decide) e33_s e33
    · exact End.last rfl (lo := 1) (hi := 28) h1 (by omega) (by decide) (by decide) f33_s f33
theorem leaf34 {ticks wait : Int} {down : Bool} {t : Nat} {wB : World} (h1 : 1 ≤ t) (h2 : t ≤ 30) : End ticks wait down t 34 wB 8 S := by
  cases hd : down with
  | true => exact End.last rfl h1 h2 (by decide) (by decide) d_s d34
  | false =>
    by_cases hc : 30 ≤ t
    · exact End.last rfl (lo := 30) (hi := 30) (by omega) h2 (by decide) (by decide) e34_s e34
    · exact End.last rfl (lo := 1) (hi := 29) h1 (by omega) (by decide) (by decide) f34_s f34
theorem leaf35 {ticks wait : Int} {down : Bool} {t : Nat} {wB : World} (h1 : 1 ≤ t) (h2 : t ≤ 30) : End ticks wait down t 35 wB 8 S := by
  cases hd : down with
  | true => exact End.last rfl h1 h2 (by decide) (by decide) d_s d35
  | false =>
    exact End.last rfl (lo := 1) (hi := 30) h1 (by omega) (by decide) (by decide) f35_s f35
theorem leaf36 {ticks wait : Int} {down : Bool} {t : Nat} {wB : World} (h1 : 1 ≤ t) (h2 : t ≤ 30) : End ticks wait down t 36 wB 8 S := by
  cases hd : down with
  | true => exact End.last rfl h1 h2 (by decide) (by decide) d_s d36
  | false =>
    exact End.last rfl (lo := 1) (hi := 30) h1 (by omega) (by decide) (by decide) f36_s f36
theorem leaf37 {ticks wait : Int} {down : Bool} {t : Nat} {wB : World} (h1 : 1 ≤ t) (h2 : t ≤ 30) : End ticks wait down t 37 wB 8 S := by
  cases hd : down with
  | true => exact End.last rfl h1 h2 (by decide) (by decide) d_s d37
  | false =>
    exact End.last rfl (lo := 1) (hi := 30) h1 (by omega) (by decide) (by decide) f37_s f37
theorem leaf38 {ticks wait : Int} {down : Bool} {t : Nat} {wB : World} (h1 : 1 ≤ t) (h2 : t ≤ 30) : End ticks wait down t 38 wB 8 S := by
  cases hd : down with
  | true => exact End.last rfl h1 h2 (by decide) (by decide) d_s d38
  | false =>
    exact End.last rfl (lo := 1) (hi := 30) h1 (by omega) (by decide) (by decide) f38_s f38
theorem leaf39 {ticks wait : Int} {down : Bool} {t : Nat} {wB : World} (h1 : 1 ≤ t) (h2 : t ≤ 30) : End ticks wait down t 39 wB 8 S := by
  cases hd : down with
  | true => exact End.last rfl h1 h2 (by decide) (by decide) d_s d39
  | false =>
    exact End.last rfl (lo := 1) (hi := 30) h1 (by omega) (by decide) (by decide) f39_s f39
theorem leaf40 {ticks wait : Int} {down : Bool} {t : Nat} {wB : World} (h1 : 1 ≤ t) (h2 : t ≤ 30) : End ticks wait down t 40 wB 8 S := by
  cases hd : down with
  | true => exact End.last rfl h1 h2 (by decide) (by decide) d_s d40
  | false =>
    exact End.last rfl (lo := 1) (hi := 30) h1 (by omega) (by decide) (by decide) f40_s f40
theorem leaf41 {ticks wait : Int} {down : Bool} {t : Nat} {wB : World} (h1 : 1 ≤ t) (h2 : t ≤ 30) : End ticks wait down t 41 wB 8 S := by
  cases hd : down with
  | true => exact End.last rfl h1 h2 (by decide) (by decide) d_s d41
  | false =>
    exact End.last rfl (lo := 1) (hi := 30) h1 (by omega) (by decide) (by decide) f41_s f41
theorem leaf42 {ticks wait : Int} {down : Bool} {t : Nat} {wB : World} (h1 : 1 ≤ t) (h2 : t ≤ 30) : End ticks wait down t 42 wB 8 S := by
  cases hd : down with
  | true => exact End.last rfl h1 h2 (by decide) (by decide) d_s d42
  | false =>
    exact End.last rfl (lo := 1) (hi := 30) h1 (by omega) (by decide) (by decide) f42_s f42
theorem leaf43 {ticks wait : Int} {down : Bool} {t : Nat} {wB : World} (h1 : 1 ≤ t) (h2 : t ≤ 30) : End ticks wait down t 43 wB 8 S := by
  cases hd : down with
  | true => exact End.last rfl h1 h2 (by decide) (by decide) d_s d43
  | false =>
    exact End.last rfl (lo := 1) (hi := 30) h1 (by omega) (by decide) (by decide) f43_s f43
theorem leaf44 {ticks wait : Int} {down : Bool} {t : Nat} {wB : World} (h1 : 1 ≤ t) (h2 : t ≤ 30) : End ticks wait down t 44 wB 8 S := by
  cases hd : down with
  | true => exact End.last rfl h1 h2 (by decide) (by decide) d_s d44
  | false =>
    exact End.last rfl (lo := 1) (hi := 30) h1 (by omega) (by decide) (by decide) f44_s f44

end Go.Proofs.YtnfojfamiieieaaGreat
