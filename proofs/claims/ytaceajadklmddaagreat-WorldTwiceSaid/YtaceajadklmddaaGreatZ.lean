/- The law WorldTwice: all its cases. -/
import Derived.Test.YtaceajadklmddaaGreatG1
import Derived.Test.YtaceajadklmddaaGreatG2
import Derived.Test.YtaceajadklmddaaGreatG3
import Derived.Test.YtaceajadklmddaaGreatG4
namespace Go.Proofs.YtaceajadklmddaaGreat
open Go Go.Cx Go.RowKit

theorem law_calls (x : Int) (a1 a2 : Option Addr) (n1 n2 c1 c2 : Nat) (w : World) (hcell : ∀ i, i < n2 → ∃ ad z, a2 = some ad ∧ w.cell? (ad.add i) = some (.int .i64 z)) :
    Calls Tryz.prog 3 #[.int .i64 x, .slice a1 n1 c1, .slice a2 n2 c2] w fun e w' => e = .returned (.bool true) ∧ Below w.heap.size w w' := by
  obtain ⟨n, hn⟩ : ∃ n : Nat, 1 + x % 4 = n := ⟨(1 + x % 4).toNat, by omega⟩
  have h1 : 1 ≤ n := by omega
  have h4 : n ≤ 4 := by omega
  match n, hn, h1, h4 with
  | 1, hn, _, _ => exact law1 x a1 a2 n1 n2 c1 c2 w hn hcell
  | 2, hn, _, _ => exact law2 x a1 a2 n1 n2 c1 c2 w hn hcell
  | 3, hn, _, _ => exact law3 x a1 a2 n1 n2 c1 c2 w hn hcell
  | 4, hn, _, _ => exact law4 x a1 a2 n1 n2 c1 c2 w hn hcell
  | 0, _, h, _ => exact absurd h (by omega)
  | n + 5, _, _, h => exact absurd h (by omega)

end Go.Proofs.YtaceajadklmddaaGreat
