/- The law GroupNet: its walk and what its calls do. -/
import Derived.Test.YteglbeihabjdiaaGreatNe
import Derived.Test.YteglbeihabjdiaaGreatNk
namespace Go.Proofs.YteglbeihabjdiaaGreat
open Go Go.Cx Go.RowKit

theorem law_calls (a1 a2 : Option Addr) (n1 n2 c1 c2 : Nat) (w : World) (hc1 : ∀ i, i < n1 → ∃ ad z, a1 = some ad ∧ w.cell? (ad.add i) = some (.int .i64 z)) (hc2 : ∀ i, i < n2 → ∃ ad z, a2 = some ad ∧ w.cell? (ad.add i) = some (.int .i64 z)) :
    Calls Tryz.prog 3 #[.slice a1 n1 c1, .slice a2 n2 c2] w fun e w' => e = .returned (.bool true) ∧ Below w.heap.size w w' :=
  walk_n (E := EN) a1 a2 n1 n2 c1 c2 w known_calls (fun _ _ hb => e_ready hb) (fun x n w h1 h2 => within_calls x n h1 h2 w)
    (fun _ _ _ _ h hm => e_und hm h)
    (fun _ _ _ _ _ h hm h1 h2 h3 => e_dropno hm h1 h2 h3 h)
    (fun _ _ _ _ _ h hm h1 h2 h3 => e_twiceno hm h1 h2 h3 h)
    (fun _ _ _ _ _ h hm h1 h2 h3 => e_delno hm h1 h2 h3 h)
    (fun _ _ _ _ h hm => e_dropbig hm h)
    (fun _ _ _ _ _ h hm hk => e_drop hm hk h)
    (fun _ _ _ _ _ h hm hk => e_twice hm hk h)
    (fun _ _ _ _ _ h hm hk => e_del hm hk h)
    (fun _ _ _ _ h => (e_below h).1) hc1 hc2

end Go.Proofs.YteglbeihabjdiaaGreat
