/- The laws of chapter 13 on typed data: what they share; DeskEpochs. -/
import Derived.Test.YtcjpeijiaojeiaaGreatF
import Derived.IntWalk
namespace Go.Proofs.YtcjpeijiaojeiaaGreat
open Go Go.Ev
set_option maxRecDepth 100000
theorem known_true:known=some true:=by kernel_rfl
theorem w64_id {n:Int}(h1 : -9223372036854775808≤n)(h2:n < 9223372036854775808):w64 n=n:=by
  unfold w64
  exact IntWalk.i64_in n (by omega)
theorem within_eq {a n:Int}(hn:0 < n)(hm:n < 4611686018427387904):within a n=some (a % n):=by
  unfold within
  have h0:decide (n=0)=false:=by simp;omega
  simp only [h0,cond_false]
  have h1:=Int.emod_nonneg a (by omega:n≠0)
  have h2:=Int.emod_lt_of_pos a hn
  have h3:a.tmod n=a % n∨a.tmod n=a % n - n:=by
    rw [Int.tmod_eq_emod]
    split
    · left;omega
    · right;omega
  congr 1
  rcases h3 with h3 | h3
  · rw [h3]
    have:decide (a % n < 0)=false:=by simp;omega
    simp [this]
  · rw [h3]
    have:decide (a % n - n < 0)=true:=by simp;omega
    simp only [this,cond_true]
    rw [w64_id (by omega) (by omega)]
    omega
def isT (o:Option Bool):Bool:=match o with | some true=>true | _=>false
theorem isT_eq {o:Option Bool}(h:isT o=true):o=some true:=by
  unfold isT at h
  split at h
  · rfl
  · cases h
theorem ob_some {X Y:Type}(x:X)(k:X→Option Y):ob (some x) k=k x:=rfl
end Go.Proofs.YtcjpeijiaojeiaaGreat
