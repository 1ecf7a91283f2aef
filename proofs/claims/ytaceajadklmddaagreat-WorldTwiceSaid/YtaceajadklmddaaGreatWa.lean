/- Worlds: the rounds of Sync, piece by piece. -/
import Derived.Test.YtaceajadklmddaaGreatWp
namespace Go.Proofs.YtaceajadklmddaaGreat
open Go Go.Cx Go.RowKit

theorem mixed : Tryz.prog.follows .mixedOrders = true := by kernel_rfl
theorem noNum : NoNum Tryz.prog := by
  intro f fn hf hb
  have : (Tryz.prog.funcs.toList.all fun fn => !(fn.body.isSome && fn.name == "runtime.NumGoroutine")) = true := by kernel_rfl
  rw [List.all_eq_true] at this
  have := this fn (Array.mem_toList_iff.2 (Array.mem_of_getElem? hf))
  simpa [hb] using this

noncomputable def cf0 : CallF := evH Tryz.prog 100000 deskR 100
theorem cf0_ok {gB : Gh} {wB : World} : CfOk Tryz.prog gB wB cf0 := evH_ok noNum mixed deskR_ok 100000 100
noncomputable def thn (r : Ou) (f : Env → W → Ou) : Ou := Ou.rec (motive := fun _ => Ou) f (fun _ _ _ => .no 200) (fun _ _ => .no 200) (fun _ _ _ => .no 200) Ou.no r

/- Sync. -/
noncomputable def c17 : Code := match Tryz.f17.body with | some c => c | none => .skip
theorem body17 : Tryz.f17.body = some c17 := by kernel_rfl
noncomputable def N17 : Nat := Tryz.f17.ntmps
noncomputable def X17 : Nat := xsOf Tryz.f17 c17
noncomputable def xS : Code := match dropSeq 2 c17 with | .block _ (.loop x) => x | _ => .skip
theorem shape17 : dropSeq 2 c17 = .block 0 (.loop xS) := by kernel_rfl
theorem n17 : N17 ≤ 256 := by decide +kernel
noncomputable def rn17 (c : Code) (env : Env) (U : W) : Ou := (cCode Tryz.prog 100000 N17 X17 c).run cf0 env U
noncomputable def pr17 (k : Nat) (c : Code) (env : Env) (U : W) : Ou := preSeq Tryz.prog 100000 N17 X17 cf0 k c env U
/-- k rounds -/
noncomputable def rounds (k : Nat) : Env → W → Ou := Nat.rec (motive := fun _ => Env → W → Ou) (fun e U => .go e U) (fun _ ih e U => thn (rn17 xS e U) ih) k
noncomputable def okN (base xs y : Nat) (r : Ou) : Bool := Ou.rec (motive := fun _ => Bool) (isN base xs y) (fun _ _ _ => false) (fun _ _ => false) (fun _ _ _ => false) (fun _ => false) r
noncomputable def numO (base xs : Nat) (r : Ou) : Nat := Ou.rec (motive := fun _ => Nat) (encN base xs) (fun _ _ _ => 0) (fun _ _ => 1) (fun _ _ _ => 2) (fun y => Nat.add 1000 y) r
/-- the start of a call of Sync in the state (xs, x): so many rounds of it -/
noncomputable def start17 (xs x p r k : Nat) : Ou := thn (pr17 2 c17 (env0 [.pointer (some ⟨p, 0, none⟩), numV r] 0 env00) (WD xs x)) (rounds k)
noncomputable def go17 (x k : Nat) : Ou := rounds k (envD X17 x) (WD X17 x)

end Go.Proofs.YtaceajadklmddaaGreat
