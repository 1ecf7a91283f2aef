/- The law ShellStates: for every input the call returns true, and each argument reads behind the call as before; the listed package-level variables start as the program's text lays them (the tied card). -/
import Derived.Test.YtoignhfhljlnbaaGreatDoorLg
import Derived.Test.YtoignhfhljlnbaaGreatDoorZ
namespace Go.Proofs.YtoignhfhljlnbaaGreatDoor
open Go Go.Cx Go.ChangeShapes Go.WideShapes Go.ChangeAt Go.RowKit

set_option maxRecDepth 100000 in
theorem words_row (os : Os) {H : Type} (enc : TypeId × Value → H) :
    (OpenSpec.ofChange Rows.shellStatesSpec).preRow enc Tryz.prog Tryz.f3 Rows.shellStatesRow.domain false Rows.shellStatesRow.laid ((laidWorld os).forCall (fun _ _ => 0) ⟨#[], #[.int .i64 0, .bool false], []⟩).memory #[.int .i64 0, .bool false] := by
  have hw : (DataW.whole enc Tryz.prog ((laidWorld os).forCall (fun _ _ => 0) ⟨#[], #[.int .i64 0, .bool false], []⟩).memory Tryz.f3.params.toList Rows.shellStatesSpec.vars false #[Value.int .i64 0, Value.bool false].toList 8).map (fun x => (x.1, x.2.1)) =
      some ([.lit (.int .i64 0), .lit (.bool false)], []) := by kernel_rfl
  obtain ⟨⟨x1, x2, x3⟩, hx, hx1⟩ := Option.map_eq_some_iff.1 hw
  simp only [Prod.mk.injEq] at hx1
  obtain ⟨rfl, rfl⟩ := hx1
  exact OpenSpec.preRow_of_cond 8 hx (by kernel_rfl) (fun k hk => by cases hk) (by kernel_rfl) (laid_met os _)

theorem f1 : Rows.shellStatesRow.wf (OpenSpec.ofChange (OpenSpec.ofChange Rows.shellStatesSpec).bare) = true := by kernel_rfl
theorem f2 : laidOutB Tryz.pinned.checked.prog = true := by kernel_rfl
theorem f3 : mapsRowed Tryz.pinned.checked.prog = true := by kernel_rfl
theorem f4 : Tryz.f3.params.all (fun t => Tryz.pinned.checked.prog.readableRec t) = true := by kernel_rfl
theorem f5 : namedTie Tryz.pinned.checked.prog Rows.shellStatesRow.named (OpenSpec.ofChange Rows.shellStatesSpec).bare.vars = true := by kernel_rfl
theorem f6 : (Tryz.pinned.checked.prog.stops == []) = true := by kernel_rfl
theorem f7 : (Tryz.pinned.checked.prog.stopKnobs == []) = true := by kernel_rfl
theorem f8 : (Rows.shellStatesRow.plainKeys == Tryz.pinned.checked.prog.plainKeys) = true := by kernel_rfl
theorem f9 : Tryz.pinned.checked.prog.stopsHeard = true := by kernel_rfl
theorem f10 : Tryz.pinned.checked.prog.mayEnter = true := by kernel_rfl
theorem f11 : (Rows.shellStatesRow.lifted == Tryz.pinned.checked.prog.liftsFinal) = true := by kernel_rfl
theorem f12 : (Tryz.pinned.checked.prog.make == some Rows.shellStatesRow.make) = true := by kernel_rfl
theorem f13 : (Rows.shellStatesRow.pinned == Rows.shellStatesRow.pinnedBy) = true := by kernel_rfl
theorem w1 : Tryz.prog.inits.idxOf? 3 = none := by kernel_rfl
theorem w2 (os : Os) : ((laidWorld os).forCall (fun _ _ => 0) ⟨#[], #[.int .i64 0, .bool false], []⟩).variablesRefB Tryz.checked.prog = true := by kernel_rfl
theorem w3 (os : Os) : (((laidWorld os).forCall (fun _ _ => 0) ⟨#[], #[.int .i64 0, .bool false], []⟩).heap.toList.drop Tryz.checked.prog.globals.size).take ((begin Tryz.checked.prog (fun _ _ => 0) default).world.heap.size - Tryz.checked.prog.globals.size) =
    (begin Tryz.checked.prog (fun _ _ => 0) default).world.heap.toList.drop Tryz.checked.prog.globals.size := by kernel_rfl
theorem w4 (os : Os) : Input.okWideB Tryz.checked.prog ((laidWorld os).forCall (fun _ _ => 0) ⟨#[], #[.int .i64 0, .bool false], []⟩) 3 ⟨#[], #[.int .i64 0, .bool false], []⟩ = true := by kernel_rfl
theorem h1 : Tryz.pinned.checked.prog.funcNamed "escrow/escrowlaw22.ShellStates" = some 3 := by kernel_rfl
theorem h2 : Tryz.f3.isInstance Tryz.pinned.checked.prog Rows.shellStatesRow.origin Rows.shellStatesRow.targs := of_decide_eq_true (by kernel_rfl)
theorem h3 : Tryz.f3.isWrapper Tryz.pinned.checked.prog Rows.shellStatesRow.wrapper Rows.shellStatesRow.mainSum := by unfold Func.isWrapper; first | (rw [if_pos (by decide +kernel)]; kernel_rfl) | (rw [if_neg (by decide +kernel)]; exact ⟨rfl, rfl⟩)
theorem p1 : ∀ t ∈ Tryz.f3.params.toList, Tryz.prog.readableRec t = true ∧ t < Tryz.prog.types.size := by rw [show Tryz.f3.params.toList = [3, 4] by rw [Tryz.params3]]; decide +kernel
theorem p2 : Tryz.f3.resultTypes = #[4] := by kernel_rfl

set_option maxRecDepth 100000 in
theorem words_lifted (os : Os) (started : os.Started) (H : Type) (enc : TypeId × Value → H) (F : Stop.Interp) :
    ReturnsInHanded {} Tryz.checked os 3 .any ((OpenSpec.ofChange Rows.shellStatesSpec).preRow enc Tryz.prog Tryz.f3 Rows.shellStatesRow.domain false Rows.shellStatesRow.laid) (((OpenSpec.ofChange Rows.shellStatesSpec).at F).post enc Tryz.prog Tryz.f3 false true false false) := by
  refine returnsInHanded_of_row (C := Tryz.checked) (s := OpenSpec.ofChange Rows.shellStatesSpec) Try.own started w1 Tryz.func3
    (witness_row_atRef (enc := enc) (C := Tryz.checked) false (laidWorld os) #[.int .i64 0, .bool false] rfl (w2 os) (w3 os) (w4 os) (words_row os enc)) ?_
  intro W base args ds gs before hval hW _ _ _ _ _ _
  have hW : DataW.Whole enc Tryz.prog Tryz.f3.params.toList Rows.shellStatesSpec.vars false W args.toList ds gs before := hW
  have hA := hW
  obtain ⟨p, q, hA, _⟩ := hA
  have hp : Tryz.f3.params.toList = [3, 4] := by rw [Tryz.params3]
  have hv : ∀ (j : Nat) t v, [3, 4][j]? = some t → args[j]? = some v → Value.okWide Tryz.prog W .any base t v := fun j t v hj hv => hval j t v (by rw [← hp] at hj; simpa using hj) hv
  rw [hp] at hA
  obtain ⟨v0, v1, d0, d1, q0, q1, rfl, rfl, rfl, h0, h1⟩ := trodAll_two hA
  obtain ⟨x, rfl, _⟩ := open_int Tryz.underlying3 (hv 0 3 v0 rfl rfl) h0
  obtain ⟨y, rfl, _⟩ := open_bool Tryz.underlying4 (hv 1 4 v1 rfl rfl) h1
  refine (law_calls x y W).mono ?_
  rintro e W' ⟨rfl, hb⟩
  exact ⟨_, rfl, law_post Try.laidOut p1 rfl p2 Tryz.underlying4 (fun ds hd => by rw [show Tryz.f3.params.size = 2 from by rw [← Array.length_toList, hp]; rfl] at hd; match ds, hd with | [a, b], _ => rfl) hW hb⟩

theorem cl1 : (Rows.shellStatesRow.inPlace == Tryz.pinned.checked.prog.inPlace 3) = true := by kernel_rfl
theorem cl2 : (Rows.shellStatesRow.unfollowed == Tryz.pinned.checked.prog.unfollowed 3) = true := by kernel_rfl
theorem cl3 : (Rows.shellStatesRow.recurses == Tryz.pinned.checked.prog.recurses 3) = true := by kernel_rfl
theorem cl4 : (Rows.shellStatesRow.named == Tryz.pinned.checked.prog.varsNamed 3) = true := by kernel_rfl

theorem law_closed : joinedFacts Tryz.pinned.checked.prog 3 Tryz.f3 (OpenSpec.ofChange Rows.shellStatesSpec).bare Rows.shellStatesRow = true := by
  unfold joinedFacts
  rw [cl1, cl2, cl3, cl4, f1, f2, f3, f4, f5, f6, f7, f8, f9, f10, f11, f12, f13]
  kernel_rfl

theorem words_said : Rows.ShellStatesSaid :=
  OpenClaim.holds_of_cond 3 Tryz.f3 rfl rfl rfl rfl rfl rfl rfl ⟨rfl, rfl, rfl, rfl, rfl⟩ rfl rfl rfl rfl rfl h1 Tryz.func3 law_closed h2 h3
    (fun os started H enc _ F => by rw [OpenClaim.pre_eq_preRow]; exact words_lifted os started H enc F)

/-- No parameter wants a stand-in; the program's own looks are off: what the card asks. -/
theorem words_plain (f : FuncId) (fn : Func) (hf : Tryz.pinned.checked.prog.funcNamed "escrow/escrowlaw22.ShellStates" = some f) (hfn : Tryz.pinned.checked.prog.funcs[f]? = some fn) :
    true = Tryz.pinned.checked.prog.looks [] ∧ ∀ (j : Nat) t, fn.params[j]? = some t → Tryz.pinned.checked.prog.wantsStandIn t = false := by
  obtain rfl : f = 3 := Option.some.inj (h1.symm.trans hf) |>.symm
  obtain rfl : fn = Tryz.f3 := (Option.some.inj (Tryz.func3.symm.trans hfn)).symm
  refine ⟨by kernel_rfl, fun j t ht => ?_⟩
  rw [Tryz.params3] at ht
  have hm : t ∈ #[3, 4] := Array.mem_of_getElem? ht
  have : t = 3 ∨ t = 4 := by simpa using hm
  rcases this with rfl | rfl
  · exact (show Tryz.prog.wantsStandIn 3 = false by kernel_rfl)
  · exact (show Tryz.prog.wantsStandIn 4 = false by kernel_rfl)

theorem k1a : ({ Rows.shellStatesRow with laid := Rows.shellStatesRow.laid.filter fun x => Rows.shellStatesRow.namedList.contains x.1 } : OpenClaim) = Rows.shellStatesRow := by kernel_rfl
theorem k1b : Rows.shellStatesRow.wf (OpenSpec.ofChange Rows.shellStatesSpec) = true := by
  have h := f1
  unfold OpenClaim.wf at h ⊢
  exact h
theorem k1 : Rows.shellStatesRow.wfByText (OpenSpec.ofChange Rows.shellStatesSpec) = true := by
  unfold OpenClaim.wfByText
  rw [if_pos (show Rows.shellStatesRow.unfollowed = true from rfl), k1a, k1b]
  kernel_rfl
theorem k2 : Tryz.pinned.checked.prog.mainIs = some (true, "f1555671ea899532ae65fee08b37b5e55afaaf6faf3806b1942a61e361c9c8f8".toList) := by kernel_rfl
theorem k3a : (Tryz.pinned.checked.prog.funcs.toList.any Func.goes) = false := by kernel_rfl
theorem k3b (g : FuncId) : (Tryz.pinned.checked.prog.funcs[g]?).any Func.goes = false := by
  cases h : Tryz.pinned.checked.prog.funcs[g]? with
  | none => rfl
  | some fn =>
    have hm : fn ∈ Tryz.pinned.checked.prog.funcs.toList := Array.mem_toList_iff.2 (Array.mem_of_getElem? h)
    have ha := k3a
    rw [List.any_eq_false] at ha
    have := ha fn hm
    show fn.goes = false
    cases hg : fn.goes with
    | false => rfl
    | true => exact absurd hg this
theorem k3c : Tryz.pinned.checked.prog.goes 3 = false := by
  unfold Program.goes
  rw [show (fun g => (Tryz.pinned.checked.prog.funcs[g]?).any Func.goes) = fun _ => false from funext k3b, show Tryz.pinned.checked.prog.funcs.any Func.goes = false from by rw [← Array.any_toList]; exact k3a]
  generalize Tryz.pinned.checked.prog.closure 3 = l
  simp
theorem k3 : false = Rows.shellStatesRow.goesBy Tryz.pinned.checked.prog := by
  unfold OpenClaim.goesBy Program.goesAt Program.goesFrom
  rw [show Rows.shellStatesRow.func = "escrow/escrowlaw22.ShellStates" from rfl, show Rows.shellStatesRow.start = .entering from rfl, h1, Option.any_some, k3c]
  rfl

theorem law_holds : Rows.ShellStatesCardSaid :=
  Claim7.holds_tied_plain_at .later [] _ _ _ _ words_said (fun _ h => by cases h) k1 (fun _ h => by cases h) law_tied rfl ⟨rfl, rfl⟩ k2 rfl words_plain k3

end Go.Proofs.YtoignhfhljlnbaaGreatDoor
