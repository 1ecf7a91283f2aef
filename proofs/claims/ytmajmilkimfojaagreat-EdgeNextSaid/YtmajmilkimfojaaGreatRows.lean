/-
  No cell of these rows narrows 'for every input' (looked for: loops, veiled, ifaces, maps, wideKeys, modest, calm, conditions, laid).
  DERIVED. THE GIVEN ROWS OF THIS SEAT. 6 by the template 'for every input the law returns true; each argument reads behind the call as it read before'; 0 by the template 'total and deterministic' (their statements: YtmajmilkimfojaaGreatTotals.lean).
  GIVEN WITH THE SEED: the statements are not yours to turn. If you find one false, say at which input.
  Laid BY PROGRAM, IN A SANDBOX (cutbox-rows.mjs): the forced cells as the released guide's own fill.sh prints them over the translation 67bc548f12b8b77f… (all of the seat's roots in one cut). By AI agents, Wed Nov 11 2026. No macro, syntax, notation, axiom, sorry.
-/
import Derived.Test.YtmajmilkimfojaaGreatChecked
import GoSem.Claim
import GoSem.ClaimJoined
import GoSem.ClaimMapViews
import Derived.JoinedTies
import Derived.KernelRfl
namespace Go.Proofs.YtmajmilkimfojaaGreat
/- THE CELL 'sum', in the pinned program and in every row, IS THE sha256 OF THE DUMP (.gsa) THAT YtmajmilkimfojaaGreatProg.lean LOADS. Nothing in Lean hashes anything: it is a label: what it is worth is what the hold of that sum in a sandbox is worth. -/
noncomputable def Tryz.pinned : Pinned := { name := "ytmajmilkimfojaagreat", sum := "67bc548f12b8b77f324086a690718430db02d019b61de6f8f93cb446f251ad51", checked := Tryz.checked }
namespace Rows
def none {H : Type} : Left H := { results := [], args := [] }

/-- 'escrowlaw19.EdgeTakes': WHATEVER THE INPUT: true; the input reads as it did. -/
def edgeTakesSpec : ChangeSpec := { name := "edgeTakes", fn := fun _ => fun
  | [d1, d2, d3] => { results := [.lit (.bool true)], args := [d1, d2, d3] }
  | _ => none }
def edgeTakesRow : OpenClaim := { program := "ytmajmilkimfojaagreat", sum := "67bc548f12b8b77f324086a690718430db02d019b61de6f8f93cb446f251ad51", func := "escrow/escrowlaw19.EdgeTakes", spec := "edgeTakes", inPlace := ["slices.overlaps[escrow/api.Reg]", "slices.overlaps[escrow/api.Elem]", "slices.overlaps[escrow/api.Dot]", "slices.overlaps[escrow/api.Sum]", "slices.overlaps[escrow/api.Bind]", "slices.overlaps[int]"], unfollowed := true, recurses := true, apart := false }
def EdgeTakesSaid : Prop := edgeTakesRow.holds Tryz.pinned (OpenSpec.ofChange edgeTakesSpec)

/-- ITS FALSE NEIGHBOUR: 'it returns false'. Refute it at one input. -/
def edgeTakesWrong : ChangeSpec := { name := "edgeTakes", fn := fun _ => fun
  | [d1, d2, d3] => { results := [.lit (.bool false)], args := [d1, d2, d3] }
  | _ => none }
def EdgeTakesWrongFalsely : Prop := edgeTakesRow.holds Tryz.pinned (OpenSpec.ofChange edgeTakesWrong)

/-- 'escrowlaw19.EdgeReads': WHATEVER THE INPUT: true; the input reads as it did. -/
def edgeReadsSpec : ChangeSpec := { name := "edgeReads", fn := fun _ => fun
  | [d1, d2] => { results := [.lit (.bool true)], args := [d1, d2] }
  | _ => none }
def edgeReadsRow : OpenClaim := { program := "ytmajmilkimfojaagreat", sum := "67bc548f12b8b77f324086a690718430db02d019b61de6f8f93cb446f251ad51", func := "escrow/escrowlaw19.EdgeReads", spec := "edgeReads", inPlace := ["slices.overlaps[escrow/api.Reg]", "slices.overlaps[escrow/api.Elem]", "slices.overlaps[escrow/api.Dot]", "slices.overlaps[escrow/api.Sum]", "slices.overlaps[escrow/api.Bind]", "slices.overlaps[int]"], unfollowed := true, recurses := true, apart := false }
def EdgeReadsSaid : Prop := edgeReadsRow.holds Tryz.pinned (OpenSpec.ofChange edgeReadsSpec)

/-- ITS FALSE NEIGHBOUR: 'it returns false'. Refute it at one input. -/
def edgeReadsWrong : ChangeSpec := { name := "edgeReads", fn := fun _ => fun
  | [d1, d2] => { results := [.lit (.bool false)], args := [d1, d2] }
  | _ => none }
def EdgeReadsWrongFalsely : Prop := edgeReadsRow.holds Tryz.pinned (OpenSpec.ofChange edgeReadsWrong)

/-- 'escrowlaw19.EdgeTicks': WHATEVER THE INPUT: true; the input reads as it did. -/
def edgeTicksSpec : ChangeSpec := { name := "edgeTicks", fn := fun _ => fun
  | [d] => { results := [.lit (.bool true)], args := [d] }
  | _ => none }
def edgeTicksRow : OpenClaim := { program := "ytmajmilkimfojaagreat", sum := "67bc548f12b8b77f324086a690718430db02d019b61de6f8f93cb446f251ad51", func := "escrow/escrowlaw19.EdgeTicks", spec := "edgeTicks", inPlace := ["slices.overlaps[escrow/api.Reg]", "slices.overlaps[escrow/api.Elem]", "slices.overlaps[escrow/api.Dot]", "slices.overlaps[escrow/api.Sum]", "slices.overlaps[escrow/api.Bind]", "slices.overlaps[int]"], unfollowed := true, recurses := true, apart := false }
def EdgeTicksSaid : Prop := edgeTicksRow.holds Tryz.pinned (OpenSpec.ofChange edgeTicksSpec)

/-- ITS FALSE NEIGHBOUR: 'it returns false'. Refute it at one input. -/
def edgeTicksWrong : ChangeSpec := { name := "edgeTicks", fn := fun _ => fun
  | [d] => { results := [.lit (.bool false)], args := [d] }
  | _ => none }
def EdgeTicksWrongFalsely : Prop := edgeTicksRow.holds Tryz.pinned (OpenSpec.ofChange edgeTicksWrong)

/-- 'escrowlaw19.EdgeMerges': WHATEVER THE INPUT: true; the input reads as it did. -/
def edgeMergesSpec : ChangeSpec := { name := "edgeMerges", fn := fun _ => fun
  | [d1, d2] => { results := [.lit (.bool true)], args := [d1, d2] }
  | _ => none }
def edgeMergesRow : OpenClaim := { program := "ytmajmilkimfojaagreat", sum := "67bc548f12b8b77f324086a690718430db02d019b61de6f8f93cb446f251ad51", func := "escrow/escrowlaw19.EdgeMerges", spec := "edgeMerges", inPlace := ["slices.overlaps[escrow/api.Reg]", "slices.overlaps[escrow/api.Elem]", "slices.overlaps[escrow/api.Dot]", "slices.overlaps[escrow/api.Sum]", "slices.overlaps[escrow/api.Bind]", "slices.overlaps[int]"], unfollowed := true, recurses := true, apart := false }
def EdgeMergesSaid : Prop := edgeMergesRow.holds Tryz.pinned (OpenSpec.ofChange edgeMergesSpec)

/-- ITS FALSE NEIGHBOUR: 'it returns false'. Refute it at one input. -/
def edgeMergesWrong : ChangeSpec := { name := "edgeMerges", fn := fun _ => fun
  | [d1, d2] => { results := [.lit (.bool false)], args := [d1, d2] }
  | _ => none }
def EdgeMergesWrongFalsely : Prop := edgeMergesRow.holds Tryz.pinned (OpenSpec.ofChange edgeMergesWrong)

/-- 'escrowlaw19.EdgeNext': WHATEVER THE INPUT: true; the input reads as it did. -/
def edgeNextSpec : ChangeSpec := { name := "edgeNext", fn := fun _ => fun
  | [d1, d2, d3] => { results := [.lit (.bool true)], args := [d1, d2, d3] }
  | _ => none }
def edgeNextRow : OpenClaim := { program := "ytmajmilkimfojaagreat", sum := "67bc548f12b8b77f324086a690718430db02d019b61de6f8f93cb446f251ad51", func := "escrow/escrowlaw19.EdgeNext", spec := "edgeNext", inPlace := ["slices.overlaps[escrow/api.Reg]", "slices.overlaps[escrow/api.Elem]", "slices.overlaps[escrow/api.Dot]", "slices.overlaps[escrow/api.Sum]", "slices.overlaps[escrow/api.Bind]", "slices.overlaps[int]"], unfollowed := true, recurses := true, apart := false }
def EdgeNextSaid : Prop := edgeNextRow.holds Tryz.pinned (OpenSpec.ofChange edgeNextSpec)

/-- ITS FALSE NEIGHBOUR: 'it returns false'. Refute it at one input. -/
def edgeNextWrong : ChangeSpec := { name := "edgeNext", fn := fun _ => fun
  | [d1, d2, d3] => { results := [.lit (.bool false)], args := [d1, d2, d3] }
  | _ => none }
def EdgeNextWrongFalsely : Prop := edgeNextRow.holds Tryz.pinned (OpenSpec.ofChange edgeNextWrong)

/-- 'escrowlaw19.EdgeOpens': WHATEVER THE INPUT: true; the input reads as it did. -/
def edgeOpensSpec : ChangeSpec := { name := "edgeOpens", fn := fun _ => fun
  | [d] => { results := [.lit (.bool true)], args := [d] }
  | _ => none }
def edgeOpensRow : OpenClaim := { program := "ytmajmilkimfojaagreat", sum := "67bc548f12b8b77f324086a690718430db02d019b61de6f8f93cb446f251ad51", func := "escrow/escrowlaw19.EdgeOpens", spec := "edgeOpens", inPlace := ["slices.overlaps[escrow/api.Reg]", "slices.overlaps[escrow/api.Elem]", "slices.overlaps[escrow/api.Dot]", "slices.overlaps[escrow/api.Sum]", "slices.overlaps[escrow/api.Bind]", "slices.overlaps[int]"], unfollowed := true, recurses := true, apart := false }
def EdgeOpensSaid : Prop := edgeOpensRow.holds Tryz.pinned (OpenSpec.ofChange edgeOpensSpec)

/-- ITS FALSE NEIGHBOUR: 'it returns false'. Refute it at one input. -/
def edgeOpensWrong : ChangeSpec := { name := "edgeOpens", fn := fun _ => fun
  | [d] => { results := [.lit (.bool false)], args := [d] }
  | _ => none }
def EdgeOpensWrongFalsely : Prop := edgeOpensRow.holds Tryz.pinned (OpenSpec.ofChange edgeOpensWrong)

/- THE SECOND FORM. 'bulk': how many values and letters a reading holds, each counted each time it is reached (what is shared counts as often as it is met; a slice's spare places count too). A statement '..UptoSaid' is the law's where the arguments, and the package variables that the reading takes, are together of bulk at most 1048576: NARROWER than '..Said'. Prove '..Said' where nothing that the law and all that it calls make is longer than what came in: it says more and counts as full. Else prove '..UptoSaid'. A law counts once. -/
mutual
def uptoBulk {H : Type} : DataW H → Nat
  | .lit (.string bytes) => bytes.length + 1
  | .lit _ => 1
  | .nil => 1
  | .ptr d => uptoBulk d + 1
  | .slice elems spare => uptoBulkAll elems + uptoBulkAll spare + 1
  | .agg parts => uptoBulkAll parts + 1
  | .iface _ d => uptoBulk d + 1
  | .map entries => uptoBulkEntries entries + 1
  | .held _ => 1
def uptoBulkAll {H : Type} : List (DataW H) → Nat
  | [] => 0
  | d :: r => uptoBulk d + uptoBulkAll r
def uptoBulkEntries {H : Type} : List (Lit × DataW H) → Nat
  | [] => 0
  | x :: r => uptoBulkEntry x + uptoBulkEntries r
def uptoBulkEntry {H : Type} : Lit × DataW H → Nat
  | (.string bytes, d) => bytes.length + uptoBulk d + 1
  | (_, d) => uptoBulk d + 1
 end
def uptoSmall : (H : Type) → List (DataW H) → Bool := fun _ ds => decide (uptoBulkAll ds ≤ 1048576)
def OpenSpec.upto (s : _root_.Go.ChangeSpec) : _root_.Go.OpenSpec := { _root_.Go.OpenSpec.ofChange s with cond := some uptoSmall }

/-- 'escrowlaw19.EdgeTakes', WHERE WHAT IT READS IS OF BULK AT MOST 1048576: true; the input reads as it did. -/
def edgeTakesUptoRow : OpenClaim := { program := "ytmajmilkimfojaagreat", sum := "67bc548f12b8b77f324086a690718430db02d019b61de6f8f93cb446f251ad51", func := "escrow/escrowlaw19.EdgeTakes", spec := "edgeTakes", inPlace := ["slices.overlaps[escrow/api.Reg]", "slices.overlaps[escrow/api.Elem]", "slices.overlaps[escrow/api.Dot]", "slices.overlaps[escrow/api.Sum]", "slices.overlaps[escrow/api.Bind]", "slices.overlaps[int]"], unfollowed := true, recurses := true, apart := false, narrowed := true }
def EdgeTakesUptoSaid : Prop := edgeTakesUptoRow.holds Tryz.pinned (OpenSpec.upto edgeTakesSpec)

/-- 'escrowlaw19.EdgeReads', WHERE WHAT IT READS IS OF BULK AT MOST 1048576: true; the input reads as it did. -/
def edgeReadsUptoRow : OpenClaim := { program := "ytmajmilkimfojaagreat", sum := "67bc548f12b8b77f324086a690718430db02d019b61de6f8f93cb446f251ad51", func := "escrow/escrowlaw19.EdgeReads", spec := "edgeReads", inPlace := ["slices.overlaps[escrow/api.Reg]", "slices.overlaps[escrow/api.Elem]", "slices.overlaps[escrow/api.Dot]", "slices.overlaps[escrow/api.Sum]", "slices.overlaps[escrow/api.Bind]", "slices.overlaps[int]"], unfollowed := true, recurses := true, apart := false, narrowed := true }
def EdgeReadsUptoSaid : Prop := edgeReadsUptoRow.holds Tryz.pinned (OpenSpec.upto edgeReadsSpec)

/-- 'escrowlaw19.EdgeTicks', WHERE WHAT IT READS IS OF BULK AT MOST 1048576: true; the input reads as it did. -/
def edgeTicksUptoRow : OpenClaim := { program := "ytmajmilkimfojaagreat", sum := "67bc548f12b8b77f324086a690718430db02d019b61de6f8f93cb446f251ad51", func := "escrow/escrowlaw19.EdgeTicks", spec := "edgeTicks", inPlace := ["slices.overlaps[escrow/api.Reg]", "slices.overlaps[escrow/api.Elem]", "slices.overlaps[escrow/api.Dot]", "slices.overlaps[escrow/api.Sum]", "slices.overlaps[escrow/api.Bind]", "slices.overlaps[int]"], unfollowed := true, recurses := true, apart := false, narrowed := true }
def EdgeTicksUptoSaid : Prop := edgeTicksUptoRow.holds Tryz.pinned (OpenSpec.upto edgeTicksSpec)

/-- 'escrowlaw19.EdgeMerges', WHERE WHAT IT READS IS OF BULK AT MOST 1048576: true; the input reads as it did. -/
def edgeMergesUptoRow : OpenClaim := { program := "ytmajmilkimfojaagreat", sum := "67bc548f12b8b77f324086a690718430db02d019b61de6f8f93cb446f251ad51", func := "escrow/escrowlaw19.EdgeMerges", spec := "edgeMerges", inPlace := ["slices.overlaps[escrow/api.Reg]", "slices.overlaps[escrow/api.Elem]", "slices.overlaps[escrow/api.Dot]", "slices.overlaps[escrow/api.Sum]", "slices.overlaps[escrow/api.Bind]", "slices.overlaps[int]"], unfollowed := true, recurses := true, apart := false, narrowed := true }
def EdgeMergesUptoSaid : Prop := edgeMergesUptoRow.holds Tryz.pinned (OpenSpec.upto edgeMergesSpec)

/-- 'escrowlaw19.EdgeNext', WHERE WHAT IT READS IS OF BULK AT MOST 1048576: true; the input reads as it did. -/
def edgeNextUptoRow : OpenClaim := { program := "ytmajmilkimfojaagreat", sum := "67bc548f12b8b77f324086a690718430db02d019b61de6f8f93cb446f251ad51", func := "escrow/escrowlaw19.EdgeNext", spec := "edgeNext", inPlace := ["slices.overlaps[escrow/api.Reg]", "slices.overlaps[escrow/api.Elem]", "slices.overlaps[escrow/api.Dot]", "slices.overlaps[escrow/api.Sum]", "slices.overlaps[escrow/api.Bind]", "slices.overlaps[int]"], unfollowed := true, recurses := true, apart := false, narrowed := true }
def EdgeNextUptoSaid : Prop := edgeNextUptoRow.holds Tryz.pinned (OpenSpec.upto edgeNextSpec)

/-- 'escrowlaw19.EdgeOpens', WHERE WHAT IT READS IS OF BULK AT MOST 1048576: true; the input reads as it did. -/
def edgeOpensUptoRow : OpenClaim := { program := "ytmajmilkimfojaagreat", sum := "67bc548f12b8b77f324086a690718430db02d019b61de6f8f93cb446f251ad51", func := "escrow/escrowlaw19.EdgeOpens", spec := "edgeOpens", inPlace := ["slices.overlaps[escrow/api.Reg]", "slices.overlaps[escrow/api.Elem]", "slices.overlaps[escrow/api.Dot]", "slices.overlaps[escrow/api.Sum]", "slices.overlaps[escrow/api.Bind]", "slices.overlaps[int]"], unfollowed := true, recurses := true, apart := false, narrowed := true }
def EdgeOpensUptoSaid : Prop := edgeOpensUptoRow.holds Tryz.pinned (OpenSpec.upto edgeOpensSpec)

end Rows
end Go.Proofs.YtmajmilkimfojaaGreat
