/-
  No cell of these rows narrows 'for every input' (looked for: loops, veiled, ifaces, maps, wideKeys, modest, calm, conditions, laid).
  DERIVED. THE GIVEN ROWS OF THIS SEAT. 7 by the template 'for every input the law returns true; each argument reads behind the call as it read before'; 0 by the template 'total and deterministic' (their statements: YthhfjodcgibhfaaGreatTotals.lean).
  GIVEN WITH THE SEED: the statements are not yours to turn. If you find one false, say at which input.
  Laid BY PROGRAM, IN A SANDBOX (cutbox-rows.mjs): the forced cells as the released guide's own fill.sh prints them over the translation 12feb58547a63024… (all of the seat's roots in one cut). By AI agents, Wed Nov 11 2026. No macro, syntax, notation, axiom, sorry.
-/
import Derived.Test.YthhfjodcgibhfaaGreatChecked
import GoSem.Claim
import GoSem.ClaimJoined
import GoSem.ClaimMapViews
import Derived.JoinedTies
import Derived.KernelRfl
namespace Go.Proofs.YthhfjodcgibhfaaGreat
/- THE CELL 'sum', in the pinned program and in every row, IS THE sha256 OF THE DUMP (.gsa) THAT YthhfjodcgibhfaaGreatProg.lean LOADS. Nothing in Lean hashes anything: it is a label: what it is worth is what the hold of that sum in a sandbox is worth. -/
noncomputable def Tryz.pinned : Pinned := { name := "ythhfjodcgibhfaagreat", sum := "12feb58547a6302442350d36cb8380ef66673896f1fb92a254f98ac44f0b8c49", checked := Tryz.checked }
namespace Rows
def none {H : Type} : Left H := { results := [], args := [] }

/-- 'escrowlaw18.LocalDeltas': WHATEVER THE INPUT: true; the input reads as it did. -/
def localDeltasSpec : ChangeSpec := { name := "localDeltas", fn := fun _ => fun
  | [d1, d2] => { results := [.lit (.bool true)], args := [d1, d2] }
  | _ => none }
def localDeltasRow : OpenClaim := { program := "ythhfjodcgibhfaagreat", sum := "12feb58547a6302442350d36cb8380ef66673896f1fb92a254f98ac44f0b8c49", func := "escrow/escrowlaw18.LocalDeltas", spec := "localDeltas", inPlace := ["slices.overlaps[escrow/api.Reg]", "slices.overlaps[escrow/api.Elem]", "slices.overlaps[escrow/api.Dot]", "slices.overlaps[escrow/api.Sum]", "slices.overlaps[escrow/api.Bind]", "slices.overlaps[int]"], unfollowed := true, recurses := true, apart := false }
def LocalDeltasSaid : Prop := localDeltasRow.holds Tryz.pinned (OpenSpec.ofChange localDeltasSpec)

/-- ITS FALSE NEIGHBOUR: 'it returns false'. Refute it at one input. -/
def localDeltasWrong : ChangeSpec := { name := "localDeltas", fn := fun _ => fun
  | [d1, d2] => { results := [.lit (.bool false)], args := [d1, d2] }
  | _ => none }
def LocalDeltasWrongFalsely : Prop := localDeltasRow.holds Tryz.pinned (OpenSpec.ofChange localDeltasWrong)

/-- 'escrowlaw18.LocalBegins': WHATEVER THE INPUT: true; the input reads as it did. -/
def localBeginsSpec : ChangeSpec := { name := "localBegins", fn := fun _ => fun
  | [d1, d2] => { results := [.lit (.bool true)], args := [d1, d2] }
  | _ => none }
def localBeginsRow : OpenClaim := { program := "ythhfjodcgibhfaagreat", sum := "12feb58547a6302442350d36cb8380ef66673896f1fb92a254f98ac44f0b8c49", func := "escrow/escrowlaw18.LocalBegins", spec := "localBegins", inPlace := ["slices.overlaps[escrow/api.Reg]", "slices.overlaps[escrow/api.Elem]", "slices.overlaps[escrow/api.Dot]", "slices.overlaps[escrow/api.Sum]", "slices.overlaps[escrow/api.Bind]", "slices.overlaps[int]"], unfollowed := true, recurses := true, apart := false }
def LocalBeginsSaid : Prop := localBeginsRow.holds Tryz.pinned (OpenSpec.ofChange localBeginsSpec)

/-- ITS FALSE NEIGHBOUR: 'it returns false'. Refute it at one input. -/
def localBeginsWrong : ChangeSpec := { name := "localBegins", fn := fun _ => fun
  | [d1, d2] => { results := [.lit (.bool false)], args := [d1, d2] }
  | _ => none }
def LocalBeginsWrongFalsely : Prop := localBeginsRow.holds Tryz.pinned (OpenSpec.ofChange localBeginsWrong)

/-- 'escrowlaw18.LocalEnds': WHATEVER THE INPUT: true; the input reads as it did. -/
def localEndsSpec : ChangeSpec := { name := "localEnds", fn := fun _ => fun
  | [d1, d2, d3] => { results := [.lit (.bool true)], args := [d1, d2, d3] }
  | _ => none }
def localEndsRow : OpenClaim := { program := "ythhfjodcgibhfaagreat", sum := "12feb58547a6302442350d36cb8380ef66673896f1fb92a254f98ac44f0b8c49", func := "escrow/escrowlaw18.LocalEnds", spec := "localEnds", inPlace := ["slices.overlaps[escrow/api.Reg]", "slices.overlaps[escrow/api.Elem]", "slices.overlaps[escrow/api.Dot]", "slices.overlaps[escrow/api.Sum]", "slices.overlaps[escrow/api.Bind]", "slices.overlaps[int]"], unfollowed := true, recurses := true, apart := false }
def LocalEndsSaid : Prop := localEndsRow.holds Tryz.pinned (OpenSpec.ofChange localEndsSpec)

/-- ITS FALSE NEIGHBOUR: 'it returns false'. Refute it at one input. -/
def localEndsWrong : ChangeSpec := { name := "localEnds", fn := fun _ => fun
  | [d1, d2, d3] => { results := [.lit (.bool false)], args := [d1, d2, d3] }
  | _ => none }
def LocalEndsWrongFalsely : Prop := localEndsRow.holds Tryz.pinned (OpenSpec.ofChange localEndsWrong)

/-- 'escrowlaw18.LocalOps': WHATEVER THE INPUT: true; the input reads as it did. -/
def localOpsSpec : ChangeSpec := { name := "localOps", fn := fun _ => fun
  | [d1, d2] => { results := [.lit (.bool true)], args := [d1, d2] }
  | _ => none }
def localOpsRow : OpenClaim := { program := "ythhfjodcgibhfaagreat", sum := "12feb58547a6302442350d36cb8380ef66673896f1fb92a254f98ac44f0b8c49", func := "escrow/escrowlaw18.LocalOps", spec := "localOps", inPlace := ["slices.overlaps[escrow/api.Reg]", "slices.overlaps[escrow/api.Elem]", "slices.overlaps[escrow/api.Dot]", "slices.overlaps[escrow/api.Sum]", "slices.overlaps[escrow/api.Bind]", "slices.overlaps[int]"], unfollowed := true, recurses := true, apart := false }
def LocalOpsSaid : Prop := localOpsRow.holds Tryz.pinned (OpenSpec.ofChange localOpsSpec)

/-- ITS FALSE NEIGHBOUR: 'it returns false'. Refute it at one input. -/
def localOpsWrong : ChangeSpec := { name := "localOps", fn := fun _ => fun
  | [d1, d2] => { results := [.lit (.bool false)], args := [d1, d2] }
  | _ => none }
def LocalOpsWrongFalsely : Prop := localOpsRow.holds Tryz.pinned (OpenSpec.ofChange localOpsWrong)

/-- 'escrowlaw18.LocalFenced': WHATEVER THE INPUT: true; the input reads as it did. -/
def localFencedSpec : ChangeSpec := { name := "localFenced", fn := fun _ => fun
  | [d1, d2] => { results := [.lit (.bool true)], args := [d1, d2] }
  | _ => none }
def localFencedRow : OpenClaim := { program := "ythhfjodcgibhfaagreat", sum := "12feb58547a6302442350d36cb8380ef66673896f1fb92a254f98ac44f0b8c49", func := "escrow/escrowlaw18.LocalFenced", spec := "localFenced", inPlace := ["slices.overlaps[escrow/api.Reg]", "slices.overlaps[escrow/api.Elem]", "slices.overlaps[escrow/api.Dot]", "slices.overlaps[escrow/api.Sum]", "slices.overlaps[escrow/api.Bind]", "slices.overlaps[int]"], unfollowed := true, recurses := true, apart := false }
def LocalFencedSaid : Prop := localFencedRow.holds Tryz.pinned (OpenSpec.ofChange localFencedSpec)

/-- ITS FALSE NEIGHBOUR: 'it returns false'. Refute it at one input. -/
def localFencedWrong : ChangeSpec := { name := "localFenced", fn := fun _ => fun
  | [d1, d2] => { results := [.lit (.bool false)], args := [d1, d2] }
  | _ => none }
def LocalFencedWrongFalsely : Prop := localFencedRow.holds Tryz.pinned (OpenSpec.ofChange localFencedWrong)

/-- 'escrowlaw18.LocalShed': WHATEVER THE INPUT: true; the input reads as it did. -/
def localShedSpec : ChangeSpec := { name := "localShed", fn := fun _ => fun
  | [d1, d2] => { results := [.lit (.bool true)], args := [d1, d2] }
  | _ => none }
def localShedRow : OpenClaim := { program := "ythhfjodcgibhfaagreat", sum := "12feb58547a6302442350d36cb8380ef66673896f1fb92a254f98ac44f0b8c49", func := "escrow/escrowlaw18.LocalShed", spec := "localShed", inPlace := ["slices.overlaps[escrow/api.Reg]", "slices.overlaps[escrow/api.Elem]", "slices.overlaps[escrow/api.Dot]", "slices.overlaps[escrow/api.Sum]", "slices.overlaps[escrow/api.Bind]", "slices.overlaps[int]"], unfollowed := true, recurses := true, apart := false }
def LocalShedSaid : Prop := localShedRow.holds Tryz.pinned (OpenSpec.ofChange localShedSpec)

/-- ITS FALSE NEIGHBOUR: 'it returns false'. Refute it at one input. -/
def localShedWrong : ChangeSpec := { name := "localShed", fn := fun _ => fun
  | [d1, d2] => { results := [.lit (.bool false)], args := [d1, d2] }
  | _ => none }
def LocalShedWrongFalsely : Prop := localShedRow.holds Tryz.pinned (OpenSpec.ofChange localShedWrong)

/-- 'escrowlaw18.LocalReplies': WHATEVER THE INPUT: true; the input reads as it did. -/
def localRepliesSpec : ChangeSpec := { name := "localReplies", fn := fun _ => fun
  | [d1, d2] => { results := [.lit (.bool true)], args := [d1, d2] }
  | _ => none }
def localRepliesRow : OpenClaim := { program := "ythhfjodcgibhfaagreat", sum := "12feb58547a6302442350d36cb8380ef66673896f1fb92a254f98ac44f0b8c49", func := "escrow/escrowlaw18.LocalReplies", spec := "localReplies", inPlace := ["slices.overlaps[escrow/api.Reg]", "slices.overlaps[escrow/api.Elem]", "slices.overlaps[escrow/api.Dot]", "slices.overlaps[escrow/api.Sum]", "slices.overlaps[escrow/api.Bind]", "slices.overlaps[int]"], unfollowed := true, recurses := true, apart := false }
def LocalRepliesSaid : Prop := localRepliesRow.holds Tryz.pinned (OpenSpec.ofChange localRepliesSpec)

/-- ITS FALSE NEIGHBOUR: 'it returns false'. Refute it at one input. -/
def localRepliesWrong : ChangeSpec := { name := "localReplies", fn := fun _ => fun
  | [d1, d2] => { results := [.lit (.bool false)], args := [d1, d2] }
  | _ => none }
def LocalRepliesWrongFalsely : Prop := localRepliesRow.holds Tryz.pinned (OpenSpec.ofChange localRepliesWrong)

/- THE SECOND FORM. 'bulk': how many values and letters a reading holds, each counted each time it is reached (what is shared counts as often as it is met; a slice's spare places count too). A statement '..UptoSaid' is the law's where the arguments, and the package variables that the reading takes, are together of bulk at most 1048576: NARROWER than '..Said'. Prove '..Said' where nothing that the law and all that it calls make is longer than what came in: it says more and counts as full. Else prove '..UptoSaid'. A law counts once. -/
mutual
def uptoBulk {H : Type} : DataW H → Nat
  | .lit (.string bytes) => bytes.length + 1
  | .lit _ => 1
  | .nil => 1
  | .ptr d => uptoBulk d + 1
  | .slice elems spare => uptoBulkAll elems + uptoBulkAll spare + 1
  | .agg parts => uptoBulkAll parts + 1
  | .iface _ d => uptoBulk d + 1
  | .map entries => uptoBulkEntries entries + 1
  | .held _ => 1
def uptoBulkAll {H : Type} : List (DataW H) → Nat
  | [] => 0
  | d :: r => uptoBulk d + uptoBulkAll r
def uptoBulkEntries {H : Type} : List (Lit × DataW H) → Nat
  | [] => 0
  | x :: r => uptoBulkEntry x + uptoBulkEntries r
def uptoBulkEntry {H : Type} : Lit × DataW H → Nat
  | (.string bytes, d) => bytes.length + uptoBulk d + 1
  | (_, d) => uptoBulk d + 1
 end
def uptoSmall : (H : Type) → List (DataW H) → Bool := fun _ ds => decide (uptoBulkAll ds ≤ 1048576)
def OpenSpec.upto (s : _root_.Go.ChangeSpec) : _root_.Go.OpenSpec := { _root_.Go.OpenSpec.ofChange s with cond := some uptoSmall }

/-- 'escrowlaw18.LocalDeltas', WHERE WHAT IT READS IS OF BULK AT MOST 1048576: true; the input reads as it did. -/
def localDeltasUptoRow : OpenClaim := { program := "ythhfjodcgibhfaagreat", sum := "12feb58547a6302442350d36cb8380ef66673896f1fb92a254f98ac44f0b8c49", func := "escrow/escrowlaw18.LocalDeltas", spec := "localDeltas", inPlace := ["slices.overlaps[escrow/api.Reg]", "slices.overlaps[escrow/api.Elem]", "slices.overlaps[escrow/api.Dot]", "slices.overlaps[escrow/api.Sum]", "slices.overlaps[escrow/api.Bind]", "slices.overlaps[int]"], unfollowed := true, recurses := true, apart := false, narrowed := true }
def LocalDeltasUptoSaid : Prop := localDeltasUptoRow.holds Tryz.pinned (OpenSpec.upto localDeltasSpec)

/-- 'escrowlaw18.LocalBegins', WHERE WHAT IT READS IS OF BULK AT MOST 1048576: true; the input reads as it did. -/
def localBeginsUptoRow : OpenClaim := { program := "ythhfjodcgibhfaagreat", sum := "12feb58547a6302442350d36cb8380ef66673896f1fb92a254f98ac44f0b8c49", func := "escrow/escrowlaw18.LocalBegins", spec := "localBegins", inPlace := ["slices.overlaps[escrow/api.Reg]", "slices.overlaps[escrow/api.Elem]", "slices.overlaps[escrow/api.Dot]", "slices.overlaps[escrow/api.Sum]", "slices.overlaps[escrow/api.Bind]", "slices.overlaps[int]"], unfollowed := true, recurses := true, apart := false, narrowed := true }
def LocalBeginsUptoSaid : Prop := localBeginsUptoRow.holds Tryz.pinned (OpenSpec.upto localBeginsSpec)

/-- 'escrowlaw18.LocalEnds', WHERE WHAT IT READS IS OF BULK AT MOST 1048576: true; the input reads as it did. -/
def localEndsUptoRow : OpenClaim := { program := "ythhfjodcgibhfaagreat", sum := "12feb58547a6302442350d36cb8380ef66673896f1fb92a254f98ac44f0b8c49", func := "escrow/escrowlaw18.LocalEnds", spec := "localEnds", inPlace := ["slices.overlaps[escrow/api.Reg]", "slices.overlaps[escrow/api.Elem]", "slices.overlaps[escrow/api.Dot]", "slices.overlaps[escrow/api.Sum]", "slices.overlaps[escrow/api.Bind]", "slices.overlaps[int]"], unfollowed := true, recurses := true, apart := false, narrowed := true }
def LocalEndsUptoSaid : Prop := localEndsUptoRow.holds Tryz.pinned (OpenSpec.upto localEndsSpec)

/-- 'escrowlaw18.LocalOps', WHERE WHAT IT READS IS OF BULK AT MOST 1048576: true; the input reads as it did. -/
def localOpsUptoRow : OpenClaim := { program := "ythhfjodcgibhfaagreat", sum := "12feb58547a6302442350d36cb8380ef66673896f1fb92a254f98ac44f0b8c49", func := "escrow/escrowlaw18.LocalOps", spec := "localOps", inPlace := ["slices.overlaps[escrow/api.Reg]", "slices.overlaps[escrow/api.Elem]", "slices.overlaps[escrow/api.Dot]", "slices.overlaps[escrow/api.Sum]", "slices.overlaps[escrow/api.Bind]", "slices.overlaps[int]"], unfollowed := true, recurses := true, apart := false, narrowed := true }
def LocalOpsUptoSaid : Prop := localOpsUptoRow.holds Tryz.pinned (OpenSpec.upto localOpsSpec)

/-- 'escrowlaw18.LocalFenced', WHERE WHAT IT READS IS OF BULK AT MOST 1048576: true; the input reads as it did. -/
def localFencedUptoRow : OpenClaim := { program := "ythhfjodcgibhfaagreat", sum := "12feb58547a6302442350d36cb8380ef66673896f1fb92a254f98ac44f0b8c49", func := "escrow/escrowlaw18.LocalFenced", spec := "localFenced", inPlace := ["slices.overlaps[escrow/api.Reg]", "slices.overlaps[escrow/api.Elem]", "slices.overlaps[escrow/api.Dot]", "slices.overlaps[escrow/api.Sum]", "slices.overlaps[escrow/api.Bind]", "slices.overlaps[int]"], unfollowed := true, recurses := true, apart := false, narrowed := true }
def LocalFencedUptoSaid : Prop := localFencedUptoRow.holds Tryz.pinned (OpenSpec.upto localFencedSpec)

/-- 'escrowlaw18.LocalShed', WHERE WHAT IT READS IS OF BULK AT MOST 1048576: true; the input reads as it did. -/
def localShedUptoRow : OpenClaim := { program := "ythhfjodcgibhfaagreat", sum := "12feb58547a6302442350d36cb8380ef66673896f1fb92a254f98ac44f0b8c49", func := "escrow/escrowlaw18.LocalShed", spec := "localShed", inPlace := ["slices.overlaps[escrow/api.Reg]", "slices.overlaps[escrow/api.Elem]", "slices.overlaps[escrow/api.Dot]", "slices.overlaps[escrow/api.Sum]", "slices.overlaps[escrow/api.Bind]", "slices.overlaps[int]"], unfollowed := true, recurses := true, apart := false, narrowed := true }
def LocalShedUptoSaid : Prop := localShedUptoRow.holds Tryz.pinned (OpenSpec.upto localShedSpec)

/-- 'escrowlaw18.LocalReplies', WHERE WHAT IT READS IS OF BULK AT MOST 1048576: true; the input reads as it did. -/
def localRepliesUptoRow : OpenClaim := { program := "ythhfjodcgibhfaagreat", sum := "12feb58547a6302442350d36cb8380ef66673896f1fb92a254f98ac44f0b8c49", func := "escrow/escrowlaw18.LocalReplies", spec := "localReplies", inPlace := ["slices.overlaps[escrow/api.Reg]", "slices.overlaps[escrow/api.Elem]", "slices.overlaps[escrow/api.Dot]", "slices.overlaps[escrow/api.Sum]", "slices.overlaps[escrow/api.Bind]", "slices.overlaps[int]"], unfollowed := true, recurses := true, apart := false, narrowed := true }
def LocalRepliesUptoSaid : Prop := localRepliesUptoRow.holds Tryz.pinned (OpenSpec.upto localRepliesSpec)

end Rows
end Go.Proofs.YthhfjodcgibhfaaGreat
