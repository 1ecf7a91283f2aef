/-
  No cell of these rows narrows 'for every input' (looked for: loops, veiled, ifaces, maps, wideKeys, modest, calm, conditions, laid).
  DERIVED. THE GIVEN ROWS OF THIS SEAT. 12 by the template 'for every input the law returns true; each argument reads behind the call as it read before'; 0 by the template 'total and deterministic' (their statements: YtcjpeijiaojeiaaGreatTotals.lean).
  GIVEN WITH THE SEED: the statements are not yours to turn. If you find one false, say at which input.
  Laid BY PROGRAM, IN A SANDBOX (cutbox-rows.mjs): the forced cells as the released guide's own fill.sh prints them over the translation fa5bdcf47634eb6f… (all of the seat's roots in one cut). By AI agents, Wed Nov 11 2026. No macro, syntax, notation, axiom, sorry.
-/
import Derived.Test.YtcjpeijiaojeiaaGreatChecked
import GoSem.Claim
import GoSem.ClaimJoined
import GoSem.ClaimMapViews
import Derived.JoinedTies
import Derived.KernelRfl
namespace Go.Proofs.YtcjpeijiaojeiaaGreat
/- THE CELL 'sum', in the pinned program and in every row, IS THE sha256 OF THE DUMP (.gsa) THAT YtcjpeijiaojeiaaGreatProg.lean LOADS. Nothing in Lean hashes anything: it is a label: what it is worth is what the hold of that sum in a sandbox is worth. -/
noncomputable def Tryz.pinned : Pinned := { name := "ytcjpeijiaojeiaagreat", sum := "fa5bdcf47634eb6f9d55b0c353d14e7d7129eb5ba1ec6a908a8b28562663192f", checked := Tryz.checked }
namespace Rows
def none {H : Type} : Left H := { results := [], args := [] }

/-- 'escrowlaw13.DeskEpochs': WHATEVER THE INPUT: true; the input reads as it did. -/
def deskEpochsSpec : ChangeSpec := { name := "deskEpochs", fn := fun _ => fun
  | [d] => { results := [.lit (.bool true)], args := [d] }
  | _ => none }
def deskEpochsRow : OpenClaim := { program := "ytcjpeijiaojeiaagreat", sum := "fa5bdcf47634eb6f9d55b0c353d14e7d7129eb5ba1ec6a908a8b28562663192f", func := "escrow/escrowlaw13.DeskEpochs", spec := "deskEpochs", inPlace := ["slices.overlaps[escrow/api.Lease]", "slices.overlaps[int]", "slices.overlaps[escrow/api.Reg]", "slices.overlaps[escrow/api.Elem]", "slices.overlaps[escrow/api.Dot]", "slices.overlaps[escrow/api.Sum]", "slices.overlaps[escrow/api.Bind]"], unfollowed := true, recurses := true, plainKeys := false, apart := false }
def DeskEpochsSaid : Prop := deskEpochsRow.holds Tryz.pinned (OpenSpec.ofChange deskEpochsSpec)

/-- ITS FALSE NEIGHBOUR: 'it returns false'. Refute it at one input. -/
def deskEpochsWrong : ChangeSpec := { name := "deskEpochs", fn := fun _ => fun
  | [d] => { results := [.lit (.bool false)], args := [d] }
  | _ => none }
def DeskEpochsWrongFalsely : Prop := deskEpochsRow.holds Tryz.pinned (OpenSpec.ofChange deskEpochsWrong)

/-- 'escrowlaw13.DeskLoses': WHATEVER THE INPUT: true; the input reads as it did. -/
def deskLosesSpec : ChangeSpec := { name := "deskLoses", fn := fun _ => fun
  | [d1, d2] => { results := [.lit (.bool true)], args := [d1, d2] }
  | _ => none }
def deskLosesRow : OpenClaim := { program := "ytcjpeijiaojeiaagreat", sum := "fa5bdcf47634eb6f9d55b0c353d14e7d7129eb5ba1ec6a908a8b28562663192f", func := "escrow/escrowlaw13.DeskLoses", spec := "deskLoses", inPlace := ["slices.overlaps[escrow/api.Lease]", "slices.overlaps[int]", "slices.overlaps[escrow/api.Reg]", "slices.overlaps[escrow/api.Elem]", "slices.overlaps[escrow/api.Dot]", "slices.overlaps[escrow/api.Sum]", "slices.overlaps[escrow/api.Bind]"], unfollowed := true, recurses := true, plainKeys := false, apart := false }
def DeskLosesSaid : Prop := deskLosesRow.holds Tryz.pinned (OpenSpec.ofChange deskLosesSpec)

/-- ITS FALSE NEIGHBOUR: 'it returns false'. Refute it at one input. -/
def deskLosesWrong : ChangeSpec := { name := "deskLoses", fn := fun _ => fun
  | [d1, d2] => { results := [.lit (.bool false)], args := [d1, d2] }
  | _ => none }
def DeskLosesWrongFalsely : Prop := deskLosesRow.holds Tryz.pinned (OpenSpec.ofChange deskLosesWrong)

/-- 'escrowlaw13.DeskDelta': WHATEVER THE INPUT: true; the input reads as it did. -/
def deskDeltaSpec : ChangeSpec := { name := "deskDelta", fn := fun _ => fun
  | [d1, d2, d3, d4] => { results := [.lit (.bool true)], args := [d1, d2, d3, d4] }
  | _ => none }
def deskDeltaRow : OpenClaim := { program := "ytcjpeijiaojeiaagreat", sum := "fa5bdcf47634eb6f9d55b0c353d14e7d7129eb5ba1ec6a908a8b28562663192f", func := "escrow/escrowlaw13.DeskDelta", spec := "deskDelta", inPlace := ["slices.overlaps[escrow/api.Lease]", "slices.overlaps[int]", "slices.overlaps[escrow/api.Reg]", "slices.overlaps[escrow/api.Elem]", "slices.overlaps[escrow/api.Dot]", "slices.overlaps[escrow/api.Sum]", "slices.overlaps[escrow/api.Bind]"], unfollowed := true, recurses := true, plainKeys := false, apart := false }
def DeskDeltaSaid : Prop := deskDeltaRow.holds Tryz.pinned (OpenSpec.ofChange deskDeltaSpec)

/-- ITS FALSE NEIGHBOUR: 'it returns false'. Refute it at one input. -/
def deskDeltaWrong : ChangeSpec := { name := "deskDelta", fn := fun _ => fun
  | [d1, d2, d3, d4] => { results := [.lit (.bool false)], args := [d1, d2, d3, d4] }
  | _ => none }
def DeskDeltaWrongFalsely : Prop := deskDeltaRow.holds Tryz.pinned (OpenSpec.ofChange deskDeltaWrong)

/-- 'escrowlaw13.DeskPlays': WHATEVER THE INPUT: true; the input reads as it did. -/
def deskPlaysSpec : ChangeSpec := { name := "deskPlays", fn := fun _ => fun
  | [d1, d2, d3] => { results := [.lit (.bool true)], args := [d1, d2, d3] }
  | _ => none }
def deskPlaysRow : OpenClaim := { program := "ytcjpeijiaojeiaagreat", sum := "fa5bdcf47634eb6f9d55b0c353d14e7d7129eb5ba1ec6a908a8b28562663192f", func := "escrow/escrowlaw13.DeskPlays", spec := "deskPlays", inPlace := ["slices.overlaps[escrow/api.Lease]", "slices.overlaps[int]", "slices.overlaps[escrow/api.Reg]", "slices.overlaps[escrow/api.Elem]", "slices.overlaps[escrow/api.Dot]", "slices.overlaps[escrow/api.Sum]", "slices.overlaps[escrow/api.Bind]"], unfollowed := true, recurses := true, plainKeys := false, apart := false }
def DeskPlaysSaid : Prop := deskPlaysRow.holds Tryz.pinned (OpenSpec.ofChange deskPlaysSpec)

/-- ITS FALSE NEIGHBOUR: 'it returns false'. Refute it at one input. -/
def deskPlaysWrong : ChangeSpec := { name := "deskPlays", fn := fun _ => fun
  | [d1, d2, d3] => { results := [.lit (.bool false)], args := [d1, d2, d3] }
  | _ => none }
def DeskPlaysWrongFalsely : Prop := deskPlaysRow.holds Tryz.pinned (OpenSpec.ofChange deskPlaysWrong)

/-- 'escrowlaw13.DeskSound': WHATEVER THE INPUT: true; the input reads as it did. -/
def deskSoundSpec : ChangeSpec := { name := "deskSound", fn := fun _ => fun
  | [d] => { results := [.lit (.bool true)], args := [d] }
  | _ => none }
def deskSoundRow : OpenClaim := { program := "ytcjpeijiaojeiaagreat", sum := "fa5bdcf47634eb6f9d55b0c353d14e7d7129eb5ba1ec6a908a8b28562663192f", func := "escrow/escrowlaw13.DeskSound", spec := "deskSound", inPlace := ["slices.overlaps[escrow/api.Lease]", "slices.overlaps[int]", "slices.overlaps[escrow/api.Reg]", "slices.overlaps[escrow/api.Elem]", "slices.overlaps[escrow/api.Dot]", "slices.overlaps[escrow/api.Sum]", "slices.overlaps[escrow/api.Bind]"], unfollowed := true, recurses := true, plainKeys := false, apart := false }
def DeskSoundSaid : Prop := deskSoundRow.holds Tryz.pinned (OpenSpec.ofChange deskSoundSpec)

/-- ITS FALSE NEIGHBOUR: 'it returns false'. Refute it at one input. -/
def deskSoundWrong : ChangeSpec := { name := "deskSound", fn := fun _ => fun
  | [d] => { results := [.lit (.bool false)], args := [d] }
  | _ => none }
def DeskSoundWrongFalsely : Prop := deskSoundRow.holds Tryz.pinned (OpenSpec.ofChange deskSoundWrong)

/-- 'escrowlaw13.DeskTwice': WHATEVER THE INPUT: true; the input reads as it did. -/
def deskTwiceSpec : ChangeSpec := { name := "deskTwice", fn := fun _ => fun
  | [d] => { results := [.lit (.bool true)], args := [d] }
  | _ => none }
def deskTwiceRow : OpenClaim := { program := "ytcjpeijiaojeiaagreat", sum := "fa5bdcf47634eb6f9d55b0c353d14e7d7129eb5ba1ec6a908a8b28562663192f", func := "escrow/escrowlaw13.DeskTwice", spec := "deskTwice", inPlace := ["slices.overlaps[escrow/api.Lease]", "slices.overlaps[int]", "slices.overlaps[escrow/api.Reg]", "slices.overlaps[escrow/api.Elem]", "slices.overlaps[escrow/api.Dot]", "slices.overlaps[escrow/api.Sum]", "slices.overlaps[escrow/api.Bind]"], unfollowed := true, recurses := true, plainKeys := false, apart := false }
def DeskTwiceSaid : Prop := deskTwiceRow.holds Tryz.pinned (OpenSpec.ofChange deskTwiceSpec)

/-- ITS FALSE NEIGHBOUR: 'it returns false'. Refute it at one input. -/
def deskTwiceWrong : ChangeSpec := { name := "deskTwice", fn := fun _ => fun
  | [d] => { results := [.lit (.bool false)], args := [d] }
  | _ => none }
def DeskTwiceWrongFalsely : Prop := deskTwiceRow.holds Tryz.pinned (OpenSpec.ofChange deskTwiceWrong)

/-- 'escrowlaw13.DeskMerges': WHATEVER THE INPUT: true; the input reads as it did. -/
def deskMergesSpec : ChangeSpec := { name := "deskMerges", fn := fun _ => fun
  | [d1, d2] => { results := [.lit (.bool true)], args := [d1, d2] }
  | _ => none }
def deskMergesRow : OpenClaim := { program := "ytcjpeijiaojeiaagreat", sum := "fa5bdcf47634eb6f9d55b0c353d14e7d7129eb5ba1ec6a908a8b28562663192f", func := "escrow/escrowlaw13.DeskMerges", spec := "deskMerges", inPlace := ["slices.overlaps[escrow/api.Lease]", "slices.overlaps[int]", "slices.overlaps[escrow/api.Reg]", "slices.overlaps[escrow/api.Elem]", "slices.overlaps[escrow/api.Dot]", "slices.overlaps[escrow/api.Sum]", "slices.overlaps[escrow/api.Bind]"], unfollowed := true, recurses := true, plainKeys := false, apart := false }
def DeskMergesSaid : Prop := deskMergesRow.holds Tryz.pinned (OpenSpec.ofChange deskMergesSpec)

/-- ITS FALSE NEIGHBOUR: 'it returns false'. Refute it at one input. -/
def deskMergesWrong : ChangeSpec := { name := "deskMerges", fn := fun _ => fun
  | [d1, d2] => { results := [.lit (.bool false)], args := [d1, d2] }
  | _ => none }
def DeskMergesWrongFalsely : Prop := deskMergesRow.holds Tryz.pinned (OpenSpec.ofChange deskMergesWrong)

/-- 'escrowlaw13.DeskSpends': WHATEVER THE INPUT: true; the input reads as it did. -/
def deskSpendsSpec : ChangeSpec := { name := "deskSpends", fn := fun _ => fun
  | [d] => { results := [.lit (.bool true)], args := [d] }
  | _ => none }
def deskSpendsRow : OpenClaim := { program := "ytcjpeijiaojeiaagreat", sum := "fa5bdcf47634eb6f9d55b0c353d14e7d7129eb5ba1ec6a908a8b28562663192f", func := "escrow/escrowlaw13.DeskSpends", spec := "deskSpends", inPlace := ["slices.overlaps[escrow/api.Lease]", "slices.overlaps[int]", "slices.overlaps[escrow/api.Reg]", "slices.overlaps[escrow/api.Elem]", "slices.overlaps[escrow/api.Dot]", "slices.overlaps[escrow/api.Sum]", "slices.overlaps[escrow/api.Bind]"], unfollowed := true, recurses := true, plainKeys := false, apart := false }
def DeskSpendsSaid : Prop := deskSpendsRow.holds Tryz.pinned (OpenSpec.ofChange deskSpendsSpec)

/-- ITS FALSE NEIGHBOUR: 'it returns false'. Refute it at one input. -/
def deskSpendsWrong : ChangeSpec := { name := "deskSpends", fn := fun _ => fun
  | [d] => { results := [.lit (.bool false)], args := [d] }
  | _ => none }
def DeskSpendsWrongFalsely : Prop := deskSpendsRow.holds Tryz.pinned (OpenSpec.ofChange deskSpendsWrong)

/-- 'escrowlaw13.DeskCloses': WHATEVER THE INPUT: true; the input reads as it did. -/
def deskClosesSpec : ChangeSpec := { name := "deskCloses", fn := fun _ => fun
  | [d1, d2, d3] => { results := [.lit (.bool true)], args := [d1, d2, d3] }
  | _ => none }
def deskClosesRow : OpenClaim := { program := "ytcjpeijiaojeiaagreat", sum := "fa5bdcf47634eb6f9d55b0c353d14e7d7129eb5ba1ec6a908a8b28562663192f", func := "escrow/escrowlaw13.DeskCloses", spec := "deskCloses", inPlace := ["slices.overlaps[escrow/api.Lease]", "slices.overlaps[int]", "slices.overlaps[escrow/api.Reg]", "slices.overlaps[escrow/api.Elem]", "slices.overlaps[escrow/api.Dot]", "slices.overlaps[escrow/api.Sum]", "slices.overlaps[escrow/api.Bind]"], unfollowed := true, recurses := true, plainKeys := false, apart := false }
def DeskClosesSaid : Prop := deskClosesRow.holds Tryz.pinned (OpenSpec.ofChange deskClosesSpec)

/-- ITS FALSE NEIGHBOUR: 'it returns false'. Refute it at one input. -/
def deskClosesWrong : ChangeSpec := { name := "deskCloses", fn := fun _ => fun
  | [d1, d2, d3] => { results := [.lit (.bool false)], args := [d1, d2, d3] }
  | _ => none }
def DeskClosesWrongFalsely : Prop := deskClosesRow.holds Tryz.pinned (OpenSpec.ofChange deskClosesWrong)

/-- 'escrowlaw13.DeskReqs': WHATEVER THE INPUT: true; the input reads as it did. -/
def deskReqsSpec : ChangeSpec := { name := "deskReqs", fn := fun _ => fun
  | [d] => { results := [.lit (.bool true)], args := [d] }
  | _ => none }
def deskReqsRow : OpenClaim := { program := "ytcjpeijiaojeiaagreat", sum := "fa5bdcf47634eb6f9d55b0c353d14e7d7129eb5ba1ec6a908a8b28562663192f", func := "escrow/escrowlaw13.DeskReqs", spec := "deskReqs", inPlace := ["slices.overlaps[escrow/api.Lease]", "slices.overlaps[int]", "slices.overlaps[escrow/api.Reg]", "slices.overlaps[escrow/api.Elem]", "slices.overlaps[escrow/api.Dot]", "slices.overlaps[escrow/api.Sum]", "slices.overlaps[escrow/api.Bind]"], unfollowed := true, recurses := true, plainKeys := false, apart := false }
def DeskReqsSaid : Prop := deskReqsRow.holds Tryz.pinned (OpenSpec.ofChange deskReqsSpec)

/-- ITS FALSE NEIGHBOUR: 'it returns false'. Refute it at one input. -/
def deskReqsWrong : ChangeSpec := { name := "deskReqs", fn := fun _ => fun
  | [d] => { results := [.lit (.bool false)], args := [d] }
  | _ => none }
def DeskReqsWrongFalsely : Prop := deskReqsRow.holds Tryz.pinned (OpenSpec.ofChange deskReqsWrong)

/-- 'escrowlaw13.DeskTimes': WHATEVER THE INPUT: true; the input reads as it did. -/
def deskTimesSpec : ChangeSpec := { name := "deskTimes", fn := fun _ => fun
  | [d] => { results := [.lit (.bool true)], args := [d] }
  | _ => none }
def deskTimesRow : OpenClaim := { program := "ytcjpeijiaojeiaagreat", sum := "fa5bdcf47634eb6f9d55b0c353d14e7d7129eb5ba1ec6a908a8b28562663192f", func := "escrow/escrowlaw13.DeskTimes", spec := "deskTimes", inPlace := ["slices.overlaps[escrow/api.Lease]", "slices.overlaps[int]", "slices.overlaps[escrow/api.Reg]", "slices.overlaps[escrow/api.Elem]", "slices.overlaps[escrow/api.Dot]", "slices.overlaps[escrow/api.Sum]", "slices.overlaps[escrow/api.Bind]"], unfollowed := true, recurses := true, plainKeys := false, apart := false }
def DeskTimesSaid : Prop := deskTimesRow.holds Tryz.pinned (OpenSpec.ofChange deskTimesSpec)

/-- ITS FALSE NEIGHBOUR: 'it returns false'. Refute it at one input. -/
def deskTimesWrong : ChangeSpec := { name := "deskTimes", fn := fun _ => fun
  | [d] => { results := [.lit (.bool false)], args := [d] }
  | _ => none }
def DeskTimesWrongFalsely : Prop := deskTimesRow.holds Tryz.pinned (OpenSpec.ofChange deskTimesWrong)

/-- 'escrowlaw13.DeskKinds': WHATEVER THE INPUT: true; the input reads as it did. -/
def deskKindsSpec : ChangeSpec := { name := "deskKinds", fn := fun _ => fun
  | [d1, d2] => { results := [.lit (.bool true)], args := [d1, d2] }
  | _ => none }
def deskKindsRow : OpenClaim := { program := "ytcjpeijiaojeiaagreat", sum := "fa5bdcf47634eb6f9d55b0c353d14e7d7129eb5ba1ec6a908a8b28562663192f", func := "escrow/escrowlaw13.DeskKinds", spec := "deskKinds", inPlace := ["slices.overlaps[escrow/api.Lease]", "slices.overlaps[int]", "slices.overlaps[escrow/api.Reg]", "slices.overlaps[escrow/api.Elem]", "slices.overlaps[escrow/api.Dot]", "slices.overlaps[escrow/api.Sum]", "slices.overlaps[escrow/api.Bind]"], unfollowed := true, recurses := true, plainKeys := false, apart := false }
def DeskKindsSaid : Prop := deskKindsRow.holds Tryz.pinned (OpenSpec.ofChange deskKindsSpec)

/-- ITS FALSE NEIGHBOUR: 'it returns false'. Refute it at one input. -/
def deskKindsWrong : ChangeSpec := { name := "deskKinds", fn := fun _ => fun
  | [d1, d2] => { results := [.lit (.bool false)], args := [d1, d2] }
  | _ => none }
def DeskKindsWrongFalsely : Prop := deskKindsRow.holds Tryz.pinned (OpenSpec.ofChange deskKindsWrong)

/- THE SECOND FORM. 'bulk': how many values and letters a reading holds, each counted each time it is reached (what is shared counts as often as it is met; a slice's spare places count too). A statement '..UptoSaid' is the law's where the arguments, and the package variables that the reading takes, are together of bulk at most 1048576: NARROWER than '..Said'. Prove '..Said' where nothing that the law and all that it calls make is longer than what came in: it says more and counts as full. Else prove '..UptoSaid'. A law counts once. -/
mutual
def uptoBulk {H : Type} : DataW H → Nat
  | .lit (.string bytes) => bytes.length + 1
  | .lit _ => 1
  | .nil => 1
  | .ptr d => uptoBulk d + 1
  | .slice elems spare => uptoBulkAll elems + uptoBulkAll spare + 1
  | .agg parts => uptoBulkAll parts + 1
  | .iface _ d => uptoBulk d + 1
  | .map entries => uptoBulkEntries entries + 1
  | .held _ => 1
def uptoBulkAll {H : Type} : List (DataW H) → Nat
  | [] => 0
  | d :: r => uptoBulk d + uptoBulkAll r
def uptoBulkEntries {H : Type} : List (Lit × DataW H) → Nat
  | [] => 0
  | x :: r => uptoBulkEntry x + uptoBulkEntries r
def uptoBulkEntry {H : Type} : Lit × DataW H → Nat
  | (.string bytes, d) => bytes.length + uptoBulk d + 1
  | (_, d) => uptoBulk d + 1
 end
def uptoSmall : (H : Type) → List (DataW H) → Bool := fun _ ds => decide (uptoBulkAll ds ≤ 1048576)
def OpenSpec.upto (s : _root_.Go.ChangeSpec) : _root_.Go.OpenSpec := { _root_.Go.OpenSpec.ofChange s with cond := some uptoSmall }

/-- 'escrowlaw13.DeskEpochs', WHERE WHAT IT READS IS OF BULK AT MOST 1048576: true; the input reads as it did. -/
def deskEpochsUptoRow : OpenClaim := { program := "ytcjpeijiaojeiaagreat", sum := "fa5bdcf47634eb6f9d55b0c353d14e7d7129eb5ba1ec6a908a8b28562663192f", func := "escrow/escrowlaw13.DeskEpochs", spec := "deskEpochs", inPlace := ["slices.overlaps[escrow/api.Lease]", "slices.overlaps[int]", "slices.overlaps[escrow/api.Reg]", "slices.overlaps[escrow/api.Elem]", "slices.overlaps[escrow/api.Dot]", "slices.overlaps[escrow/api.Sum]", "slices.overlaps[escrow/api.Bind]"], unfollowed := true, recurses := true, plainKeys := false, apart := false, narrowed := true }
def DeskEpochsUptoSaid : Prop := deskEpochsUptoRow.holds Tryz.pinned (OpenSpec.upto deskEpochsSpec)

/-- 'escrowlaw13.DeskLoses', WHERE WHAT IT READS IS OF BULK AT MOST 1048576: true; the input reads as it did. -/
def deskLosesUptoRow : OpenClaim := { program := "ytcjpeijiaojeiaagreat", sum := "fa5bdcf47634eb6f9d55b0c353d14e7d7129eb5ba1ec6a908a8b28562663192f", func := "escrow/escrowlaw13.DeskLoses", spec := "deskLoses", inPlace := ["slices.overlaps[escrow/api.Lease]", "slices.overlaps[int]", "slices.overlaps[escrow/api.Reg]", "slices.overlaps[escrow/api.Elem]", "slices.overlaps[escrow/api.Dot]", "slices.overlaps[escrow/api.Sum]", "slices.overlaps[escrow/api.Bind]"], unfollowed := true, recurses := true, plainKeys := false, apart := false, narrowed := true }
def DeskLosesUptoSaid : Prop := deskLosesUptoRow.holds Tryz.pinned (OpenSpec.upto deskLosesSpec)

/-- 'escrowlaw13.DeskDelta', WHERE WHAT IT READS IS OF BULK AT MOST 1048576: true; the input reads as it did. -/
def deskDeltaUptoRow : OpenClaim := { program := "ytcjpeijiaojeiaagreat", sum := "fa5bdcf47634eb6f9d55b0c353d14e7d7129eb5ba1ec6a908a8b28562663192f", func := "escrow/escrowlaw13.DeskDelta", spec := "deskDelta", inPlace := ["slices.overlaps[escrow/api.Lease]", "slices.overlaps[int]", "slices.overlaps[escrow/api.Reg]", "slices.overlaps[escrow/api.Elem]", "slices.overlaps[escrow/api.Dot]", "slices.overlaps[escrow/api.Sum]", "slices.overlaps[escrow/api.Bind]"], unfollowed := true, recurses := true, plainKeys := false, apart := false, narrowed := true }
def DeskDeltaUptoSaid : Prop := deskDeltaUptoRow.holds Tryz.pinned (OpenSpec.upto deskDeltaSpec)

/-- 'escrowlaw13.DeskPlays', WHERE WHAT IT READS IS OF BULK AT MOST 1048576: true; the input reads as it did. -/
def deskPlaysUptoRow : OpenClaim := { program := "ytcjpeijiaojeiaagreat", sum := "fa5bdcf47634eb6f9d55b0c353d14e7d7129eb5ba1ec6a908a8b28562663192f", func := "escrow/escrowlaw13.DeskPlays", spec := "deskPlays", inPlace := ["slices.overlaps[escrow/api.Lease]", "slices.overlaps[int]", "slices.overlaps[escrow/api.Reg]", "slices.overlaps[escrow/api.Elem]", "slices.overlaps[escrow/api.Dot]", "slices.overlaps[escrow/api.Sum]", "slices.overlaps[escrow/api.Bind]"], unfollowed := true, recurses := true, plainKeys := false, apart := false, narrowed := true }
def DeskPlaysUptoSaid : Prop := deskPlaysUptoRow.holds Tryz.pinned (OpenSpec.upto deskPlaysSpec)

/-- 'escrowlaw13.DeskSound', WHERE WHAT IT READS IS OF BULK AT MOST 1048576: true; the input reads as it did. -/
def deskSoundUptoRow : OpenClaim := { program := "ytcjpeijiaojeiaagreat", sum := "fa5bdcf47634eb6f9d55b0c353d14e7d7129eb5ba1ec6a908a8b28562663192f", func := "escrow/escrowlaw13.DeskSound", spec := "deskSound", inPlace := ["slices.overlaps[escrow/api.Lease]", "slices.overlaps[int]", "slices.overlaps[escrow/api.Reg]", "slices.overlaps[escrow/api.Elem]", "slices.overlaps[escrow/api.Dot]", "slices.overlaps[escrow/api.Sum]", "slices.overlaps[escrow/api.Bind]"], unfollowed := true, recurses := true, plainKeys := false, apart := false, narrowed := true }
def DeskSoundUptoSaid : Prop := deskSoundUptoRow.holds Tryz.pinned (OpenSpec.upto deskSoundSpec)

/-- 'escrowlaw13.DeskTwice', WHERE WHAT IT READS IS OF BULK AT MOST 1048576: true; the input reads as it did. -/
def deskTwiceUptoRow : OpenClaim := { program := "ytcjpeijiaojeiaagreat", sum := "fa5bdcf47634eb6f9d55b0c353d14e7d7129eb5ba1ec6a908a8b28562663192f", func := "escrow/escrowlaw13.DeskTwice", spec := "deskTwice", inPlace := ["slices.overlaps[escrow/api.Lease]", "slices.overlaps[int]", "slices.overlaps[escrow/api.Reg]", "slices.overlaps[escrow/api.Elem]", "slices.overlaps[escrow/api.Dot]", "slices.overlaps[escrow/api.Sum]", "slices.overlaps[escrow/api.Bind]"], unfollowed := true, recurses := true, plainKeys := false, apart := false, narrowed := true }
def DeskTwiceUptoSaid : Prop := deskTwiceUptoRow.holds Tryz.pinned (OpenSpec.upto deskTwiceSpec)

/-- 'escrowlaw13.DeskMerges', WHERE WHAT IT READS IS OF BULK AT MOST 1048576: true; the input reads as it did. -/
def deskMergesUptoRow : OpenClaim := { program := "ytcjpeijiaojeiaagreat", sum := "fa5bdcf47634eb6f9d55b0c353d14e7d7129eb5ba1ec6a908a8b28562663192f", func := "escrow/escrowlaw13.DeskMerges", spec := "deskMerges", inPlace := ["slices.overlaps[escrow/api.Lease]", "slices.overlaps[int]", "slices.overlaps[escrow/api.Reg]", "slices.overlaps[escrow/api.Elem]", "slices.overlaps[escrow/api.Dot]", "slices.overlaps[escrow/api.Sum]", "slices.overlaps[escrow/api.Bind]"], unfollowed := true, recurses := true, plainKeys := false, apart := false, narrowed := true }
def DeskMergesUptoSaid : Prop := deskMergesUptoRow.holds Tryz.pinned (OpenSpec.upto deskMergesSpec)

/-- 'escrowlaw13.DeskSpends', WHERE WHAT IT READS IS OF BULK AT MOST 1048576: true; the input reads as it did. -/
def deskSpendsUptoRow : OpenClaim := { program := "ytcjpeijiaojeiaagreat", sum := "fa5bdcf47634eb6f9d55b0c353d14e7d7129eb5ba1ec6a908a8b28562663192f", func := "escrow/escrowlaw13.DeskSpends", spec := "deskSpends", inPlace := ["slices.overlaps[escrow/api.Lease]", "slices.overlaps[int]", "slices.overlaps[escrow/api.Reg]", "slices.overlaps[escrow/api.Elem]", "slices.overlaps[escrow/api.Dot]", "slices.overlaps[escrow/api.Sum]", "slices.overlaps[escrow/api.Bind]"], unfollowed := true, recurses := true, plainKeys := false, apart := false, narrowed := true }
def DeskSpendsUptoSaid : Prop := deskSpendsUptoRow.holds Tryz.pinned (OpenSpec.upto deskSpendsSpec)

/-- 'escrowlaw13.DeskCloses', WHERE WHAT IT READS IS OF BULK AT MOST 1048576: true; the input reads as it did. -/
def deskClosesUptoRow : OpenClaim := { program := "ytcjpeijiaojeiaagreat", sum := "fa5bdcf47634eb6f9d55b0c353d14e7d7129eb5ba1ec6a908a8b28562663192f", func := "escrow/escrowlaw13.DeskCloses", spec := "deskCloses", inPlace := ["slices.overlaps[escrow/api.Lease]", "slices.overlaps[int]", "slices.overlaps[escrow/api.Reg]", "slices.overlaps[escrow/api.Elem]", "slices.overlaps[escrow/api.Dot]", "slices.overlaps[escrow/api.Sum]", "slices.overlaps[escrow/api.Bind]"], unfollowed := true, recurses := true, plainKeys := false, apart := false, narrowed := true }
def DeskClosesUptoSaid : Prop := deskClosesUptoRow.holds Tryz.pinned (OpenSpec.upto deskClosesSpec)

/-- 'escrowlaw13.DeskReqs', WHERE WHAT IT READS IS OF BULK AT MOST 1048576: true; the input reads as it did. -/
def deskReqsUptoRow : OpenClaim := { program := "ytcjpeijiaojeiaagreat", sum := "fa5bdcf47634eb6f9d55b0c353d14e7d7129eb5ba1ec6a908a8b28562663192f", func := "escrow/escrowlaw13.DeskReqs", spec := "deskReqs", inPlace := ["slices.overlaps[escrow/api.Lease]", "slices.overlaps[int]", "slices.overlaps[escrow/api.Reg]", "slices.overlaps[escrow/api.Elem]", "slices.overlaps[escrow/api.Dot]", "slices.overlaps[escrow/api.Sum]", "slices.overlaps[escrow/api.Bind]"], unfollowed := true, recurses := true, plainKeys := false, apart := false, narrowed := true }
def DeskReqsUptoSaid : Prop := deskReqsUptoRow.holds Tryz.pinned (OpenSpec.upto deskReqsSpec)

/-- 'escrowlaw13.DeskTimes', WHERE WHAT IT READS IS OF BULK AT MOST 1048576: true; the input reads as it did. -/
def deskTimesUptoRow : OpenClaim := { program := "ytcjpeijiaojeiaagreat", sum := "fa5bdcf47634eb6f9d55b0c353d14e7d7129eb5ba1ec6a908a8b28562663192f", func := "escrow/escrowlaw13.DeskTimes", spec := "deskTimes", inPlace := ["slices.overlaps[escrow/api.Lease]", "slices.overlaps[int]", "slices.overlaps[escrow/api.Reg]", "slices.overlaps[escrow/api.Elem]", "slices.overlaps[escrow/api.Dot]", "slices.overlaps[escrow/api.Sum]", "slices.overlaps[escrow/api.Bind]"], unfollowed := true, recurses := true, plainKeys := false, apart := false, narrowed := true }
def DeskTimesUptoSaid : Prop := deskTimesUptoRow.holds Tryz.pinned (OpenSpec.upto deskTimesSpec)

/-- 'escrowlaw13.DeskKinds', WHERE WHAT IT READS IS OF BULK AT MOST 1048576: true; the input reads as it did. -/
def deskKindsUptoRow : OpenClaim := { program := "ytcjpeijiaojeiaagreat", sum := "fa5bdcf47634eb6f9d55b0c353d14e7d7129eb5ba1ec6a908a8b28562663192f", func := "escrow/escrowlaw13.DeskKinds", spec := "deskKinds", inPlace := ["slices.overlaps[escrow/api.Lease]", "slices.overlaps[int]", "slices.overlaps[escrow/api.Reg]", "slices.overlaps[escrow/api.Elem]", "slices.overlaps[escrow/api.Dot]", "slices.overlaps[escrow/api.Sum]", "slices.overlaps[escrow/api.Bind]"], unfollowed := true, recurses := true, plainKeys := false, apart := false, narrowed := true }
def DeskKindsUptoSaid : Prop := deskKindsUptoRow.holds Tryz.pinned (OpenSpec.upto deskKindsSpec)

end Rows
end Go.Proofs.YtcjpeijiaojeiaaGreat
