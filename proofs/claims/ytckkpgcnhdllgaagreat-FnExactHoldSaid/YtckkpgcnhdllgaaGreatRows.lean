/-
  No cell of these rows narrows 'for every input' (looked for: loops, veiled, ifaces, maps, wideKeys, modest, calm, conditions, laid).
  DERIVED. THE GIVEN ROWS OF THIS SEAT. 12 by the template 'for every input the law returns true; each argument reads behind the call as it read before'; 0 by the template 'total and deterministic' (their statements: YtckkpgcnhdllgaaGreatTotals.lean).
  GIVEN WITH THE SEED: the statements are not yours to turn. If you find one false, say at which input.
  Laid BY PROGRAM, IN A SANDBOX (cutbox-rows.mjs): the forced cells as the released guide's own fill.sh prints them over the translation b411adc89b1265e9… (all of the seat's roots in one cut). By AI agents, Wed Nov 11 2026. No macro, syntax, notation, axiom, sorry.
-/
import Derived.Test.YtckkpgcnhdllgaaGreatChecked
import GoSem.Claim
import GoSem.ClaimJoined
import GoSem.ClaimMapViews
import Derived.JoinedTies
import Derived.KernelRfl
namespace Go.Proofs.YtckkpgcnhdllgaaGreat
/- THE CELL 'sum', in the pinned program and in every row, IS THE sha256 OF THE DUMP (.gsa) THAT YtckkpgcnhdllgaaGreatProg.lean LOADS. Nothing in Lean hashes anything: it is a label: what it is worth is what the hold of that sum in a sandbox is worth. -/
noncomputable def Tryz.pinned : Pinned := { name := "ytckkpgcnhdllgaagreat", sum := "b411adc89b1265e9551acee02966f9df8727a0ab7d25be9b2230dcdd6882472e", checked := Tryz.checked }
namespace Rows
def none {H : Type} : Left H := { results := [], args := [] }

/-- 'laws.FnExactExtent': WHATEVER THE INPUT: true; the input reads as it did. -/
def fnExactExtentSpec : ChangeSpec := { name := "fnExactExtent", fn := fun _ => fun
  | [d1, d2] => { results := [.lit (.bool true)], args := [d1, d2] }
  | _ => none }
def fnExactExtentRow : OpenClaim := { program := "ytckkpgcnhdllgaagreat", sum := "b411adc89b1265e9551acee02966f9df8727a0ab7d25be9b2230dcdd6882472e", func := "loop.example/g00399/laws.FnExactExtent", spec := "fnExactExtent", inPlace := ["slices.overlaps[int]"], unfollowed := true, recurses := true, apart := false }
def FnExactExtentSaid : Prop := fnExactExtentRow.holds Tryz.pinned (OpenSpec.ofChange fnExactExtentSpec)

/-- ITS FALSE NEIGHBOUR: 'it returns false'. Refute it at one input. -/
def fnExactExtentWrong : ChangeSpec := { name := "fnExactExtent", fn := fun _ => fun
  | [d1, d2] => { results := [.lit (.bool false)], args := [d1, d2] }
  | _ => none }
def FnExactExtentWrongFalsely : Prop := fnExactExtentRow.holds Tryz.pinned (OpenSpec.ofChange fnExactExtentWrong)

/-- 'laws.FnExactKnown': WHATEVER THE INPUT: true; the input reads as it did. -/
def fnExactKnownSpec : ChangeSpec := { name := "fnExactKnown", fn := fun _ => fun
  | [d1, d2, d3, d4] => { results := [.lit (.bool true)], args := [d1, d2, d3, d4] }
  | _ => none }
def fnExactKnownRow : OpenClaim := { program := "ytckkpgcnhdllgaagreat", sum := "b411adc89b1265e9551acee02966f9df8727a0ab7d25be9b2230dcdd6882472e", func := "loop.example/g00399/laws.FnExactKnown", spec := "fnExactKnown", unfollowed := true, recurses := true, apart := false }
def FnExactKnownSaid : Prop := fnExactKnownRow.holds Tryz.pinned (OpenSpec.ofChange fnExactKnownSpec)

/-- ITS FALSE NEIGHBOUR: 'it returns false'. Refute it at one input. -/
def fnExactKnownWrong : ChangeSpec := { name := "fnExactKnown", fn := fun _ => fun
  | [d1, d2, d3, d4] => { results := [.lit (.bool false)], args := [d1, d2, d3, d4] }
  | _ => none }
def FnExactKnownWrongFalsely : Prop := fnExactKnownRow.holds Tryz.pinned (OpenSpec.ofChange fnExactKnownWrong)

/-- 'laws.FnExactHold': WHATEVER THE INPUT: true; the input reads as it did. -/
def fnExactHoldSpec : ChangeSpec := { name := "fnExactHold", fn := fun _ => fun
  | [d1, d2, d3] => { results := [.lit (.bool true)], args := [d1, d2, d3] }
  | _ => none }
def fnExactHoldRow : OpenClaim := { program := "ytckkpgcnhdllgaagreat", sum := "b411adc89b1265e9551acee02966f9df8727a0ab7d25be9b2230dcdd6882472e", func := "loop.example/g00399/laws.FnExactHold", spec := "fnExactHold", unfollowed := true, recurses := true, apart := false }
def FnExactHoldSaid : Prop := fnExactHoldRow.holds Tryz.pinned (OpenSpec.ofChange fnExactHoldSpec)

/-- ITS FALSE NEIGHBOUR: 'it returns false'. Refute it at one input. -/
def fnExactHoldWrong : ChangeSpec := { name := "fnExactHold", fn := fun _ => fun
  | [d1, d2, d3] => { results := [.lit (.bool false)], args := [d1, d2, d3] }
  | _ => none }
def FnExactHoldWrongFalsely : Prop := fnExactHoldRow.holds Tryz.pinned (OpenSpec.ofChange fnExactHoldWrong)

/-- 'laws.FnExactCopy': WHATEVER THE INPUT: true; the input reads as it did. -/
def fnExactCopySpec : ChangeSpec := { name := "fnExactCopy", fn := fun _ => fun
  | [d1, d2] => { results := [.lit (.bool true)], args := [d1, d2] }
  | _ => none }
def fnExactCopyRow : OpenClaim := { program := "ytckkpgcnhdllgaagreat", sum := "b411adc89b1265e9551acee02966f9df8727a0ab7d25be9b2230dcdd6882472e", func := "loop.example/g00399/laws.FnExactCopy", spec := "fnExactCopy", unfollowed := true, recurses := true, apart := false }
def FnExactCopySaid : Prop := fnExactCopyRow.holds Tryz.pinned (OpenSpec.ofChange fnExactCopySpec)

/-- ITS FALSE NEIGHBOUR: 'it returns false'. Refute it at one input. -/
def fnExactCopyWrong : ChangeSpec := { name := "fnExactCopy", fn := fun _ => fun
  | [d1, d2] => { results := [.lit (.bool false)], args := [d1, d2] }
  | _ => none }
def FnExactCopyWrongFalsely : Prop := fnExactCopyRow.holds Tryz.pinned (OpenSpec.ofChange fnExactCopyWrong)

/-- 'laws.FnExactJudgeAll': WHATEVER THE INPUT: true; the input reads as it did. -/
def fnExactJudgeAllSpec : ChangeSpec := { name := "fnExactJudgeAll", fn := fun _ => fun
  | [d] => { results := [.lit (.bool true)], args := [d] }
  | _ => none }
def fnExactJudgeAllRow : OpenClaim := { program := "ytckkpgcnhdllgaagreat", sum := "b411adc89b1265e9551acee02966f9df8727a0ab7d25be9b2230dcdd6882472e", func := "loop.example/g00399/laws.FnExactJudgeAll", spec := "fnExactJudgeAll", unfollowed := true, recurses := true, apart := false }
def FnExactJudgeAllSaid : Prop := fnExactJudgeAllRow.holds Tryz.pinned (OpenSpec.ofChange fnExactJudgeAllSpec)

/-- ITS FALSE NEIGHBOUR: 'it returns false'. Refute it at one input. -/
def fnExactJudgeAllWrong : ChangeSpec := { name := "fnExactJudgeAll", fn := fun _ => fun
  | [d] => { results := [.lit (.bool false)], args := [d] }
  | _ => none }
def FnExactJudgeAllWrongFalsely : Prop := fnExactJudgeAllRow.holds Tryz.pinned (OpenSpec.ofChange fnExactJudgeAllWrong)

/-- 'laws.FnExactApply': WHATEVER THE INPUT: true; the input reads as it did. -/
def fnExactApplySpec : ChangeSpec := { name := "fnExactApply", fn := fun _ => fun
  | [d1, d2, d3, d4] => { results := [.lit (.bool true)], args := [d1, d2, d3, d4] }
  | _ => none }
def fnExactApplyRow : OpenClaim := { program := "ytckkpgcnhdllgaagreat", sum := "b411adc89b1265e9551acee02966f9df8727a0ab7d25be9b2230dcdd6882472e", func := "loop.example/g00399/laws.FnExactApply", spec := "fnExactApply", inPlace := ["slices.overlaps[int]"], unfollowed := true, recurses := true, apart := false }
def FnExactApplySaid : Prop := fnExactApplyRow.holds Tryz.pinned (OpenSpec.ofChange fnExactApplySpec)

/-- ITS FALSE NEIGHBOUR: 'it returns false'. Refute it at one input. -/
def fnExactApplyWrong : ChangeSpec := { name := "fnExactApply", fn := fun _ => fun
  | [d1, d2, d3, d4] => { results := [.lit (.bool false)], args := [d1, d2, d3, d4] }
  | _ => none }
def FnExactApplyWrongFalsely : Prop := fnExactApplyRow.holds Tryz.pinned (OpenSpec.ofChange fnExactApplyWrong)

/-- 'laws.FnExactJoin': WHATEVER THE INPUT: true; the input reads as it did. -/
def fnExactJoinSpec : ChangeSpec := { name := "fnExactJoin", fn := fun _ => fun
  | [d1, d2] => { results := [.lit (.bool true)], args := [d1, d2] }
  | _ => none }
def fnExactJoinRow : OpenClaim := { program := "ytckkpgcnhdllgaagreat", sum := "b411adc89b1265e9551acee02966f9df8727a0ab7d25be9b2230dcdd6882472e", func := "loop.example/g00399/laws.FnExactJoin", spec := "fnExactJoin", inPlace := ["slices.overlaps[int]"], unfollowed := true, recurses := true, apart := false }
def FnExactJoinSaid : Prop := fnExactJoinRow.holds Tryz.pinned (OpenSpec.ofChange fnExactJoinSpec)

/-- ITS FALSE NEIGHBOUR: 'it returns false'. Refute it at one input. -/
def fnExactJoinWrong : ChangeSpec := { name := "fnExactJoin", fn := fun _ => fun
  | [d1, d2] => { results := [.lit (.bool false)], args := [d1, d2] }
  | _ => none }
def FnExactJoinWrongFalsely : Prop := fnExactJoinRow.holds Tryz.pinned (OpenSpec.ofChange fnExactJoinWrong)

/-- 'laws.FnExactWrite': WHATEVER THE INPUT: true; the input reads as it did. -/
def fnExactWriteSpec : ChangeSpec := { name := "fnExactWrite", fn := fun _ => fun
  | [d1, d2, d3] => { results := [.lit (.bool true)], args := [d1, d2, d3] }
  | _ => none }
def fnExactWriteRow : OpenClaim := { program := "ytckkpgcnhdllgaagreat", sum := "b411adc89b1265e9551acee02966f9df8727a0ab7d25be9b2230dcdd6882472e", func := "loop.example/g00399/laws.FnExactWrite", spec := "fnExactWrite", inPlace := ["slices.overlaps[int]"], unfollowed := true, recurses := true, apart := false }
def FnExactWriteSaid : Prop := fnExactWriteRow.holds Tryz.pinned (OpenSpec.ofChange fnExactWriteSpec)

/-- ITS FALSE NEIGHBOUR: 'it returns false'. Refute it at one input. -/
def fnExactWriteWrong : ChangeSpec := { name := "fnExactWrite", fn := fun _ => fun
  | [d1, d2, d3] => { results := [.lit (.bool false)], args := [d1, d2, d3] }
  | _ => none }
def FnExactWriteWrongFalsely : Prop := fnExactWriteRow.holds Tryz.pinned (OpenSpec.ofChange fnExactWriteWrong)

/-- 'laws.FnExactHear': WHATEVER THE INPUT: true; the input reads as it did. -/
def fnExactHearSpec : ChangeSpec := { name := "fnExactHear", fn := fun _ => fun
  | [d1, d2, d3] => { results := [.lit (.bool true)], args := [d1, d2, d3] }
  | _ => none }
def fnExactHearRow : OpenClaim := { program := "ytckkpgcnhdllgaagreat", sum := "b411adc89b1265e9551acee02966f9df8727a0ab7d25be9b2230dcdd6882472e", func := "loop.example/g00399/laws.FnExactHear", spec := "fnExactHear", inPlace := ["slices.overlaps[int]"], unfollowed := true, recurses := true, apart := false }
def FnExactHearSaid : Prop := fnExactHearRow.holds Tryz.pinned (OpenSpec.ofChange fnExactHearSpec)

/-- ITS FALSE NEIGHBOUR: 'it returns false'. Refute it at one input. -/
def fnExactHearWrong : ChangeSpec := { name := "fnExactHear", fn := fun _ => fun
  | [d1, d2, d3] => { results := [.lit (.bool false)], args := [d1, d2, d3] }
  | _ => none }
def FnExactHearWrongFalsely : Prop := fnExactHearRow.holds Tryz.pinned (OpenSpec.ofChange fnExactHearWrong)

/-- 'laws.FnExactDo': WHATEVER THE INPUT: true; the input reads as it did. -/
def fnExactDoSpec : ChangeSpec := { name := "fnExactDo", fn := fun _ => fun
  | [d1, d2] => { results := [.lit (.bool true)], args := [d1, d2] }
  | _ => none }
def fnExactDoRow : OpenClaim := { program := "ytckkpgcnhdllgaagreat", sum := "b411adc89b1265e9551acee02966f9df8727a0ab7d25be9b2230dcdd6882472e", func := "loop.example/g00399/laws.FnExactDo", spec := "fnExactDo", inPlace := ["slices.overlaps[int]"], unfollowed := true, recurses := true, apart := false }
def FnExactDoSaid : Prop := fnExactDoRow.holds Tryz.pinned (OpenSpec.ofChange fnExactDoSpec)

/-- ITS FALSE NEIGHBOUR: 'it returns false'. Refute it at one input. -/
def fnExactDoWrong : ChangeSpec := { name := "fnExactDo", fn := fun _ => fun
  | [d1, d2] => { results := [.lit (.bool false)], args := [d1, d2] }
  | _ => none }
def FnExactDoWrongFalsely : Prop := fnExactDoRow.holds Tryz.pinned (OpenSpec.ofChange fnExactDoWrong)

/-- 'laws.FnExactFlow': WHATEVER THE INPUT: true; the input reads as it did. -/
def fnExactFlowSpec : ChangeSpec := { name := "fnExactFlow", fn := fun _ => fun
  | [d] => { results := [.lit (.bool true)], args := [d] }
  | _ => none }
def fnExactFlowRow : OpenClaim := { program := "ytckkpgcnhdllgaagreat", sum := "b411adc89b1265e9551acee02966f9df8727a0ab7d25be9b2230dcdd6882472e", func := "loop.example/g00399/laws.FnExactFlow", spec := "fnExactFlow", inPlace := ["slices.overlaps[int]"], unfollowed := true, recurses := true, apart := false }
def FnExactFlowSaid : Prop := fnExactFlowRow.holds Tryz.pinned (OpenSpec.ofChange fnExactFlowSpec)

/-- ITS FALSE NEIGHBOUR: 'it returns false'. Refute it at one input. -/
def fnExactFlowWrong : ChangeSpec := { name := "fnExactFlow", fn := fun _ => fun
  | [d] => { results := [.lit (.bool false)], args := [d] }
  | _ => none }
def FnExactFlowWrongFalsely : Prop := fnExactFlowRow.holds Tryz.pinned (OpenSpec.ofChange fnExactFlowWrong)

/-- 'laws.FnExactDoAll': WHATEVER THE INPUT: true; the input reads as it did. -/
def fnExactDoAllSpec : ChangeSpec := { name := "fnExactDoAll", fn := fun _ => fun
  | [d1, d2] => { results := [.lit (.bool true)], args := [d1, d2] }
  | _ => none }
def fnExactDoAllRow : OpenClaim := { program := "ytckkpgcnhdllgaagreat", sum := "b411adc89b1265e9551acee02966f9df8727a0ab7d25be9b2230dcdd6882472e", func := "loop.example/g00399/laws.FnExactDoAll", spec := "fnExactDoAll", inPlace := ["slices.overlaps[int]"], unfollowed := true, recurses := true, apart := false }
def FnExactDoAllSaid : Prop := fnExactDoAllRow.holds Tryz.pinned (OpenSpec.ofChange fnExactDoAllSpec)

/-- ITS FALSE NEIGHBOUR: 'it returns false'. Refute it at one input. -/
def fnExactDoAllWrong : ChangeSpec := { name := "fnExactDoAll", fn := fun _ => fun
  | [d1, d2] => { results := [.lit (.bool false)], args := [d1, d2] }
  | _ => none }
def FnExactDoAllWrongFalsely : Prop := fnExactDoAllRow.holds Tryz.pinned (OpenSpec.ofChange fnExactDoAllWrong)

/- THE SECOND FORM. 'bulk': how many values and letters a reading holds, each counted each time it is reached (what is shared counts as often as it is met; a slice's spare places count too). A statement '..UptoSaid' is the law's where the arguments, and the package variables that the reading takes, are together of bulk at most 1048576: NARROWER than '..Said'. Prove '..Said' where nothing that the law and all that it calls make is longer than what came in: it says more and counts as full. Else prove '..UptoSaid'. A law counts once. -/
mutual
def uptoBulk {H : Type} : DataW H → Nat
  | .lit (.string bytes) => bytes.length + 1
  | .lit _ => 1
  | .nil => 1
  | .ptr d => uptoBulk d + 1
  | .slice elems spare => uptoBulkAll elems + uptoBulkAll spare + 1
  | .agg parts => uptoBulkAll parts + 1
  | .iface _ d => uptoBulk d + 1
  | .map entries => uptoBulkEntries entries + 1
  | .held _ => 1
def uptoBulkAll {H : Type} : List (DataW H) → Nat
  | [] => 0
  | d :: r => uptoBulk d + uptoBulkAll r
def uptoBulkEntries {H : Type} : List (Lit × DataW H) → Nat
  | [] => 0
  | x :: r => uptoBulkEntry x + uptoBulkEntries r
def uptoBulkEntry {H : Type} : Lit × DataW H → Nat
  | (.string bytes, d) => bytes.length + uptoBulk d + 1
  | (_, d) => uptoBulk d + 1
 end
def uptoSmall : (H : Type) → List (DataW H) → Bool := fun _ ds => decide (uptoBulkAll ds ≤ 1048576)
def OpenSpec.upto (s : _root_.Go.ChangeSpec) : _root_.Go.OpenSpec := { _root_.Go.OpenSpec.ofChange s with cond := some uptoSmall }

/-- 'laws.FnExactExtent', WHERE WHAT IT READS IS OF BULK AT MOST 1048576: true; the input reads as it did. -/
def fnExactExtentUptoRow : OpenClaim := { program := "ytckkpgcnhdllgaagreat", sum := "b411adc89b1265e9551acee02966f9df8727a0ab7d25be9b2230dcdd6882472e", func := "loop.example/g00399/laws.FnExactExtent", spec := "fnExactExtent", inPlace := ["slices.overlaps[int]"], unfollowed := true, recurses := true, apart := false, narrowed := true }
def FnExactExtentUptoSaid : Prop := fnExactExtentUptoRow.holds Tryz.pinned (OpenSpec.upto fnExactExtentSpec)

/-- 'laws.FnExactKnown', WHERE WHAT IT READS IS OF BULK AT MOST 1048576: true; the input reads as it did. -/
def fnExactKnownUptoRow : OpenClaim := { program := "ytckkpgcnhdllgaagreat", sum := "b411adc89b1265e9551acee02966f9df8727a0ab7d25be9b2230dcdd6882472e", func := "loop.example/g00399/laws.FnExactKnown", spec := "fnExactKnown", unfollowed := true, recurses := true, apart := false, narrowed := true }
def FnExactKnownUptoSaid : Prop := fnExactKnownUptoRow.holds Tryz.pinned (OpenSpec.upto fnExactKnownSpec)

/-- 'laws.FnExactHold', WHERE WHAT IT READS IS OF BULK AT MOST 1048576: true; the input reads as it did. -/
def fnExactHoldUptoRow : OpenClaim := { program := "ytckkpgcnhdllgaagreat", sum := "b411adc89b1265e9551acee02966f9df8727a0ab7d25be9b2230dcdd6882472e", func := "loop.example/g00399/laws.FnExactHold", spec := "fnExactHold", unfollowed := true, recurses := true, apart := false, narrowed := true }
def FnExactHoldUptoSaid : Prop := fnExactHoldUptoRow.holds Tryz.pinned (OpenSpec.upto fnExactHoldSpec)

/-- 'laws.FnExactCopy', WHERE WHAT IT READS IS OF BULK AT MOST 1048576: true; the input reads as it did. -/
def fnExactCopyUptoRow : OpenClaim := { program := "ytckkpgcnhdllgaagreat", sum := "b411adc89b1265e9551acee02966f9df8727a0ab7d25be9b2230dcdd6882472e", func := "loop.example/g00399/laws.FnExactCopy", spec := "fnExactCopy", unfollowed := true, recurses := true, apart := false, narrowed := true }
def FnExactCopyUptoSaid : Prop := fnExactCopyUptoRow.holds Tryz.pinned (OpenSpec.upto fnExactCopySpec)

/-- 'laws.FnExactJudgeAll', WHERE WHAT IT READS IS OF BULK AT MOST 1048576: true; the input reads as it did. -/
def fnExactJudgeAllUptoRow : OpenClaim := { program := "ytckkpgcnhdllgaagreat", sum := "b411adc89b1265e9551acee02966f9df8727a0ab7d25be9b2230dcdd6882472e", func := "loop.example/g00399/laws.FnExactJudgeAll", spec := "fnExactJudgeAll", unfollowed := true, recurses := true, apart := false, narrowed := true }
def FnExactJudgeAllUptoSaid : Prop := fnExactJudgeAllUptoRow.holds Tryz.pinned (OpenSpec.upto fnExactJudgeAllSpec)

/-- 'laws.FnExactApply', WHERE WHAT IT READS IS OF BULK AT MOST 1048576: true; the input reads as it did. -/
def fnExactApplyUptoRow : OpenClaim := { program := "ytckkpgcnhdllgaagreat", sum := "b411adc89b1265e9551acee02966f9df8727a0ab7d25be9b2230dcdd6882472e", func := "loop.example/g00399/laws.FnExactApply", spec := "fnExactApply", inPlace := ["slices.overlaps[int]"], unfollowed := true, recurses := true, apart := false, narrowed := true }
def FnExactApplyUptoSaid : Prop := fnExactApplyUptoRow.holds Tryz.pinned (OpenSpec.upto fnExactApplySpec)

/-- 'laws.FnExactJoin', WHERE WHAT IT READS IS OF BULK AT MOST 1048576: true; the input reads as it did. -/
def fnExactJoinUptoRow : OpenClaim := { program := "ytckkpgcnhdllgaagreat", sum := "b411adc89b1265e9551acee02966f9df8727a0ab7d25be9b2230dcdd6882472e", func := "loop.example/g00399/laws.FnExactJoin", spec := "fnExactJoin", inPlace := ["slices.overlaps[int]"], unfollowed := true, recurses := true, apart := false, narrowed := true }
def FnExactJoinUptoSaid : Prop := fnExactJoinUptoRow.holds Tryz.pinned (OpenSpec.upto fnExactJoinSpec)

/-- 'laws.FnExactWrite', WHERE WHAT IT READS IS OF BULK AT MOST 1048576: true; the input reads as it did. -/
def fnExactWriteUptoRow : OpenClaim := { program := "ytckkpgcnhdllgaagreat", sum := "b411adc89b1265e9551acee02966f9df8727a0ab7d25be9b2230dcdd6882472e", func := "loop.example/g00399/laws.FnExactWrite", spec := "fnExactWrite", inPlace := ["slices.overlaps[int]"], unfollowed := true, recurses := true, apart := false, narrowed := true }
def FnExactWriteUptoSaid : Prop := fnExactWriteUptoRow.holds Tryz.pinned (OpenSpec.upto fnExactWriteSpec)

/-- 'laws.FnExactHear', WHERE WHAT IT READS IS OF BULK AT MOST 1048576: true; the input reads as it did. -/
def fnExactHearUptoRow : OpenClaim := { program := "ytckkpgcnhdllgaagreat", sum := "b411adc89b1265e9551acee02966f9df8727a0ab7d25be9b2230dcdd6882472e", func := "loop.example/g00399/laws.FnExactHear", spec := "fnExactHear", inPlace := ["slices.overlaps[int]"], unfollowed := true, recurses := true, apart := false, narrowed := true }
def FnExactHearUptoSaid : Prop := fnExactHearUptoRow.holds Tryz.pinned (OpenSpec.upto fnExactHearSpec)

/-- 'laws.FnExactDo', WHERE WHAT IT READS IS OF BULK AT MOST 1048576: true; the input reads as it did. -/
def fnExactDoUptoRow : OpenClaim := { program := "ytckkpgcnhdllgaagreat", sum := "b411adc89b1265e9551acee02966f9df8727a0ab7d25be9b2230dcdd6882472e", func := "loop.example/g00399/laws.FnExactDo", spec := "fnExactDo", inPlace := ["slices.overlaps[int]"], unfollowed := true, recurses := true, apart := false, narrowed := true }
def FnExactDoUptoSaid : Prop := fnExactDoUptoRow.holds Tryz.pinned (OpenSpec.upto fnExactDoSpec)

/-- 'laws.FnExactFlow', WHERE WHAT IT READS IS OF BULK AT MOST 1048576: true; the input reads as it did. -/
def fnExactFlowUptoRow : OpenClaim := { program := "ytckkpgcnhdllgaagreat", sum := "b411adc89b1265e9551acee02966f9df8727a0ab7d25be9b2230dcdd6882472e", func := "loop.example/g00399/laws.FnExactFlow", spec := "fnExactFlow", inPlace := ["slices.overlaps[int]"], unfollowed := true, recurses := true, apart := false, narrowed := true }
def FnExactFlowUptoSaid : Prop := fnExactFlowUptoRow.holds Tryz.pinned (OpenSpec.upto fnExactFlowSpec)

/-- 'laws.FnExactDoAll', WHERE WHAT IT READS IS OF BULK AT MOST 1048576: true; the input reads as it did. -/
def fnExactDoAllUptoRow : OpenClaim := { program := "ytckkpgcnhdllgaagreat", sum := "b411adc89b1265e9551acee02966f9df8727a0ab7d25be9b2230dcdd6882472e", func := "loop.example/g00399/laws.FnExactDoAll", spec := "fnExactDoAll", inPlace := ["slices.overlaps[int]"], unfollowed := true, recurses := true, apart := false, narrowed := true }
def FnExactDoAllUptoSaid : Prop := fnExactDoAllUptoRow.holds Tryz.pinned (OpenSpec.upto fnExactDoAllSpec)

end Rows
end Go.Proofs.YtckkpgcnhdllgaaGreat
