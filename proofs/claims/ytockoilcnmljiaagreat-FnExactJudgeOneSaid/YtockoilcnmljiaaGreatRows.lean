/-
  No cell of these rows narrows 'for every input' (looked for: loops, veiled, ifaces, maps, wideKeys, modest, calm, conditions, laid).
  DERIVED. THE GIVEN ROWS OF THIS SEAT. 8 by the template 'for every input the law returns true; each argument reads behind the call as it read before'; 0 by the template 'total and deterministic' (their statements: YtockoilcnmljiaaGreatTotals.lean).
  GIVEN WITH THE SEED: the statements are not yours to turn. If you find one false, say at which input.
  Laid BY PROGRAM, IN A SANDBOX (cutbox-rows.mjs): the forced cells as the released guide's own fill.sh prints them over the translation 12a30c5f8d1b99d3… (all of the seat's roots in one cut). By AI agents, Wed Nov 11 2026. No macro, syntax, notation, axiom, sorry.
-/
import Derived.Test.YtockoilcnmljiaaGreatChecked
import GoSem.Claim
import GoSem.ClaimJoined
import GoSem.ClaimMapViews
import Derived.JoinedTies
import Derived.KernelRfl
namespace Go.Proofs.YtockoilcnmljiaaGreat
/- THE CELL 'sum', in the pinned program and in every row, IS THE sha256 OF THE DUMP (.gsa) THAT YtockoilcnmljiaaGreatProg.lean LOADS. Nothing in Lean hashes anything: it is a label: what it is worth is what the hold of that sum in a sandbox is worth. -/
noncomputable def Tryz.pinned : Pinned := { name := "ytockoilcnmljiaagreat", sum := "12a30c5f8d1b99d3074990219d567bf6dafc5da59f8af07591d89411110c5de5", checked := Tryz.checked }
namespace Rows
def none {H : Type} : Left H := { results := [], args := [] }

/-- 'laws.FnExactLeave': WHATEVER THE INPUT: true; the input reads as it did. -/
def fnExactLeaveSpec : ChangeSpec := { name := "fnExactLeave", fn := fun _ => fun
  | [d] => { results := [.lit (.bool true)], args := [d] }
  | _ => none }
def fnExactLeaveRow : OpenClaim := { program := "ytockoilcnmljiaagreat", sum := "12a30c5f8d1b99d3074990219d567bf6dafc5da59f8af07591d89411110c5de5", func := "loop.example/g00399/laws.FnExactLeave", spec := "fnExactLeave", unfollowed := true, recurses := true, apart := false }
def FnExactLeaveSaid : Prop := fnExactLeaveRow.holds Tryz.pinned (OpenSpec.ofChange fnExactLeaveSpec)

/-- ITS FALSE NEIGHBOUR: 'it returns false'. Refute it at one input. -/
def fnExactLeaveWrong : ChangeSpec := { name := "fnExactLeave", fn := fun _ => fun
  | [d] => { results := [.lit (.bool false)], args := [d] }
  | _ => none }
def FnExactLeaveWrongFalsely : Prop := fnExactLeaveRow.holds Tryz.pinned (OpenSpec.ofChange fnExactLeaveWrong)

/-- 'laws.FnExactLead': WHATEVER THE INPUT: true; the input reads as it did. -/
def fnExactLeadSpec : ChangeSpec := { name := "fnExactLead", fn := fun _ => fun
  | [d1, d2, d3] => { results := [.lit (.bool true)], args := [d1, d2, d3] }
  | _ => none }
def fnExactLeadRow : OpenClaim := { program := "ytockoilcnmljiaagreat", sum := "12a30c5f8d1b99d3074990219d567bf6dafc5da59f8af07591d89411110c5de5", func := "loop.example/g00399/laws.FnExactLead", spec := "fnExactLead", unfollowed := true, recurses := true, apart := false }
def FnExactLeadSaid : Prop := fnExactLeadRow.holds Tryz.pinned (OpenSpec.ofChange fnExactLeadSpec)

/-- ITS FALSE NEIGHBOUR: 'it returns false'. Refute it at one input. -/
def fnExactLeadWrong : ChangeSpec := { name := "fnExactLead", fn := fun _ => fun
  | [d1, d2, d3] => { results := [.lit (.bool false)], args := [d1, d2, d3] }
  | _ => none }
def FnExactLeadWrongFalsely : Prop := fnExactLeadRow.holds Tryz.pinned (OpenSpec.ofChange fnExactLeadWrong)

/-- 'laws.FnExactWorldOk': WHATEVER THE INPUT: true; the input reads as it did. -/
def fnExactWorldOkSpec : ChangeSpec := { name := "fnExactWorldOk", fn := fun _ => fun
  | [d] => { results := [.lit (.bool true)], args := [d] }
  | _ => none }
def fnExactWorldOkRow : OpenClaim := { program := "ytockoilcnmljiaagreat", sum := "12a30c5f8d1b99d3074990219d567bf6dafc5da59f8af07591d89411110c5de5", func := "loop.example/g00399/laws.FnExactWorldOk", spec := "fnExactWorldOk", unfollowed := true, recurses := true, apart := false }
def FnExactWorldOkSaid : Prop := fnExactWorldOkRow.holds Tryz.pinned (OpenSpec.ofChange fnExactWorldOkSpec)

/-- ITS FALSE NEIGHBOUR: 'it returns false'. Refute it at one input. -/
def fnExactWorldOkWrong : ChangeSpec := { name := "fnExactWorldOk", fn := fun _ => fun
  | [d] => { results := [.lit (.bool false)], args := [d] }
  | _ => none }
def FnExactWorldOkWrongFalsely : Prop := fnExactWorldOkRow.holds Tryz.pinned (OpenSpec.ofChange fnExactWorldOkWrong)

/-- 'laws.FnExactRead': WHATEVER THE INPUT: true; the input reads as it did. -/
def fnExactReadSpec : ChangeSpec := { name := "fnExactRead", fn := fun _ => fun
  | [d1, d2, d3] => { results := [.lit (.bool true)], args := [d1, d2, d3] }
  | _ => none }
def fnExactReadRow : OpenClaim := { program := "ytockoilcnmljiaagreat", sum := "12a30c5f8d1b99d3074990219d567bf6dafc5da59f8af07591d89411110c5de5", func := "loop.example/g00399/laws.FnExactRead", spec := "fnExactRead", unfollowed := true, recurses := true, apart := false }
def FnExactReadSaid : Prop := fnExactReadRow.holds Tryz.pinned (OpenSpec.ofChange fnExactReadSpec)

/-- ITS FALSE NEIGHBOUR: 'it returns false'. Refute it at one input. -/
def fnExactReadWrong : ChangeSpec := { name := "fnExactRead", fn := fun _ => fun
  | [d1, d2, d3] => { results := [.lit (.bool false)], args := [d1, d2, d3] }
  | _ => none }
def FnExactReadWrongFalsely : Prop := fnExactReadRow.holds Tryz.pinned (OpenSpec.ofChange fnExactReadWrong)

/-- 'laws.FnExactJudgeOne': WHATEVER THE INPUT: true; the input reads as it did. -/
def fnExactJudgeOneSpec : ChangeSpec := { name := "fnExactJudgeOne", fn := fun _ => fun
  | [d] => { results := [.lit (.bool true)], args := [d] }
  | _ => none }
def fnExactJudgeOneRow : OpenClaim := { program := "ytockoilcnmljiaagreat", sum := "12a30c5f8d1b99d3074990219d567bf6dafc5da59f8af07591d89411110c5de5", func := "loop.example/g00399/laws.FnExactJudgeOne", spec := "fnExactJudgeOne", unfollowed := true, recurses := true, apart := false }
def FnExactJudgeOneSaid : Prop := fnExactJudgeOneRow.holds Tryz.pinned (OpenSpec.ofChange fnExactJudgeOneSpec)

/-- ITS FALSE NEIGHBOUR: 'it returns false'. Refute it at one input. -/
def fnExactJudgeOneWrong : ChangeSpec := { name := "fnExactJudgeOne", fn := fun _ => fun
  | [d] => { results := [.lit (.bool false)], args := [d] }
  | _ => none }
def FnExactJudgeOneWrongFalsely : Prop := fnExactJudgeOneRow.holds Tryz.pinned (OpenSpec.ofChange fnExactJudgeOneWrong)

/-- 'laws.FnExactJudgeMarks': WHATEVER THE INPUT: true; the input reads as it did. -/
def fnExactJudgeMarksSpec : ChangeSpec := { name := "fnExactJudgeMarks", fn := fun _ => fun
  | [d] => { results := [.lit (.bool true)], args := [d] }
  | _ => none }
def fnExactJudgeMarksRow : OpenClaim := { program := "ytockoilcnmljiaagreat", sum := "12a30c5f8d1b99d3074990219d567bf6dafc5da59f8af07591d89411110c5de5", func := "loop.example/g00399/laws.FnExactJudgeMarks", spec := "fnExactJudgeMarks", unfollowed := true, recurses := true, apart := false }
def FnExactJudgeMarksSaid : Prop := fnExactJudgeMarksRow.holds Tryz.pinned (OpenSpec.ofChange fnExactJudgeMarksSpec)

/-- ITS FALSE NEIGHBOUR: 'it returns false'. Refute it at one input. -/
def fnExactJudgeMarksWrong : ChangeSpec := { name := "fnExactJudgeMarks", fn := fun _ => fun
  | [d] => { results := [.lit (.bool false)], args := [d] }
  | _ => none }
def FnExactJudgeMarksWrongFalsely : Prop := fnExactJudgeMarksRow.holds Tryz.pinned (OpenSpec.ofChange fnExactJudgeMarksWrong)

/-- 'laws.FnExactJudgeSafe': WHATEVER THE INPUT: true; the input reads as it did. -/
def fnExactJudgeSafeSpec : ChangeSpec := { name := "fnExactJudgeSafe", fn := fun _ => fun
  | [d] => { results := [.lit (.bool true)], args := [d] }
  | _ => none }
def fnExactJudgeSafeRow : OpenClaim := { program := "ytockoilcnmljiaagreat", sum := "12a30c5f8d1b99d3074990219d567bf6dafc5da59f8af07591d89411110c5de5", func := "loop.example/g00399/laws.FnExactJudgeSafe", spec := "fnExactJudgeSafe", unfollowed := true, recurses := true, apart := false }
def FnExactJudgeSafeSaid : Prop := fnExactJudgeSafeRow.holds Tryz.pinned (OpenSpec.ofChange fnExactJudgeSafeSpec)

/-- ITS FALSE NEIGHBOUR: 'it returns false'. Refute it at one input. -/
def fnExactJudgeSafeWrong : ChangeSpec := { name := "fnExactJudgeSafe", fn := fun _ => fun
  | [d] => { results := [.lit (.bool false)], args := [d] }
  | _ => none }
def FnExactJudgeSafeWrongFalsely : Prop := fnExactJudgeSafeRow.holds Tryz.pinned (OpenSpec.ofChange fnExactJudgeSafeWrong)

/-- 'laws.FnExactJudgeCells': WHATEVER THE INPUT: true; the input reads as it did. -/
def fnExactJudgeCellsSpec : ChangeSpec := { name := "fnExactJudgeCells", fn := fun _ => fun
  | [d] => { results := [.lit (.bool true)], args := [d] }
  | _ => none }
def fnExactJudgeCellsRow : OpenClaim := { program := "ytockoilcnmljiaagreat", sum := "12a30c5f8d1b99d3074990219d567bf6dafc5da59f8af07591d89411110c5de5", func := "loop.example/g00399/laws.FnExactJudgeCells", spec := "fnExactJudgeCells", unfollowed := true, recurses := true, apart := false }
def FnExactJudgeCellsSaid : Prop := fnExactJudgeCellsRow.holds Tryz.pinned (OpenSpec.ofChange fnExactJudgeCellsSpec)

/-- ITS FALSE NEIGHBOUR: 'it returns false'. Refute it at one input. -/
def fnExactJudgeCellsWrong : ChangeSpec := { name := "fnExactJudgeCells", fn := fun _ => fun
  | [d] => { results := [.lit (.bool false)], args := [d] }
  | _ => none }
def FnExactJudgeCellsWrongFalsely : Prop := fnExactJudgeCellsRow.holds Tryz.pinned (OpenSpec.ofChange fnExactJudgeCellsWrong)

/- THE SECOND FORM. 'bulk': how many values and letters a reading holds, each counted each time it is reached (what is shared counts as often as it is met; a slice's spare places count too). A statement '..UptoSaid' is the law's where the arguments, and the package variables that the reading takes, are together of bulk at most 1048576: NARROWER than '..Said'. Prove '..Said' where nothing that the law and all that it calls make is longer than what came in: it says more and counts as full. Else prove '..UptoSaid'. A law counts once. -/
mutual
def uptoBulk {H : Type} : DataW H → Nat
  | .lit (.string bytes) => bytes.length + 1
  | .lit _ => 1
  | .nil => 1
  | .ptr d => uptoBulk d + 1
  | .slice elems spare => uptoBulkAll elems + uptoBulkAll spare + 1
  | .agg parts => uptoBulkAll parts + 1
  | .iface _ d => uptoBulk d + 1
  | .map entries => uptoBulkEntries entries + 1
  | .held _ => 1
def uptoBulkAll {H : Type} : List (DataW H) → Nat
  | [] => 0
  | d :: r => uptoBulk d + uptoBulkAll r
def uptoBulkEntries {H : Type} : List (Lit × DataW H) → Nat
  | [] => 0
  | x :: r => uptoBulkEntry x + uptoBulkEntries r
def uptoBulkEntry {H : Type} : Lit × DataW H → Nat
  | (.string bytes, d) => bytes.length + uptoBulk d + 1
  | (_, d) => uptoBulk d + 1
 end
def uptoSmall : (H : Type) → List (DataW H) → Bool := fun _ ds => decide (uptoBulkAll ds ≤ 1048576)
def OpenSpec.upto (s : _root_.Go.ChangeSpec) : _root_.Go.OpenSpec := { _root_.Go.OpenSpec.ofChange s with cond := some uptoSmall }

/-- 'laws.FnExactLeave', WHERE WHAT IT READS IS OF BULK AT MOST 1048576: true; the input reads as it did. -/
def fnExactLeaveUptoRow : OpenClaim := { program := "ytockoilcnmljiaagreat", sum := "12a30c5f8d1b99d3074990219d567bf6dafc5da59f8af07591d89411110c5de5", func := "loop.example/g00399/laws.FnExactLeave", spec := "fnExactLeave", unfollowed := true, recurses := true, apart := false, narrowed := true }
def FnExactLeaveUptoSaid : Prop := fnExactLeaveUptoRow.holds Tryz.pinned (OpenSpec.upto fnExactLeaveSpec)

/-- 'laws.FnExactLead', WHERE WHAT IT READS IS OF BULK AT MOST 1048576: true; the input reads as it did. -/
def fnExactLeadUptoRow : OpenClaim := { program := "ytockoilcnmljiaagreat", sum := "12a30c5f8d1b99d3074990219d567bf6dafc5da59f8af07591d89411110c5de5", func := "loop.example/g00399/laws.FnExactLead", spec := "fnExactLead", unfollowed := true, recurses := true, apart := false, narrowed := true }
def FnExactLeadUptoSaid : Prop := fnExactLeadUptoRow.holds Tryz.pinned (OpenSpec.upto fnExactLeadSpec)

/-- 'laws.FnExactWorldOk', WHERE WHAT IT READS IS OF BULK AT MOST 1048576: true; the input reads as it did. -/
def fnExactWorldOkUptoRow : OpenClaim := { program := "ytockoilcnmljiaagreat", sum := "12a30c5f8d1b99d3074990219d567bf6dafc5da59f8af07591d89411110c5de5", func := "loop.example/g00399/laws.FnExactWorldOk", spec := "fnExactWorldOk", unfollowed := true, recurses := true, apart := false, narrowed := true }
def FnExactWorldOkUptoSaid : Prop := fnExactWorldOkUptoRow.holds Tryz.pinned (OpenSpec.upto fnExactWorldOkSpec)

/-- 'laws.FnExactRead', WHERE WHAT IT READS IS OF BULK AT MOST 1048576: true; the input reads as it did. -/
def fnExactReadUptoRow : OpenClaim := { program := "ytockoilcnmljiaagreat", sum := "12a30c5f8d1b99d3074990219d567bf6dafc5da59f8af07591d89411110c5de5", func := "loop.example/g00399/laws.FnExactRead", spec := "fnExactRead", unfollowed := true, recurses := true, apart := false, narrowed := true }
def FnExactReadUptoSaid : Prop := fnExactReadUptoRow.holds Tryz.pinned (OpenSpec.upto fnExactReadSpec)

/-- 'laws.FnExactJudgeOne', WHERE WHAT IT READS IS OF BULK AT MOST 1048576: true; the input reads as it did. -/
def fnExactJudgeOneUptoRow : OpenClaim := { program := "ytockoilcnmljiaagreat", sum := "12a30c5f8d1b99d3074990219d567bf6dafc5da59f8af07591d89411110c5de5", func := "loop.example/g00399/laws.FnExactJudgeOne", spec := "fnExactJudgeOne", unfollowed := true, recurses := true, apart := false, narrowed := true }
def FnExactJudgeOneUptoSaid : Prop := fnExactJudgeOneUptoRow.holds Tryz.pinned (OpenSpec.upto fnExactJudgeOneSpec)

/-- 'laws.FnExactJudgeMarks', WHERE WHAT IT READS IS OF BULK AT MOST 1048576: true; the input reads as it did. -/
def fnExactJudgeMarksUptoRow : OpenClaim := { program := "ytockoilcnmljiaagreat", sum := "12a30c5f8d1b99d3074990219d567bf6dafc5da59f8af07591d89411110c5de5", func := "loop.example/g00399/laws.FnExactJudgeMarks", spec := "fnExactJudgeMarks", unfollowed := true, recurses := true, apart := false, narrowed := true }
def FnExactJudgeMarksUptoSaid : Prop := fnExactJudgeMarksUptoRow.holds Tryz.pinned (OpenSpec.upto fnExactJudgeMarksSpec)

/-- 'laws.FnExactJudgeSafe', WHERE WHAT IT READS IS OF BULK AT MOST 1048576: true; the input reads as it did. -/
def fnExactJudgeSafeUptoRow : OpenClaim := { program := "ytockoilcnmljiaagreat", sum := "12a30c5f8d1b99d3074990219d567bf6dafc5da59f8af07591d89411110c5de5", func := "loop.example/g00399/laws.FnExactJudgeSafe", spec := "fnExactJudgeSafe", unfollowed := true, recurses := true, apart := false, narrowed := true }
def FnExactJudgeSafeUptoSaid : Prop := fnExactJudgeSafeUptoRow.holds Tryz.pinned (OpenSpec.upto fnExactJudgeSafeSpec)

/-- 'laws.FnExactJudgeCells', WHERE WHAT IT READS IS OF BULK AT MOST 1048576: true; the input reads as it did. -/
def fnExactJudgeCellsUptoRow : OpenClaim := { program := "ytockoilcnmljiaagreat", sum := "12a30c5f8d1b99d3074990219d567bf6dafc5da59f8af07591d89411110c5de5", func := "loop.example/g00399/laws.FnExactJudgeCells", spec := "fnExactJudgeCells", unfollowed := true, recurses := true, apart := false, narrowed := true }
def FnExactJudgeCellsUptoSaid : Prop := fnExactJudgeCellsUptoRow.holds Tryz.pinned (OpenSpec.upto fnExactJudgeCellsSpec)

end Rows
end Go.Proofs.YtockoilcnmljiaaGreat
