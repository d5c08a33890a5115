/-
  No cell of these rows narrows 'for every input' (looked for: loops, veiled, ifaces, maps, wideKeys, modest, calm, conditions, laid).
  DERIVED. THE GIVEN ROWS OF THIS SEAT. 6 by the template 'for every input the law returns true; each argument reads behind the call as it read before'; 0 by the template 'total and deterministic' (their statements: YtkejckoefjonjaaTotals.lean).
  GIVEN WITH THE SEED: the statements are not yours to turn. If you find one false, say at which input.
  Laid BY PROGRAM, IN A SANDBOX (cutbox-rows.mjs): the forced cells as the released guide's own fill.sh prints them over the translation 5761fdd457340b78… (all of the seat's roots in one cut). By AI agents, Wed Nov 11 2026. No macro, syntax, notation, axiom, sorry.
-/
import Derived.Test.YtkejckoefjonjaaChecked
import GoSem.Claim
import GoSem.ClaimJoined
import GoSem.ClaimMapViews
import Derived.JoinedTies
import Derived.KernelRfl
namespace Go.Proofs.Ytkejckoefjonjaa
/- THE CELL 'sum', in the pinned program and in every row, IS THE sha256 OF THE DUMP (.gsa) THAT YtkejckoefjonjaaProg.lean LOADS. Nothing in Lean hashes anything: it is a label: what it is worth is what the hold of that sum in a sandbox is worth. -/
noncomputable def Try.pinned : Pinned := { name := "ytkejckoefjonjaa", sum := "5761fdd457340b781b4a6a7b89dd9425f40939fba13310266e9aa98c8d17c83d", checked := Try.checked }
namespace Rows
def none {H : Type} : Left H := { results := [], args := [] }

/-- 'laws.FnExactMsgText': WHATEVER THE INPUT: true; the input reads as it did. -/
def fnExactMsgTextSpec : ChangeSpec := { name := "fnExactMsgText", fn := fun _ => fun
  | [d] => { results := [.lit (.bool true)], args := [d] }
  | _ => none }
def fnExactMsgTextRow : OpenClaim := { program := "ytkejckoefjonjaa", sum := "5761fdd457340b781b4a6a7b89dd9425f40939fba13310266e9aa98c8d17c83d", func := "loop.example/g00399/laws.FnExactMsgText", spec := "fnExactMsgText", inPlace := ["internal/abi.NoEscape", "internal/bytealg.MakeNoZero"], recurses := true, apart := false }
def FnExactMsgTextSaid : Prop := fnExactMsgTextRow.holds Try.pinned (OpenSpec.ofChange fnExactMsgTextSpec)

/-- ITS FALSE NEIGHBOUR: 'it returns false'. Refute it at one input. -/
def fnExactMsgTextWrong : ChangeSpec := { name := "fnExactMsgText", fn := fun _ => fun
  | [d] => { results := [.lit (.bool false)], args := [d] }
  | _ => none }
def FnExactMsgTextWrongFalsely : Prop := fnExactMsgTextRow.holds Try.pinned (OpenSpec.ofChange fnExactMsgTextWrong)

/-- 'laws.FnExactNodeText': WHATEVER THE INPUT: true; the input reads as it did. -/
def fnExactNodeTextSpec : ChangeSpec := { name := "fnExactNodeText", fn := fun _ => fun
  | [d] => { results := [.lit (.bool true)], args := [d] }
  | _ => none }
def fnExactNodeTextRow : OpenClaim := { program := "ytkejckoefjonjaa", sum := "5761fdd457340b781b4a6a7b89dd9425f40939fba13310266e9aa98c8d17c83d", func := "loop.example/g00399/laws.FnExactNodeText", spec := "fnExactNodeText", inPlace := ["internal/abi.NoEscape", "internal/bytealg.MakeNoZero"], recurses := true, apart := false }
def FnExactNodeTextSaid : Prop := fnExactNodeTextRow.holds Try.pinned (OpenSpec.ofChange fnExactNodeTextSpec)

/-- ITS FALSE NEIGHBOUR: 'it returns false'. Refute it at one input. -/
def fnExactNodeTextWrong : ChangeSpec := { name := "fnExactNodeText", fn := fun _ => fun
  | [d] => { results := [.lit (.bool false)], args := [d] }
  | _ => none }
def FnExactNodeTextWrongFalsely : Prop := fnExactNodeTextRow.holds Try.pinned (OpenSpec.ofChange fnExactNodeTextWrong)

/-- 'laws.FnExactChain': WHATEVER THE INPUT: true; the input reads as it did. -/
def fnExactChainSpec : ChangeSpec := { name := "fnExactChain", fn := fun _ => fun
  | [d1, d2] => { results := [.lit (.bool true)], args := [d1, d2] }
  | _ => none }
def fnExactChainRow : OpenClaim := { program := "ytkejckoefjonjaa", sum := "5761fdd457340b781b4a6a7b89dd9425f40939fba13310266e9aa98c8d17c83d", func := "loop.example/g00399/laws.FnExactChain", spec := "fnExactChain", apart := false }
def FnExactChainSaid : Prop := fnExactChainRow.holds Try.pinned (OpenSpec.ofChange fnExactChainSpec)

/-- ITS FALSE NEIGHBOUR: 'it returns false'. Refute it at one input. -/
def fnExactChainWrong : ChangeSpec := { name := "fnExactChain", fn := fun _ => fun
  | [d1, d2] => { results := [.lit (.bool false)], args := [d1, d2] }
  | _ => none }
def FnExactChainWrongFalsely : Prop := fnExactChainRow.holds Try.pinned (OpenSpec.ofChange fnExactChainWrong)

/-- 'laws.FnExactReplay': WHATEVER THE INPUT: true; the input reads as it did. -/
def fnExactReplaySpec : ChangeSpec := { name := "fnExactReplay", fn := fun _ => fun
  | [d1, d2] => { results := [.lit (.bool true)], args := [d1, d2] }
  | _ => none }
def fnExactReplayRow : OpenClaim := { program := "ytkejckoefjonjaa", sum := "5761fdd457340b781b4a6a7b89dd9425f40939fba13310266e9aa98c8d17c83d", func := "loop.example/g00399/laws.FnExactReplay", spec := "fnExactReplay", apart := false }
def FnExactReplaySaid : Prop := fnExactReplayRow.holds Try.pinned (OpenSpec.ofChange fnExactReplaySpec)

/-- ITS FALSE NEIGHBOUR: 'it returns false'. Refute it at one input. -/
def fnExactReplayWrong : ChangeSpec := { name := "fnExactReplay", fn := fun _ => fun
  | [d1, d2] => { results := [.lit (.bool false)], args := [d1, d2] }
  | _ => none }
def FnExactReplayWrongFalsely : Prop := fnExactReplayRow.holds Try.pinned (OpenSpec.ofChange fnExactReplayWrong)

/-- 'laws.FnExactWorldText': WHATEVER THE INPUT: true; the input reads as it did. -/
def fnExactWorldTextSpec : ChangeSpec := { name := "fnExactWorldText", fn := fun _ => fun
  | [d] => { results := [.lit (.bool true)], args := [d] }
  | _ => none }
def fnExactWorldTextRow : OpenClaim := { program := "ytkejckoefjonjaa", sum := "5761fdd457340b781b4a6a7b89dd9425f40939fba13310266e9aa98c8d17c83d", func := "loop.example/g00399/laws.FnExactWorldText", spec := "fnExactWorldText", inPlace := ["internal/abi.NoEscape", "internal/bytealg.MakeNoZero"], recurses := true, apart := false }
def FnExactWorldTextSaid : Prop := fnExactWorldTextRow.holds Try.pinned (OpenSpec.ofChange fnExactWorldTextSpec)

/-- ITS FALSE NEIGHBOUR: 'it returns false'. Refute it at one input. -/
def fnExactWorldTextWrong : ChangeSpec := { name := "fnExactWorldText", fn := fun _ => fun
  | [d] => { results := [.lit (.bool false)], args := [d] }
  | _ => none }
def FnExactWorldTextWrongFalsely : Prop := fnExactWorldTextRow.holds Try.pinned (OpenSpec.ofChange fnExactWorldTextWrong)

/-- 'laws.FnExactMayWrite': WHATEVER THE INPUT: true; the input reads as it did. -/
def fnExactMayWriteSpec : ChangeSpec := { name := "fnExactMayWrite", fn := fun _ => fun
  | [d] => { results := [.lit (.bool true)], args := [d] }
  | _ => none }
def fnExactMayWriteRow : OpenClaim := { program := "ytkejckoefjonjaa", sum := "5761fdd457340b781b4a6a7b89dd9425f40939fba13310266e9aa98c8d17c83d", func := "loop.example/g00399/laws.FnExactMayWrite", spec := "fnExactMayWrite", unfollowed := true, recurses := true, apart := false }
def FnExactMayWriteSaid : Prop := fnExactMayWriteRow.holds Try.pinned (OpenSpec.ofChange fnExactMayWriteSpec)

/-- ITS FALSE NEIGHBOUR: 'it returns false'. Refute it at one input. -/
def fnExactMayWriteWrong : ChangeSpec := { name := "fnExactMayWrite", fn := fun _ => fun
  | [d] => { results := [.lit (.bool false)], args := [d] }
  | _ => none }
def FnExactMayWriteWrongFalsely : Prop := fnExactMayWriteRow.holds Try.pinned (OpenSpec.ofChange fnExactMayWriteWrong)

/- THE SECOND FORM. 'bulk': how many values and letters a reading holds, each counted each time it is reached (what is shared counts as often as it is met; a slice's spare places count too). A statement '..UptoSaid' is the law's where the arguments, and the package variables that the reading takes, are together of bulk at most 1048576: NARROWER than '..Said'. Prove '..Said' where nothing that the law and all that it calls make is longer than what came in: it says more and counts as full. Else prove '..UptoSaid'. A law counts once. -/
mutual
def uptoBulk {H : Type} : DataW H → Nat
  | .lit (.string bytes) => bytes.length + 1
  | .lit _ => 1
  | .nil => 1
  | .ptr d => uptoBulk d + 1
  | .slice elems spare => uptoBulkAll elems + uptoBulkAll spare + 1
  | .agg parts => uptoBulkAll parts + 1
  | .iface _ d => uptoBulk d + 1
  | .map entries => uptoBulkEntries entries + 1
  | .held _ => 1
def uptoBulkAll {H : Type} : List (DataW H) → Nat
  | [] => 0
  | d :: r => uptoBulk d + uptoBulkAll r
def uptoBulkEntries {H : Type} : List (Lit × DataW H) → Nat
  | [] => 0
  | x :: r => uptoBulkEntry x + uptoBulkEntries r
def uptoBulkEntry {H : Type} : Lit × DataW H → Nat
  | (.string bytes, d) => bytes.length + uptoBulk d + 1
  | (_, d) => uptoBulk d + 1
 end
def uptoSmall : (H : Type) → List (DataW H) → Bool := fun _ ds => decide (uptoBulkAll ds ≤ 1048576)
def OpenSpec.upto (s : _root_.Go.ChangeSpec) : _root_.Go.OpenSpec := { _root_.Go.OpenSpec.ofChange s with cond := some uptoSmall }

/-- 'laws.FnExactMsgText', WHERE WHAT IT READS IS OF BULK AT MOST 1048576: true; the input reads as it did. -/
def fnExactMsgTextUptoRow : OpenClaim := { program := "ytkejckoefjonjaa", sum := "5761fdd457340b781b4a6a7b89dd9425f40939fba13310266e9aa98c8d17c83d", func := "loop.example/g00399/laws.FnExactMsgText", spec := "fnExactMsgText", inPlace := ["internal/abi.NoEscape", "internal/bytealg.MakeNoZero"], recurses := true, apart := false, narrowed := true }
def FnExactMsgTextUptoSaid : Prop := fnExactMsgTextUptoRow.holds Try.pinned (OpenSpec.upto fnExactMsgTextSpec)

/-- 'laws.FnExactNodeText', WHERE WHAT IT READS IS OF BULK AT MOST 1048576: true; the input reads as it did. -/
def fnExactNodeTextUptoRow : OpenClaim := { program := "ytkejckoefjonjaa", sum := "5761fdd457340b781b4a6a7b89dd9425f40939fba13310266e9aa98c8d17c83d", func := "loop.example/g00399/laws.FnExactNodeText", spec := "fnExactNodeText", inPlace := ["internal/abi.NoEscape", "internal/bytealg.MakeNoZero"], recurses := true, apart := false, narrowed := true }
def FnExactNodeTextUptoSaid : Prop := fnExactNodeTextUptoRow.holds Try.pinned (OpenSpec.upto fnExactNodeTextSpec)

/-- 'laws.FnExactChain', WHERE WHAT IT READS IS OF BULK AT MOST 1048576: true; the input reads as it did. -/
def fnExactChainUptoRow : OpenClaim := { program := "ytkejckoefjonjaa", sum := "5761fdd457340b781b4a6a7b89dd9425f40939fba13310266e9aa98c8d17c83d", func := "loop.example/g00399/laws.FnExactChain", spec := "fnExactChain", apart := false, narrowed := true }
def FnExactChainUptoSaid : Prop := fnExactChainUptoRow.holds Try.pinned (OpenSpec.upto fnExactChainSpec)

/-- 'laws.FnExactReplay', WHERE WHAT IT READS IS OF BULK AT MOST 1048576: true; the input reads as it did. -/
def fnExactReplayUptoRow : OpenClaim := { program := "ytkejckoefjonjaa", sum := "5761fdd457340b781b4a6a7b89dd9425f40939fba13310266e9aa98c8d17c83d", func := "loop.example/g00399/laws.FnExactReplay", spec := "fnExactReplay", apart := false, narrowed := true }
def FnExactReplayUptoSaid : Prop := fnExactReplayUptoRow.holds Try.pinned (OpenSpec.upto fnExactReplaySpec)

/-- 'laws.FnExactWorldText', WHERE WHAT IT READS IS OF BULK AT MOST 1048576: true; the input reads as it did. -/
def fnExactWorldTextUptoRow : OpenClaim := { program := "ytkejckoefjonjaa", sum := "5761fdd457340b781b4a6a7b89dd9425f40939fba13310266e9aa98c8d17c83d", func := "loop.example/g00399/laws.FnExactWorldText", spec := "fnExactWorldText", inPlace := ["internal/abi.NoEscape", "internal/bytealg.MakeNoZero"], recurses := true, apart := false, narrowed := true }
def FnExactWorldTextUptoSaid : Prop := fnExactWorldTextUptoRow.holds Try.pinned (OpenSpec.upto fnExactWorldTextSpec)

/-- 'laws.FnExactMayWrite', WHERE WHAT IT READS IS OF BULK AT MOST 1048576: true; the input reads as it did. -/
def fnExactMayWriteUptoRow : OpenClaim := { program := "ytkejckoefjonjaa", sum := "5761fdd457340b781b4a6a7b89dd9425f40939fba13310266e9aa98c8d17c83d", func := "loop.example/g00399/laws.FnExactMayWrite", spec := "fnExactMayWrite", unfollowed := true, recurses := true, apart := false, narrowed := true }
def FnExactMayWriteUptoSaid : Prop := fnExactMayWriteUptoRow.holds Try.pinned (OpenSpec.upto fnExactMayWriteSpec)

end Rows
end Go.Proofs.Ytkejckoefjonjaa
