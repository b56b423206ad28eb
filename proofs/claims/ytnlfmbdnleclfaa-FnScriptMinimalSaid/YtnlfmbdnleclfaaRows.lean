/-
  No cell of these rows narrows 'for every input' (looked for: loops, veiled, ifaces, maps, wideKeys, modest, calm, conditions, laid).
  DERIVED. THE GIVEN ROWS OF THIS SEAT. 15 by the template 'for every input the law returns true; each argument reads behind the call as it read before'; 0 by the template 'total and deterministic' (their statements: YtnlfmbdnleclfaaTotals.lean).
  GIVEN WITH THE SEED: the statements are not yours to turn. If you find one false, say at which input.
  Laid BY PROGRAM, IN A SANDBOX (cutbox-rows.mjs): the forced cells as the released guide's own fill.sh prints them over the translation 6ca772bb481d5b6f… (all of the seat's roots in one cut). By AI agents, Wed Nov 11 2026. No macro, syntax, notation, axiom, sorry.
-/
import Derived.Test.YtnlfmbdnleclfaaChecked
import GoSem.Claim
import GoSem.ClaimJoined
import GoSem.ClaimMapViews
import Derived.JoinedTies
import Derived.KernelRfl
namespace Go.Proofs.Ytnlfmbdnleclfaa
/- THE CELL 'sum', in the pinned program and in every row, IS THE sha256 OF THE DUMP (.gsa) THAT YtnlfmbdnleclfaaProg.lean LOADS. Nothing in Lean hashes anything: it is a label: what it is worth is what the hold of that sum in a sandbox is worth. -/
noncomputable def Try.pinned : Pinned := { name := "ytnlfmbdnleclfaa", sum := "6ca772bb481d5b6fa765ff61aebb6c93992b167a63f1573fb9b78b88ef13593e", checked := Try.checked }
namespace Rows
def none {H : Type} : Left H := { results := [], args := [] }

/-- 'laws.FnExactCommonLength': WHATEVER THE INPUT: true; the input reads as it did. -/
def fnExactCommonLengthSpec : ChangeSpec := { name := "fnExactCommonLength", fn := fun _ => fun
  | [d1, d2] => { results := [.lit (.bool true)], args := [d1, d2] }
  | _ => none }
def fnExactCommonLengthRow : OpenClaim := { program := "ytnlfmbdnleclfaa", sum := "6ca772bb481d5b6fa765ff61aebb6c93992b167a63f1573fb9b78b88ef13593e", func := "loop.example/collabdoc/laws.FnExactCommonLength", spec := "fnExactCommonLength", apart := false }
def FnExactCommonLengthSaid : Prop := fnExactCommonLengthRow.holds Try.pinned (OpenSpec.ofChange fnExactCommonLengthSpec)

/-- ITS FALSE NEIGHBOUR: 'it returns false'. Refute it at one input. -/
def fnExactCommonLengthWrong : ChangeSpec := { name := "fnExactCommonLength", fn := fun _ => fun
  | [d1, d2] => { results := [.lit (.bool false)], args := [d1, d2] }
  | _ => none }
def FnExactCommonLengthWrongFalsely : Prop := fnExactCommonLengthRow.holds Try.pinned (OpenSpec.ofChange fnExactCommonLengthWrong)

/-- 'laws.FnExactScriptCost': WHATEVER THE INPUT: true; the input reads as it did. -/
def fnExactScriptCostSpec : ChangeSpec := { name := "fnExactScriptCost", fn := fun _ => fun
  | [d] => { results := [.lit (.bool true)], args := [d] }
  | _ => none }
def fnExactScriptCostRow : OpenClaim := { program := "ytnlfmbdnleclfaa", sum := "6ca772bb481d5b6fa765ff61aebb6c93992b167a63f1573fb9b78b88ef13593e", func := "loop.example/collabdoc/laws.FnExactScriptCost", spec := "fnExactScriptCost", apart := false }
def FnExactScriptCostSaid : Prop := fnExactScriptCostRow.holds Try.pinned (OpenSpec.ofChange fnExactScriptCostSpec)

/-- ITS FALSE NEIGHBOUR: 'it returns false'. Refute it at one input. -/
def fnExactScriptCostWrong : ChangeSpec := { name := "fnExactScriptCost", fn := fun _ => fun
  | [d] => { results := [.lit (.bool false)], args := [d] }
  | _ => none }
def FnExactScriptCostWrongFalsely : Prop := fnExactScriptCostRow.holds Try.pinned (OpenSpec.ofChange fnExactScriptCostWrong)

/-- 'laws.FnCommonLength': WHATEVER THE INPUT: true; the input reads as it did. -/
def fnCommonLengthSpec : ChangeSpec := { name := "fnCommonLength", fn := fun _ => fun
  | [d] => { results := [.lit (.bool true)], args := [d] }
  | _ => none }
def fnCommonLengthRow : OpenClaim := { program := "ytnlfmbdnleclfaa", sum := "6ca772bb481d5b6fa765ff61aebb6c93992b167a63f1573fb9b78b88ef13593e", func := "loop.example/collabdoc/laws.FnCommonLength", spec := "fnCommonLength", apart := false }
def FnCommonLengthSaid : Prop := fnCommonLengthRow.holds Try.pinned (OpenSpec.ofChange fnCommonLengthSpec)

/-- ITS FALSE NEIGHBOUR: 'it returns false'. Refute it at one input. -/
def fnCommonLengthWrong : ChangeSpec := { name := "fnCommonLength", fn := fun _ => fun
  | [d] => { results := [.lit (.bool false)], args := [d] }
  | _ => none }
def FnCommonLengthWrongFalsely : Prop := fnCommonLengthRow.holds Try.pinned (OpenSpec.ofChange fnCommonLengthWrong)

/-- 'laws.FnCommonPart': WHATEVER THE INPUT: true; the input reads as it did. -/
def fnCommonPartSpec : ChangeSpec := { name := "fnCommonPart", fn := fun _ => fun
  | [d1, d2] => { results := [.lit (.bool true)], args := [d1, d2] }
  | _ => none }
def fnCommonPartRow : OpenClaim := { program := "ytnlfmbdnleclfaa", sum := "6ca772bb481d5b6fa765ff61aebb6c93992b167a63f1573fb9b78b88ef13593e", func := "loop.example/collabdoc/laws.FnCommonPart", spec := "fnCommonPart", apart := false }
def FnCommonPartSaid : Prop := fnCommonPartRow.holds Try.pinned (OpenSpec.ofChange fnCommonPartSpec)

/-- ITS FALSE NEIGHBOUR: 'it returns false'. Refute it at one input. -/
def fnCommonPartWrong : ChangeSpec := { name := "fnCommonPart", fn := fun _ => fun
  | [d1, d2] => { results := [.lit (.bool false)], args := [d1, d2] }
  | _ => none }
def FnCommonPartWrongFalsely : Prop := fnCommonPartRow.holds Try.pinned (OpenSpec.ofChange fnCommonPartWrong)

/-- 'laws.FnCommonSuffix': WHATEVER THE INPUT: true; the input reads as it did. -/
def fnCommonSuffixSpec : ChangeSpec := { name := "fnCommonSuffix", fn := fun _ => fun
  | [d] => { results := [.lit (.bool true)], args := [d] }
  | _ => none }
def fnCommonSuffixRow : OpenClaim := { program := "ytnlfmbdnleclfaa", sum := "6ca772bb481d5b6fa765ff61aebb6c93992b167a63f1573fb9b78b88ef13593e", func := "loop.example/collabdoc/laws.FnCommonSuffix", spec := "fnCommonSuffix", apart := false }
def FnCommonSuffixSaid : Prop := fnCommonSuffixRow.holds Try.pinned (OpenSpec.ofChange fnCommonSuffixSpec)

/-- ITS FALSE NEIGHBOUR: 'it returns false'. Refute it at one input. -/
def fnCommonSuffixWrong : ChangeSpec := { name := "fnCommonSuffix", fn := fun _ => fun
  | [d] => { results := [.lit (.bool false)], args := [d] }
  | _ => none }
def FnCommonSuffixWrongFalsely : Prop := fnCommonSuffixRow.holds Try.pinned (OpenSpec.ofChange fnCommonSuffixWrong)

/-- 'laws.FnExactApplyScript': WHATEVER THE INPUT: true; the input reads as it did. -/
def fnExactApplyScriptSpec : ChangeSpec := { name := "fnExactApplyScript", fn := fun _ => fun
  | [d1, d2] => { results := [.lit (.bool true)], args := [d1, d2] }
  | _ => none }
def fnExactApplyScriptRow : OpenClaim := { program := "ytnlfmbdnleclfaa", sum := "6ca772bb481d5b6fa765ff61aebb6c93992b167a63f1573fb9b78b88ef13593e", func := "loop.example/collabdoc/laws.FnExactApplyScript", spec := "fnExactApplyScript", apart := false }
def FnExactApplyScriptSaid : Prop := fnExactApplyScriptRow.holds Try.pinned (OpenSpec.ofChange fnExactApplyScriptSpec)

/-- ITS FALSE NEIGHBOUR: 'it returns false'. Refute it at one input. -/
def fnExactApplyScriptWrong : ChangeSpec := { name := "fnExactApplyScript", fn := fun _ => fun
  | [d1, d2] => { results := [.lit (.bool false)], args := [d1, d2] }
  | _ => none }
def FnExactApplyScriptWrongFalsely : Prop := fnExactApplyScriptRow.holds Try.pinned (OpenSpec.ofChange fnExactApplyScriptWrong)

/-- 'laws.FnExactInvertScript': WHATEVER THE INPUT: true; the input reads as it did. -/
def fnExactInvertScriptSpec : ChangeSpec := { name := "fnExactInvertScript", fn := fun _ => fun
  | [d] => { results := [.lit (.bool true)], args := [d] }
  | _ => none }
def fnExactInvertScriptRow : OpenClaim := { program := "ytnlfmbdnleclfaa", sum := "6ca772bb481d5b6fa765ff61aebb6c93992b167a63f1573fb9b78b88ef13593e", func := "loop.example/collabdoc/laws.FnExactInvertScript", spec := "fnExactInvertScript", apart := false }
def FnExactInvertScriptSaid : Prop := fnExactInvertScriptRow.holds Try.pinned (OpenSpec.ofChange fnExactInvertScriptSpec)

/-- ITS FALSE NEIGHBOUR: 'it returns false'. Refute it at one input. -/
def fnExactInvertScriptWrong : ChangeSpec := { name := "fnExactInvertScript", fn := fun _ => fun
  | [d] => { results := [.lit (.bool false)], args := [d] }
  | _ => none }
def FnExactInvertScriptWrongFalsely : Prop := fnExactInvertScriptRow.holds Try.pinned (OpenSpec.ofChange fnExactInvertScriptWrong)

/-- 'laws.FnScriptJoined': WHATEVER THE INPUT: true; the input reads as it did. -/
def fnScriptJoinedSpec : ChangeSpec := { name := "fnScriptJoined", fn := fun _ => fun
  | [d] => { results := [.lit (.bool true)], args := [d] }
  | _ => none }
def fnScriptJoinedRow : OpenClaim := { program := "ytnlfmbdnleclfaa", sum := "6ca772bb481d5b6fa765ff61aebb6c93992b167a63f1573fb9b78b88ef13593e", func := "loop.example/collabdoc/laws.FnScriptJoined", spec := "fnScriptJoined", apart := false }
def FnScriptJoinedSaid : Prop := fnScriptJoinedRow.holds Try.pinned (OpenSpec.ofChange fnScriptJoinedSpec)

/-- ITS FALSE NEIGHBOUR: 'it returns false'. Refute it at one input. -/
def fnScriptJoinedWrong : ChangeSpec := { name := "fnScriptJoined", fn := fun _ => fun
  | [d] => { results := [.lit (.bool false)], args := [d] }
  | _ => none }
def FnScriptJoinedWrongFalsely : Prop := fnScriptJoinedRow.holds Try.pinned (OpenSpec.ofChange fnScriptJoinedWrong)

/-- 'laws.FnExactEditScript': WHATEVER THE INPUT: true; the input reads as it did. -/
def fnExactEditScriptSpec : ChangeSpec := { name := "fnExactEditScript", fn := fun _ => fun
  | [d1, d2] => { results := [.lit (.bool true)], args := [d1, d2] }
  | _ => none }
def fnExactEditScriptRow : OpenClaim := { program := "ytnlfmbdnleclfaa", sum := "6ca772bb481d5b6fa765ff61aebb6c93992b167a63f1573fb9b78b88ef13593e", func := "loop.example/collabdoc/laws.FnExactEditScript", spec := "fnExactEditScript", apart := false }
def FnExactEditScriptSaid : Prop := fnExactEditScriptRow.holds Try.pinned (OpenSpec.ofChange fnExactEditScriptSpec)

/-- ITS FALSE NEIGHBOUR: 'it returns false'. Refute it at one input. -/
def fnExactEditScriptWrong : ChangeSpec := { name := "fnExactEditScript", fn := fun _ => fun
  | [d1, d2] => { results := [.lit (.bool false)], args := [d1, d2] }
  | _ => none }
def FnExactEditScriptWrongFalsely : Prop := fnExactEditScriptRow.holds Try.pinned (OpenSpec.ofChange fnExactEditScriptWrong)

/-- 'laws.FnScriptCost': WHATEVER THE INPUT: true; the input reads as it did. -/
def fnScriptCostSpec : ChangeSpec := { name := "fnScriptCost", fn := fun _ => fun
  | [d] => { results := [.lit (.bool true)], args := [d] }
  | _ => none }
def fnScriptCostRow : OpenClaim := { program := "ytnlfmbdnleclfaa", sum := "6ca772bb481d5b6fa765ff61aebb6c93992b167a63f1573fb9b78b88ef13593e", func := "loop.example/collabdoc/laws.FnScriptCost", spec := "fnScriptCost", apart := false }
def FnScriptCostSaid : Prop := fnScriptCostRow.holds Try.pinned (OpenSpec.ofChange fnScriptCostSpec)

/-- ITS FALSE NEIGHBOUR: 'it returns false'. Refute it at one input. -/
def fnScriptCostWrong : ChangeSpec := { name := "fnScriptCost", fn := fun _ => fun
  | [d] => { results := [.lit (.bool false)], args := [d] }
  | _ => none }
def FnScriptCostWrongFalsely : Prop := fnScriptCostRow.holds Try.pinned (OpenSpec.ofChange fnScriptCostWrong)

/-- 'laws.FnApplyScript': WHATEVER THE INPUT: true; the input reads as it did. -/
def fnApplyScriptSpec : ChangeSpec := { name := "fnApplyScript", fn := fun _ => fun
  | [d] => { results := [.lit (.bool true)], args := [d] }
  | _ => none }
def fnApplyScriptRow : OpenClaim := { program := "ytnlfmbdnleclfaa", sum := "6ca772bb481d5b6fa765ff61aebb6c93992b167a63f1573fb9b78b88ef13593e", func := "loop.example/collabdoc/laws.FnApplyScript", spec := "fnApplyScript", apart := false }
def FnApplyScriptSaid : Prop := fnApplyScriptRow.holds Try.pinned (OpenSpec.ofChange fnApplyScriptSpec)

/-- ITS FALSE NEIGHBOUR: 'it returns false'. Refute it at one input. -/
def fnApplyScriptWrong : ChangeSpec := { name := "fnApplyScript", fn := fun _ => fun
  | [d] => { results := [.lit (.bool false)], args := [d] }
  | _ => none }
def FnApplyScriptWrongFalsely : Prop := fnApplyScriptRow.holds Try.pinned (OpenSpec.ofChange fnApplyScriptWrong)

/-- 'laws.FnScriptPrefix': WHATEVER THE INPUT: true; the input reads as it did. -/
def fnScriptPrefixSpec : ChangeSpec := { name := "fnScriptPrefix", fn := fun _ => fun
  | [d1, d2] => { results := [.lit (.bool true)], args := [d1, d2] }
  | _ => none }
def fnScriptPrefixRow : OpenClaim := { program := "ytnlfmbdnleclfaa", sum := "6ca772bb481d5b6fa765ff61aebb6c93992b167a63f1573fb9b78b88ef13593e", func := "loop.example/collabdoc/laws.FnScriptPrefix", spec := "fnScriptPrefix", apart := false }
def FnScriptPrefixSaid : Prop := fnScriptPrefixRow.holds Try.pinned (OpenSpec.ofChange fnScriptPrefixSpec)

/-- ITS FALSE NEIGHBOUR: 'it returns false'. Refute it at one input. -/
def fnScriptPrefixWrong : ChangeSpec := { name := "fnScriptPrefix", fn := fun _ => fun
  | [d1, d2] => { results := [.lit (.bool false)], args := [d1, d2] }
  | _ => none }
def FnScriptPrefixWrongFalsely : Prop := fnScriptPrefixRow.holds Try.pinned (OpenSpec.ofChange fnScriptPrefixWrong)

/-- 'laws.FnEditScript': WHATEVER THE INPUT: true; the input reads as it did. -/
def fnEditScriptSpec : ChangeSpec := { name := "fnEditScript", fn := fun _ => fun
  | [d] => { results := [.lit (.bool true)], args := [d] }
  | _ => none }
def fnEditScriptRow : OpenClaim := { program := "ytnlfmbdnleclfaa", sum := "6ca772bb481d5b6fa765ff61aebb6c93992b167a63f1573fb9b78b88ef13593e", func := "loop.example/collabdoc/laws.FnEditScript", spec := "fnEditScript", apart := false }
def FnEditScriptSaid : Prop := fnEditScriptRow.holds Try.pinned (OpenSpec.ofChange fnEditScriptSpec)

/-- ITS FALSE NEIGHBOUR: 'it returns false'. Refute it at one input. -/
def fnEditScriptWrong : ChangeSpec := { name := "fnEditScript", fn := fun _ => fun
  | [d] => { results := [.lit (.bool false)], args := [d] }
  | _ => none }
def FnEditScriptWrongFalsely : Prop := fnEditScriptRow.holds Try.pinned (OpenSpec.ofChange fnEditScriptWrong)

/-- 'laws.FnInvertScript': WHATEVER THE INPUT: true; the input reads as it did. -/
def fnInvertScriptSpec : ChangeSpec := { name := "fnInvertScript", fn := fun _ => fun
  | [d] => { results := [.lit (.bool true)], args := [d] }
  | _ => none }
def fnInvertScriptRow : OpenClaim := { program := "ytnlfmbdnleclfaa", sum := "6ca772bb481d5b6fa765ff61aebb6c93992b167a63f1573fb9b78b88ef13593e", func := "loop.example/collabdoc/laws.FnInvertScript", spec := "fnInvertScript", apart := false }
def FnInvertScriptSaid : Prop := fnInvertScriptRow.holds Try.pinned (OpenSpec.ofChange fnInvertScriptSpec)

/-- ITS FALSE NEIGHBOUR: 'it returns false'. Refute it at one input. -/
def fnInvertScriptWrong : ChangeSpec := { name := "fnInvertScript", fn := fun _ => fun
  | [d] => { results := [.lit (.bool false)], args := [d] }
  | _ => none }
def FnInvertScriptWrongFalsely : Prop := fnInvertScriptRow.holds Try.pinned (OpenSpec.ofChange fnInvertScriptWrong)

/-- 'laws.FnScriptMinimal': WHATEVER THE INPUT: true; the input reads as it did. -/
def fnScriptMinimalSpec : ChangeSpec := { name := "fnScriptMinimal", fn := fun _ => fun
  | [d] => { results := [.lit (.bool true)], args := [d] }
  | _ => none }
def fnScriptMinimalRow : OpenClaim := { program := "ytnlfmbdnleclfaa", sum := "6ca772bb481d5b6fa765ff61aebb6c93992b167a63f1573fb9b78b88ef13593e", func := "loop.example/collabdoc/laws.FnScriptMinimal", spec := "fnScriptMinimal", apart := false }
def FnScriptMinimalSaid : Prop := fnScriptMinimalRow.holds Try.pinned (OpenSpec.ofChange fnScriptMinimalSpec)

/-- ITS FALSE NEIGHBOUR: 'it returns false'. Refute it at one input. -/
def fnScriptMinimalWrong : ChangeSpec := { name := "fnScriptMinimal", fn := fun _ => fun
  | [d] => { results := [.lit (.bool false)], args := [d] }
  | _ => none }
def FnScriptMinimalWrongFalsely : Prop := fnScriptMinimalRow.holds Try.pinned (OpenSpec.ofChange fnScriptMinimalWrong)

/- THE SECOND FORM. 'bulk': how many values and letters a reading holds, each counted each time it is reached (what is shared counts as often as it is met; a slice's spare places count too). A statement '..UptoSaid' is the law's where the arguments, and the package variables that the reading takes, are together of bulk at most 1048576: NARROWER than '..Said'. Prove '..Said' where nothing that the law and all that it calls make is longer than what came in: it says more and counts as full. Else prove '..UptoSaid'. A law counts once. -/
mutual
def uptoBulk {H : Type} : DataW H → Nat
  | .lit (.string bytes) => bytes.length + 1
  | .lit _ => 1
  | .nil => 1
  | .ptr d => uptoBulk d + 1
  | .slice elems spare => uptoBulkAll elems + uptoBulkAll spare + 1
  | .agg parts => uptoBulkAll parts + 1
  | .iface _ d => uptoBulk d + 1
  | .map entries => uptoBulkEntries entries + 1
  | .held _ => 1
def uptoBulkAll {H : Type} : List (DataW H) → Nat
  | [] => 0
  | d :: r => uptoBulk d + uptoBulkAll r
def uptoBulkEntries {H : Type} : List (Lit × DataW H) → Nat
  | [] => 0
  | x :: r => uptoBulkEntry x + uptoBulkEntries r
def uptoBulkEntry {H : Type} : Lit × DataW H → Nat
  | (.string bytes, d) => bytes.length + uptoBulk d + 1
  | (_, d) => uptoBulk d + 1
 end
def uptoSmall : (H : Type) → List (DataW H) → Bool := fun _ ds => decide (uptoBulkAll ds ≤ 1048576)
def OpenSpec.upto (s : _root_.Go.ChangeSpec) : _root_.Go.OpenSpec := { _root_.Go.OpenSpec.ofChange s with cond := some uptoSmall }

/-- 'laws.FnExactCommonLength', WHERE WHAT IT READS IS OF BULK AT MOST 1048576: true; the input reads as it did. -/
def fnExactCommonLengthUptoRow : OpenClaim := { program := "ytnlfmbdnleclfaa", sum := "6ca772bb481d5b6fa765ff61aebb6c93992b167a63f1573fb9b78b88ef13593e", func := "loop.example/collabdoc/laws.FnExactCommonLength", spec := "fnExactCommonLength", apart := false, narrowed := true }
def FnExactCommonLengthUptoSaid : Prop := fnExactCommonLengthUptoRow.holds Try.pinned (OpenSpec.upto fnExactCommonLengthSpec)

/-- 'laws.FnExactScriptCost', WHERE WHAT IT READS IS OF BULK AT MOST 1048576: true; the input reads as it did. -/
def fnExactScriptCostUptoRow : OpenClaim := { program := "ytnlfmbdnleclfaa", sum := "6ca772bb481d5b6fa765ff61aebb6c93992b167a63f1573fb9b78b88ef13593e", func := "loop.example/collabdoc/laws.FnExactScriptCost", spec := "fnExactScriptCost", apart := false, narrowed := true }
def FnExactScriptCostUptoSaid : Prop := fnExactScriptCostUptoRow.holds Try.pinned (OpenSpec.upto fnExactScriptCostSpec)

/-- 'laws.FnCommonLength', WHERE WHAT IT READS IS OF BULK AT MOST 1048576: true; the input reads as it did. -/
def fnCommonLengthUptoRow : OpenClaim := { program := "ytnlfmbdnleclfaa", sum := "6ca772bb481d5b6fa765ff61aebb6c93992b167a63f1573fb9b78b88ef13593e", func := "loop.example/collabdoc/laws.FnCommonLength", spec := "fnCommonLength", apart := false, narrowed := true }
def FnCommonLengthUptoSaid : Prop := fnCommonLengthUptoRow.holds Try.pinned (OpenSpec.upto fnCommonLengthSpec)

/-- 'laws.FnCommonPart', WHERE WHAT IT READS IS OF BULK AT MOST 1048576: true; the input reads as it did. -/
def fnCommonPartUptoRow : OpenClaim := { program := "ytnlfmbdnleclfaa", sum := "6ca772bb481d5b6fa765ff61aebb6c93992b167a63f1573fb9b78b88ef13593e", func := "loop.example/collabdoc/laws.FnCommonPart", spec := "fnCommonPart", apart := false, narrowed := true }
def FnCommonPartUptoSaid : Prop := fnCommonPartUptoRow.holds Try.pinned (OpenSpec.upto fnCommonPartSpec)

/-- 'laws.FnCommonSuffix', WHERE WHAT IT READS IS OF BULK AT MOST 1048576: true; the input reads as it did. -/
def fnCommonSuffixUptoRow : OpenClaim := { program := "ytnlfmbdnleclfaa", sum := "6ca772bb481d5b6fa765ff61aebb6c93992b167a63f1573fb9b78b88ef13593e", func := "loop.example/collabdoc/laws.FnCommonSuffix", spec := "fnCommonSuffix", apart := false, narrowed := true }
def FnCommonSuffixUptoSaid : Prop := fnCommonSuffixUptoRow.holds Try.pinned (OpenSpec.upto fnCommonSuffixSpec)

/-- 'laws.FnExactApplyScript', WHERE WHAT IT READS IS OF BULK AT MOST 1048576: true; the input reads as it did. -/
def fnExactApplyScriptUptoRow : OpenClaim := { program := "ytnlfmbdnleclfaa", sum := "6ca772bb481d5b6fa765ff61aebb6c93992b167a63f1573fb9b78b88ef13593e", func := "loop.example/collabdoc/laws.FnExactApplyScript", spec := "fnExactApplyScript", apart := false, narrowed := true }
def FnExactApplyScriptUptoSaid : Prop := fnExactApplyScriptUptoRow.holds Try.pinned (OpenSpec.upto fnExactApplyScriptSpec)

/-- 'laws.FnExactInvertScript', WHERE WHAT IT READS IS OF BULK AT MOST 1048576: true; the input reads as it did. -/
def fnExactInvertScriptUptoRow : OpenClaim := { program := "ytnlfmbdnleclfaa", sum := "6ca772bb481d5b6fa765ff61aebb6c93992b167a63f1573fb9b78b88ef13593e", func := "loop.example/collabdoc/laws.FnExactInvertScript", spec := "fnExactInvertScript", apart := false, narrowed := true }
def FnExactInvertScriptUptoSaid : Prop := fnExactInvertScriptUptoRow.holds Try.pinned (OpenSpec.upto fnExactInvertScriptSpec)

/-- 'laws.FnScriptJoined', WHERE WHAT IT READS IS OF BULK AT MOST 1048576: true; the input reads as it did. -/
def fnScriptJoinedUptoRow : OpenClaim := { program := "ytnlfmbdnleclfaa", sum := "6ca772bb481d5b6fa765ff61aebb6c93992b167a63f1573fb9b78b88ef13593e", func := "loop.example/collabdoc/laws.FnScriptJoined", spec := "fnScriptJoined", apart := false, narrowed := true }
def FnScriptJoinedUptoSaid : Prop := fnScriptJoinedUptoRow.holds Try.pinned (OpenSpec.upto fnScriptJoinedSpec)

/-- 'laws.FnExactEditScript', WHERE WHAT IT READS IS OF BULK AT MOST 1048576: true; the input reads as it did. -/
def fnExactEditScriptUptoRow : OpenClaim := { program := "ytnlfmbdnleclfaa", sum := "6ca772bb481d5b6fa765ff61aebb6c93992b167a63f1573fb9b78b88ef13593e", func := "loop.example/collabdoc/laws.FnExactEditScript", spec := "fnExactEditScript", apart := false, narrowed := true }
def FnExactEditScriptUptoSaid : Prop := fnExactEditScriptUptoRow.holds Try.pinned (OpenSpec.upto fnExactEditScriptSpec)

/-- 'laws.FnScriptCost', WHERE WHAT IT READS IS OF BULK AT MOST 1048576: true; the input reads as it did. -/
def fnScriptCostUptoRow : OpenClaim := { program := "ytnlfmbdnleclfaa", sum := "6ca772bb481d5b6fa765ff61aebb6c93992b167a63f1573fb9b78b88ef13593e", func := "loop.example/collabdoc/laws.FnScriptCost", spec := "fnScriptCost", apart := false, narrowed := true }
def FnScriptCostUptoSaid : Prop := fnScriptCostUptoRow.holds Try.pinned (OpenSpec.upto fnScriptCostSpec)

/-- 'laws.FnApplyScript', WHERE WHAT IT READS IS OF BULK AT MOST 1048576: true; the input reads as it did. -/
def fnApplyScriptUptoRow : OpenClaim := { program := "ytnlfmbdnleclfaa", sum := "6ca772bb481d5b6fa765ff61aebb6c93992b167a63f1573fb9b78b88ef13593e", func := "loop.example/collabdoc/laws.FnApplyScript", spec := "fnApplyScript", apart := false, narrowed := true }
def FnApplyScriptUptoSaid : Prop := fnApplyScriptUptoRow.holds Try.pinned (OpenSpec.upto fnApplyScriptSpec)

/-- 'laws.FnScriptPrefix', WHERE WHAT IT READS IS OF BULK AT MOST 1048576: true; the input reads as it did. -/
def fnScriptPrefixUptoRow : OpenClaim := { program := "ytnlfmbdnleclfaa", sum := "6ca772bb481d5b6fa765ff61aebb6c93992b167a63f1573fb9b78b88ef13593e", func := "loop.example/collabdoc/laws.FnScriptPrefix", spec := "fnScriptPrefix", apart := false, narrowed := true }
def FnScriptPrefixUptoSaid : Prop := fnScriptPrefixUptoRow.holds Try.pinned (OpenSpec.upto fnScriptPrefixSpec)

/-- 'laws.FnEditScript', WHERE WHAT IT READS IS OF BULK AT MOST 1048576: true; the input reads as it did. -/
def fnEditScriptUptoRow : OpenClaim := { program := "ytnlfmbdnleclfaa", sum := "6ca772bb481d5b6fa765ff61aebb6c93992b167a63f1573fb9b78b88ef13593e", func := "loop.example/collabdoc/laws.FnEditScript", spec := "fnEditScript", apart := false, narrowed := true }
def FnEditScriptUptoSaid : Prop := fnEditScriptUptoRow.holds Try.pinned (OpenSpec.upto fnEditScriptSpec)

/-- 'laws.FnInvertScript', WHERE WHAT IT READS IS OF BULK AT MOST 1048576: true; the input reads as it did. -/
def fnInvertScriptUptoRow : OpenClaim := { program := "ytnlfmbdnleclfaa", sum := "6ca772bb481d5b6fa765ff61aebb6c93992b167a63f1573fb9b78b88ef13593e", func := "loop.example/collabdoc/laws.FnInvertScript", spec := "fnInvertScript", apart := false, narrowed := true }
def FnInvertScriptUptoSaid : Prop := fnInvertScriptUptoRow.holds Try.pinned (OpenSpec.upto fnInvertScriptSpec)

/-- 'laws.FnScriptMinimal', WHERE WHAT IT READS IS OF BULK AT MOST 1048576: true; the input reads as it did. -/
def fnScriptMinimalUptoRow : OpenClaim := { program := "ytnlfmbdnleclfaa", sum := "6ca772bb481d5b6fa765ff61aebb6c93992b167a63f1573fb9b78b88ef13593e", func := "loop.example/collabdoc/laws.FnScriptMinimal", spec := "fnScriptMinimal", apart := false, narrowed := true }
def FnScriptMinimalUptoSaid : Prop := fnScriptMinimalUptoRow.holds Try.pinned (OpenSpec.upto fnScriptMinimalSpec)

end Rows
end Go.Proofs.Ytnlfmbdnleclfaa
