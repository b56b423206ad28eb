/-
  No cell of these rows narrows 'for every input' (looked for: loops, veiled, ifaces, maps, wideKeys, modest, calm, conditions, laid).
  DERIVED. THE GIVEN ROWS OF THIS SEAT. 9 by the template 'for every input the law returns true; each argument reads behind the call as it read before'; 0 by the template 'total and deterministic' (their statements: YtoenoaipjcmdnaaTotals.lean).
  GIVEN WITH THE SEED: the statements are not yours to turn. If you find one false, say at which input.
  Laid BY PROGRAM, IN A SANDBOX (cutbox-rows.mjs): the forced cells as the released guide's own fill.sh prints them over the translation ab74652eaad4ca63… (all of the seat's roots in one cut). By AI agents, Wed Nov 11 2026. No macro, syntax, notation, axiom, sorry.
-/
import Derived.Test.YtoenoaipjcmdnaaChecked
import GoSem.Claim
import GoSem.ClaimJoined
import GoSem.ClaimMapViews
import Derived.JoinedTies
import Derived.KernelRfl
namespace Go.Proofs.Ytoenoaipjcmdnaa
/- THE CELL 'sum', in the pinned program and in every row, IS THE sha256 OF THE DUMP (.gsa) THAT YtoenoaipjcmdnaaProg.lean LOADS. Nothing in Lean hashes anything: it is a label: what it is worth is what the hold of that sum in a sandbox is worth. -/
noncomputable def Try.pinned : Pinned := { name := "ytoenoaipjcmdnaa", sum := "ab74652eaad4ca634e698725b2ab6b69d30cd08bc237532c6fb3a52f65c834aa", checked := Try.checked }
namespace Rows
def none {H : Type} : Left H := { results := [], args := [] }

/-- 'laws.FnExactRowsMarkup': WHATEVER THE INPUT: true; the input reads as it did. -/
def fnExactRowsMarkupSpec : ChangeSpec := { name := "fnExactRowsMarkup", fn := fun _ => fun
  | [d] => { results := [.lit (.bool true)], args := [d] }
  | _ => none }
def fnExactRowsMarkupRow : OpenClaim := { program := "ytoenoaipjcmdnaa", sum := "ab74652eaad4ca634e698725b2ab6b69d30cd08bc237532c6fb3a52f65c834aa", func := "loop.example/collabdoc/laws.FnExactRowsMarkup", spec := "fnExactRowsMarkup", inPlace := ["internal/abi.NoEscape", "internal/bytealg.MakeNoZero"], plainKeys := false, apart := false }
def FnExactRowsMarkupSaid : Prop := fnExactRowsMarkupRow.holds Try.pinned (OpenSpec.ofChange fnExactRowsMarkupSpec)

/-- ITS FALSE NEIGHBOUR: 'it returns false'. Refute it at one input. -/
def fnExactRowsMarkupWrong : ChangeSpec := { name := "fnExactRowsMarkup", fn := fun _ => fun
  | [d] => { results := [.lit (.bool false)], args := [d] }
  | _ => none }
def FnExactRowsMarkupWrongFalsely : Prop := fnExactRowsMarkupRow.holds Try.pinned (OpenSpec.ofChange fnExactRowsMarkupWrong)

/-- 'laws.FnExactMarkupCost': WHATEVER THE INPUT: true; the input reads as it did. -/
def fnExactMarkupCostSpec : ChangeSpec := { name := "fnExactMarkupCost", fn := fun _ => fun
  | [d] => { results := [.lit (.bool true)], args := [d] }
  | _ => none }
def fnExactMarkupCostRow : OpenClaim := { program := "ytoenoaipjcmdnaa", sum := "ab74652eaad4ca634e698725b2ab6b69d30cd08bc237532c6fb3a52f65c834aa", func := "loop.example/collabdoc/laws.FnExactMarkupCost", spec := "fnExactMarkupCost", inPlace := ["internal/bytealg.IndexByteString", "internal/bytealg.IndexString", "internal/abi.NoEscape", "internal/bytealg.MakeNoZero"], named := ["internal/bytealg.MaxLen"], plainKeys := false, apart := false }
def FnExactMarkupCostSaid : Prop := fnExactMarkupCostRow.holds Try.pinned (OpenSpec.ofChange fnExactMarkupCostSpec)

/-- ITS FALSE NEIGHBOUR: 'it returns false'. Refute it at one input. -/
def fnExactMarkupCostWrong : ChangeSpec := { name := "fnExactMarkupCost", fn := fun _ => fun
  | [d] => { results := [.lit (.bool false)], args := [d] }
  | _ => none }
def FnExactMarkupCostWrongFalsely : Prop := fnExactMarkupCostRow.holds Try.pinned (OpenSpec.ofChange fnExactMarkupCostWrong)

/-- 'laws.FnRowsMarkup': WHATEVER THE INPUT: true; the input reads as it did. -/
def fnRowsMarkupSpec : ChangeSpec := { name := "fnRowsMarkup", fn := fun _ => fun
  | [d] => { results := [.lit (.bool true)], args := [d] }
  | _ => none }
def fnRowsMarkupRow : OpenClaim := { program := "ytoenoaipjcmdnaa", sum := "ab74652eaad4ca634e698725b2ab6b69d30cd08bc237532c6fb3a52f65c834aa", func := "loop.example/collabdoc/laws.FnRowsMarkup", spec := "fnRowsMarkup", inPlace := ["internal/abi.NoEscape", "internal/bytealg.MakeNoZero", "internal/bytealg.IndexByteString", "internal/bytealg.IndexString"], named := ["internal/bytealg.MaxLen"], plainKeys := false, apart := false }
def FnRowsMarkupSaid : Prop := fnRowsMarkupRow.holds Try.pinned (OpenSpec.ofChange fnRowsMarkupSpec)

/-- ITS FALSE NEIGHBOUR: 'it returns false'. Refute it at one input. -/
def fnRowsMarkupWrong : ChangeSpec := { name := "fnRowsMarkup", fn := fun _ => fun
  | [d] => { results := [.lit (.bool false)], args := [d] }
  | _ => none }
def FnRowsMarkupWrongFalsely : Prop := fnRowsMarkupRow.holds Try.pinned (OpenSpec.ofChange fnRowsMarkupWrong)

/-- 'laws.FnExactParseMarkup': WHATEVER THE INPUT: true; the input reads as it did. -/
def fnExactParseMarkupSpec : ChangeSpec := { name := "fnExactParseMarkup", fn := fun _ => fun
  | [d] => { results := [.lit (.bool true)], args := [d] }
  | _ => none }
def fnExactParseMarkupRow : OpenClaim := { program := "ytoenoaipjcmdnaa", sum := "ab74652eaad4ca634e698725b2ab6b69d30cd08bc237532c6fb3a52f65c834aa", func := "loop.example/collabdoc/laws.FnExactParseMarkup", spec := "fnExactParseMarkup", inPlace := ["internal/bytealg.IndexByteString", "internal/bytealg.IndexString", "internal/abi.NoEscape", "internal/bytealg.MakeNoZero"], named := ["internal/bytealg.MaxLen"], plainKeys := false, apart := false }
def FnExactParseMarkupSaid : Prop := fnExactParseMarkupRow.holds Try.pinned (OpenSpec.ofChange fnExactParseMarkupSpec)

/-- ITS FALSE NEIGHBOUR: 'it returns false'. Refute it at one input. -/
def fnExactParseMarkupWrong : ChangeSpec := { name := "fnExactParseMarkup", fn := fun _ => fun
  | [d] => { results := [.lit (.bool false)], args := [d] }
  | _ => none }
def FnExactParseMarkupWrongFalsely : Prop := fnExactParseMarkupRow.holds Try.pinned (OpenSpec.ofChange fnExactParseMarkupWrong)

/-- 'laws.FnMarkupJoin': WHATEVER THE INPUT: true; the input reads as it did. -/
def fnMarkupJoinSpec : ChangeSpec := { name := "fnMarkupJoin", fn := fun _ => fun
  | [d1, d2] => { results := [.lit (.bool true)], args := [d1, d2] }
  | _ => none }
def fnMarkupJoinRow : OpenClaim := { program := "ytoenoaipjcmdnaa", sum := "ab74652eaad4ca634e698725b2ab6b69d30cd08bc237532c6fb3a52f65c834aa", func := "loop.example/collabdoc/laws.FnMarkupJoin", spec := "fnMarkupJoin", inPlace := ["internal/bytealg.IndexByteString", "internal/bytealg.IndexString", "internal/abi.NoEscape", "internal/bytealg.MakeNoZero"], named := ["internal/bytealg.MaxLen"], plainKeys := false, apart := false }
def FnMarkupJoinSaid : Prop := fnMarkupJoinRow.holds Try.pinned (OpenSpec.ofChange fnMarkupJoinSpec)

/-- ITS FALSE NEIGHBOUR: 'it returns false'. Refute it at one input. -/
def fnMarkupJoinWrong : ChangeSpec := { name := "fnMarkupJoin", fn := fun _ => fun
  | [d1, d2] => { results := [.lit (.bool false)], args := [d1, d2] }
  | _ => none }
def FnMarkupJoinWrongFalsely : Prop := fnMarkupJoinRow.holds Try.pinned (OpenSpec.ofChange fnMarkupJoinWrong)

/-- 'laws.FnParseMarkup': WHATEVER THE INPUT: true; the input reads as it did. -/
def fnParseMarkupSpec : ChangeSpec := { name := "fnParseMarkup", fn := fun _ => fun
  | [d] => { results := [.lit (.bool true)], args := [d] }
  | _ => none }
def fnParseMarkupRow : OpenClaim := { program := "ytoenoaipjcmdnaa", sum := "ab74652eaad4ca634e698725b2ab6b69d30cd08bc237532c6fb3a52f65c834aa", func := "loop.example/collabdoc/laws.FnParseMarkup", spec := "fnParseMarkup", inPlace := ["internal/bytealg.IndexByteString", "internal/bytealg.IndexString", "internal/abi.NoEscape", "internal/bytealg.MakeNoZero"], named := ["internal/bytealg.MaxLen"], plainKeys := false, apart := false }
def FnParseMarkupSaid : Prop := fnParseMarkupRow.holds Try.pinned (OpenSpec.ofChange fnParseMarkupSpec)

/-- ITS FALSE NEIGHBOUR: 'it returns false'. Refute it at one input. -/
def fnParseMarkupWrong : ChangeSpec := { name := "fnParseMarkup", fn := fun _ => fun
  | [d] => { results := [.lit (.bool false)], args := [d] }
  | _ => none }
def FnParseMarkupWrongFalsely : Prop := fnParseMarkupRow.holds Try.pinned (OpenSpec.ofChange fnParseMarkupWrong)

/-- 'laws.FnMarkupCost': WHATEVER THE INPUT: true; the input reads as it did. -/
def fnMarkupCostSpec : ChangeSpec := { name := "fnMarkupCost", fn := fun _ => fun
  | [d] => { results := [.lit (.bool true)], args := [d] }
  | _ => none }
def fnMarkupCostRow : OpenClaim := { program := "ytoenoaipjcmdnaa", sum := "ab74652eaad4ca634e698725b2ab6b69d30cd08bc237532c6fb3a52f65c834aa", func := "loop.example/collabdoc/laws.FnMarkupCost", spec := "fnMarkupCost", inPlace := ["internal/bytealg.IndexByteString", "internal/bytealg.IndexString", "internal/abi.NoEscape", "internal/bytealg.MakeNoZero"], named := ["internal/bytealg.MaxLen"], plainKeys := false, apart := false }
def FnMarkupCostSaid : Prop := fnMarkupCostRow.holds Try.pinned (OpenSpec.ofChange fnMarkupCostSpec)

/-- ITS FALSE NEIGHBOUR: 'it returns false'. Refute it at one input. -/
def fnMarkupCostWrong : ChangeSpec := { name := "fnMarkupCost", fn := fun _ => fun
  | [d] => { results := [.lit (.bool false)], args := [d] }
  | _ => none }
def FnMarkupCostWrongFalsely : Prop := fnMarkupCostRow.holds Try.pinned (OpenSpec.ofChange fnMarkupCostWrong)

/-- 'laws.FnImportLimit': WHATEVER THE INPUT: true; the input reads as it did. -/
def fnImportLimitSpec : ChangeSpec := { name := "fnImportLimit", fn := fun _ => fun
  | [d] => { results := [.lit (.bool true)], args := [d] }
  | _ => none }
def fnImportLimitRow : OpenClaim := { program := "ytoenoaipjcmdnaa", sum := "ab74652eaad4ca634e698725b2ab6b69d30cd08bc237532c6fb3a52f65c834aa", func := "loop.example/collabdoc/laws.FnImportLimit", spec := "fnImportLimit", inPlace := ["internal/bytealg.IndexByteString", "internal/bytealg.IndexString", "internal/abi.NoEscape", "internal/bytealg.MakeNoZero"], unfollowed := true, recurses := true, named := ["internal/bytealg.MaxLen"], plainKeys := false, apart := false }
def FnImportLimitSaid : Prop := fnImportLimitRow.holds Try.pinned (OpenSpec.ofChange fnImportLimitSpec)

/-- ITS FALSE NEIGHBOUR: 'it returns false'. Refute it at one input. -/
def fnImportLimitWrong : ChangeSpec := { name := "fnImportLimit", fn := fun _ => fun
  | [d] => { results := [.lit (.bool false)], args := [d] }
  | _ => none }
def FnImportLimitWrongFalsely : Prop := fnImportLimitRow.holds Try.pinned (OpenSpec.ofChange fnImportLimitWrong)

/-- 'laws.FnExactImportMarkup': WHATEVER THE INPUT: true; the input reads as it did. -/
def fnExactImportMarkupSpec : ChangeSpec := { name := "fnExactImportMarkup", fn := fun _ => fun
  | [d1, d2] => { results := [.lit (.bool true)], args := [d1, d2] }
  | _ => none }
def fnExactImportMarkupRow : OpenClaim := { program := "ytoenoaipjcmdnaa", sum := "ab74652eaad4ca634e698725b2ab6b69d30cd08bc237532c6fb3a52f65c834aa", func := "loop.example/collabdoc/laws.FnExactImportMarkup", spec := "fnExactImportMarkup", inPlace := ["internal/bytealg.IndexByteString", "internal/bytealg.IndexString", "internal/abi.NoEscape", "internal/bytealg.MakeNoZero"], unfollowed := true, recurses := true, named := ["internal/bytealg.MaxLen"], plainKeys := false, apart := false }
def FnExactImportMarkupSaid : Prop := fnExactImportMarkupRow.holds Try.pinned (OpenSpec.ofChange fnExactImportMarkupSpec)

/-- ITS FALSE NEIGHBOUR: 'it returns false'. Refute it at one input. -/
def fnExactImportMarkupWrong : ChangeSpec := { name := "fnExactImportMarkup", fn := fun _ => fun
  | [d1, d2] => { results := [.lit (.bool false)], args := [d1, d2] }
  | _ => none }
def FnExactImportMarkupWrongFalsely : Prop := fnExactImportMarkupRow.holds Try.pinned (OpenSpec.ofChange fnExactImportMarkupWrong)

/- THE SECOND FORM. 'bulk': how many values and letters a reading holds, each counted each time it is reached (what is shared counts as often as it is met; a slice's spare places count too). A statement '..UptoSaid' is the law's where the arguments, and the package variables that the reading takes, are together of bulk at most 1048576: NARROWER than '..Said'. Prove '..Said' where nothing that the law and all that it calls make is longer than what came in: it says more and counts as full. Else prove '..UptoSaid'. A law counts once. -/
mutual
def uptoBulk {H : Type} : DataW H → Nat
  | .lit (.string bytes) => bytes.length + 1
  | .lit _ => 1
  | .nil => 1
  | .ptr d => uptoBulk d + 1
  | .slice elems spare => uptoBulkAll elems + uptoBulkAll spare + 1
  | .agg parts => uptoBulkAll parts + 1
  | .iface _ d => uptoBulk d + 1
  | .map entries => uptoBulkEntries entries + 1
  | .held _ => 1
def uptoBulkAll {H : Type} : List (DataW H) → Nat
  | [] => 0
  | d :: r => uptoBulk d + uptoBulkAll r
def uptoBulkEntries {H : Type} : List (Lit × DataW H) → Nat
  | [] => 0
  | x :: r => uptoBulkEntry x + uptoBulkEntries r
def uptoBulkEntry {H : Type} : Lit × DataW H → Nat
  | (.string bytes, d) => bytes.length + uptoBulk d + 1
  | (_, d) => uptoBulk d + 1
 end
def uptoSmall : (H : Type) → List (DataW H) → Bool := fun _ ds => decide (uptoBulkAll ds ≤ 1048576)
def OpenSpec.upto (s : _root_.Go.ChangeSpec) : _root_.Go.OpenSpec := { _root_.Go.OpenSpec.ofChange s with cond := some uptoSmall }

/-- 'laws.FnExactRowsMarkup', WHERE WHAT IT READS IS OF BULK AT MOST 1048576: true; the input reads as it did. -/
def fnExactRowsMarkupUptoRow : OpenClaim := { program := "ytoenoaipjcmdnaa", sum := "ab74652eaad4ca634e698725b2ab6b69d30cd08bc237532c6fb3a52f65c834aa", func := "loop.example/collabdoc/laws.FnExactRowsMarkup", spec := "fnExactRowsMarkup", inPlace := ["internal/abi.NoEscape", "internal/bytealg.MakeNoZero"], plainKeys := false, apart := false, narrowed := true }
def FnExactRowsMarkupUptoSaid : Prop := fnExactRowsMarkupUptoRow.holds Try.pinned (OpenSpec.upto fnExactRowsMarkupSpec)

/-- 'laws.FnExactMarkupCost', WHERE WHAT IT READS IS OF BULK AT MOST 1048576: true; the input reads as it did. -/
def fnExactMarkupCostUptoRow : OpenClaim := { program := "ytoenoaipjcmdnaa", sum := "ab74652eaad4ca634e698725b2ab6b69d30cd08bc237532c6fb3a52f65c834aa", func := "loop.example/collabdoc/laws.FnExactMarkupCost", spec := "fnExactMarkupCost", inPlace := ["internal/bytealg.IndexByteString", "internal/bytealg.IndexString", "internal/abi.NoEscape", "internal/bytealg.MakeNoZero"], named := ["internal/bytealg.MaxLen"], plainKeys := false, apart := false, narrowed := true }
def FnExactMarkupCostUptoSaid : Prop := fnExactMarkupCostUptoRow.holds Try.pinned (OpenSpec.upto fnExactMarkupCostSpec)

/-- 'laws.FnRowsMarkup', WHERE WHAT IT READS IS OF BULK AT MOST 1048576: true; the input reads as it did. -/
def fnRowsMarkupUptoRow : OpenClaim := { program := "ytoenoaipjcmdnaa", sum := "ab74652eaad4ca634e698725b2ab6b69d30cd08bc237532c6fb3a52f65c834aa", func := "loop.example/collabdoc/laws.FnRowsMarkup", spec := "fnRowsMarkup", inPlace := ["internal/abi.NoEscape", "internal/bytealg.MakeNoZero", "internal/bytealg.IndexByteString", "internal/bytealg.IndexString"], named := ["internal/bytealg.MaxLen"], plainKeys := false, apart := false, narrowed := true }
def FnRowsMarkupUptoSaid : Prop := fnRowsMarkupUptoRow.holds Try.pinned (OpenSpec.upto fnRowsMarkupSpec)

/-- 'laws.FnExactParseMarkup', WHERE WHAT IT READS IS OF BULK AT MOST 1048576: true; the input reads as it did. -/
def fnExactParseMarkupUptoRow : OpenClaim := { program := "ytoenoaipjcmdnaa", sum := "ab74652eaad4ca634e698725b2ab6b69d30cd08bc237532c6fb3a52f65c834aa", func := "loop.example/collabdoc/laws.FnExactParseMarkup", spec := "fnExactParseMarkup", inPlace := ["internal/bytealg.IndexByteString", "internal/bytealg.IndexString", "internal/abi.NoEscape", "internal/bytealg.MakeNoZero"], named := ["internal/bytealg.MaxLen"], plainKeys := false, apart := false, narrowed := true }
def FnExactParseMarkupUptoSaid : Prop := fnExactParseMarkupUptoRow.holds Try.pinned (OpenSpec.upto fnExactParseMarkupSpec)

/-- 'laws.FnMarkupJoin', WHERE WHAT IT READS IS OF BULK AT MOST 1048576: true; the input reads as it did. -/
def fnMarkupJoinUptoRow : OpenClaim := { program := "ytoenoaipjcmdnaa", sum := "ab74652eaad4ca634e698725b2ab6b69d30cd08bc237532c6fb3a52f65c834aa", func := "loop.example/collabdoc/laws.FnMarkupJoin", spec := "fnMarkupJoin", inPlace := ["internal/bytealg.IndexByteString", "internal/bytealg.IndexString", "internal/abi.NoEscape", "internal/bytealg.MakeNoZero"], named := ["internal/bytealg.MaxLen"], plainKeys := false, apart := false, narrowed := true }
def FnMarkupJoinUptoSaid : Prop := fnMarkupJoinUptoRow.holds Try.pinned (OpenSpec.upto fnMarkupJoinSpec)

/-- 'laws.FnParseMarkup', WHERE WHAT IT READS IS OF BULK AT MOST 1048576: true; the input reads as it did. -/
def fnParseMarkupUptoRow : OpenClaim := { program := "ytoenoaipjcmdnaa", sum := "ab74652eaad4ca634e698725b2ab6b69d30cd08bc237532c6fb3a52f65c834aa", func := "loop.example/collabdoc/laws.FnParseMarkup", spec := "fnParseMarkup", inPlace := ["internal/bytealg.IndexByteString", "internal/bytealg.IndexString", "internal/abi.NoEscape", "internal/bytealg.MakeNoZero"], named := ["internal/bytealg.MaxLen"], plainKeys := false, apart := false, narrowed := true }
def FnParseMarkupUptoSaid : Prop := fnParseMarkupUptoRow.holds Try.pinned (OpenSpec.upto fnParseMarkupSpec)

/-- 'laws.FnMarkupCost', WHERE WHAT IT READS IS OF BULK AT MOST 1048576: true; the input reads as it did. -/
def fnMarkupCostUptoRow : OpenClaim := { program := "ytoenoaipjcmdnaa", sum := "ab74652eaad4ca634e698725b2ab6b69d30cd08bc237532c6fb3a52f65c834aa", func := "loop.example/collabdoc/laws.FnMarkupCost", spec := "fnMarkupCost", inPlace := ["internal/bytealg.IndexByteString", "internal/bytealg.IndexString", "internal/abi.NoEscape", "internal/bytealg.MakeNoZero"], named := ["internal/bytealg.MaxLen"], plainKeys := false, apart := false, narrowed := true }
def FnMarkupCostUptoSaid : Prop := fnMarkupCostUptoRow.holds Try.pinned (OpenSpec.upto fnMarkupCostSpec)

/-- 'laws.FnImportLimit', WHERE WHAT IT READS IS OF BULK AT MOST 1048576: true; the input reads as it did. -/
def fnImportLimitUptoRow : OpenClaim := { program := "ytoenoaipjcmdnaa", sum := "ab74652eaad4ca634e698725b2ab6b69d30cd08bc237532c6fb3a52f65c834aa", func := "loop.example/collabdoc/laws.FnImportLimit", spec := "fnImportLimit", inPlace := ["internal/bytealg.IndexByteString", "internal/bytealg.IndexString", "internal/abi.NoEscape", "internal/bytealg.MakeNoZero"], unfollowed := true, recurses := true, named := ["internal/bytealg.MaxLen"], plainKeys := false, apart := false, narrowed := true }
def FnImportLimitUptoSaid : Prop := fnImportLimitUptoRow.holds Try.pinned (OpenSpec.upto fnImportLimitSpec)

/-- 'laws.FnExactImportMarkup', WHERE WHAT IT READS IS OF BULK AT MOST 1048576: true; the input reads as it did. -/
def fnExactImportMarkupUptoRow : OpenClaim := { program := "ytoenoaipjcmdnaa", sum := "ab74652eaad4ca634e698725b2ab6b69d30cd08bc237532c6fb3a52f65c834aa", func := "loop.example/collabdoc/laws.FnExactImportMarkup", spec := "fnExactImportMarkup", inPlace := ["internal/bytealg.IndexByteString", "internal/bytealg.IndexString", "internal/abi.NoEscape", "internal/bytealg.MakeNoZero"], unfollowed := true, recurses := true, named := ["internal/bytealg.MaxLen"], plainKeys := false, apart := false, narrowed := true }
def FnExactImportMarkupUptoSaid : Prop := fnExactImportMarkupUptoRow.holds Try.pinned (OpenSpec.upto fnExactImportMarkupSpec)

end Rows
end Go.Proofs.Ytoenoaipjcmdnaa
