/-
  No cell of these rows narrows 'for every input' (looked for: loops, veiled, ifaces, maps, wideKeys, modest, calm, conditions, laid).
  DERIVED. THE GIVEN ROWS OF THIS SEAT. 12 by the template 'for every input the law returns true; each argument reads behind the call as it read before'; 0 by the template 'total and deterministic' (their statements: YtecccbecflbcfaaTotals.lean).
  GIVEN WITH THE SEED: the statements are not yours to turn. If you find one false, say at which input.
  Laid BY PROGRAM, IN A SANDBOX (cutbox-rows.mjs): the forced cells as the released guide's own fill.sh prints them over the translation 4a16b86f123b887d… (all of the seat's roots in one cut). By AI agents, Wed Nov 11 2026. No macro, syntax, notation, axiom, sorry.
-/
import Derived.Test.YtecccbecflbcfaaChecked
import GoSem.Claim
import GoSem.ClaimJoined
import GoSem.ClaimMapViews
import Derived.JoinedTies
import Derived.KernelRfl
namespace Go.Proofs.Ytecccbecflbcfaa
/- THE CELL 'sum', in the pinned program and in every row, IS THE sha256 OF THE DUMP (.gsa) THAT YtecccbecflbcfaaProg.lean LOADS. Nothing in Lean hashes anything: it is a label: what it is worth is what the hold of that sum in a sandbox is worth. -/
noncomputable def Try.pinned : Pinned := { name := "ytecccbecflbcfaa", sum := "4a16b86f123b887ddea971d9dfc8df2cb6432b6473d0c095f16a8d0f71fe622d", checked := Try.checked }
namespace Rows
def none {H : Type} : Left H := { results := [], args := [] }

/-- 'laws.FnExactOnlyPC': WHATEVER THE INPUT: true; the input reads as it did. -/
def fnExactOnlyPCSpec : ChangeSpec := { name := "fnExactOnlyPC", fn := fun _ => fun
  | [d] => { results := [.lit (.bool true)], args := [d] }
  | _ => none }
def fnExactOnlyPCRow : OpenClaim := { program := "ytecccbecflbcfaa", sum := "4a16b86f123b887ddea971d9dfc8df2cb6432b6473d0c095f16a8d0f71fe622d", func := "loop.example/g00693/laws.FnExactOnlyPC", spec := "fnExactOnlyPC", apart := false }
def FnExactOnlyPCSaid : Prop := fnExactOnlyPCRow.holds Try.pinned (OpenSpec.ofChange fnExactOnlyPCSpec)

/-- ITS FALSE NEIGHBOUR: 'it returns false'. Refute it at one input. -/
def fnExactOnlyPCWrong : ChangeSpec := { name := "fnExactOnlyPC", fn := fun _ => fun
  | [d] => { results := [.lit (.bool false)], args := [d] }
  | _ => none }
def FnExactOnlyPCWrongFalsely : Prop := fnExactOnlyPCRow.holds Try.pinned (OpenSpec.ofChange fnExactOnlyPCWrong)

/-- 'laws.FnExactKnowOk': WHATEVER THE INPUT: true; the input reads as it did. -/
def fnExactKnowOkSpec : ChangeSpec := { name := "fnExactKnowOk", fn := fun _ => fun
  | [d] => { results := [.lit (.bool true)], args := [d] }
  | _ => none }
def fnExactKnowOkRow : OpenClaim := { program := "ytecccbecflbcfaa", sum := "4a16b86f123b887ddea971d9dfc8df2cb6432b6473d0c095f16a8d0f71fe622d", func := "loop.example/g00693/laws.FnExactKnowOk", spec := "fnExactKnowOk", apart := false }
def FnExactKnowOkSaid : Prop := fnExactKnowOkRow.holds Try.pinned (OpenSpec.ofChange fnExactKnowOkSpec)

/-- ITS FALSE NEIGHBOUR: 'it returns false'. Refute it at one input. -/
def fnExactKnowOkWrong : ChangeSpec := { name := "fnExactKnowOk", fn := fun _ => fun
  | [d] => { results := [.lit (.bool false)], args := [d] }
  | _ => none }
def FnExactKnowOkWrongFalsely : Prop := fnExactKnowOkRow.holds Try.pinned (OpenSpec.ofChange fnExactKnowOkWrong)

/-- 'laws.FnExactLess': WHATEVER THE INPUT: true; the input reads as it did. -/
def fnExactLessSpec : ChangeSpec := { name := "fnExactLess", fn := fun _ => fun
  | [d1, d2] => { results := [.lit (.bool true)], args := [d1, d2] }
  | _ => none }
def fnExactLessRow : OpenClaim := { program := "ytecccbecflbcfaa", sum := "4a16b86f123b887ddea971d9dfc8df2cb6432b6473d0c095f16a8d0f71fe622d", func := "loop.example/g00693/laws.FnExactLess", spec := "fnExactLess", apart := false }
def FnExactLessSaid : Prop := fnExactLessRow.holds Try.pinned (OpenSpec.ofChange fnExactLessSpec)

/-- ITS FALSE NEIGHBOUR: 'it returns false'. Refute it at one input. -/
def fnExactLessWrong : ChangeSpec := { name := "fnExactLess", fn := fun _ => fun
  | [d1, d2] => { results := [.lit (.bool false)], args := [d1, d2] }
  | _ => none }
def FnExactLessWrongFalsely : Prop := fnExactLessRow.holds Try.pinned (OpenSpec.ofChange fnExactLessWrong)

/-- 'laws.FnExactKnowOf': WHATEVER THE INPUT: true; the input reads as it did. -/
def fnExactKnowOfSpec : ChangeSpec := { name := "fnExactKnowOf", fn := fun _ => fun
  | [d] => { results := [.lit (.bool true)], args := [d] }
  | _ => none }
def fnExactKnowOfRow : OpenClaim := { program := "ytecccbecflbcfaa", sum := "4a16b86f123b887ddea971d9dfc8df2cb6432b6473d0c095f16a8d0f71fe622d", func := "loop.example/g00693/laws.FnExactKnowOf", spec := "fnExactKnowOf", apart := false }
def FnExactKnowOfSaid : Prop := fnExactKnowOfRow.holds Try.pinned (OpenSpec.ofChange fnExactKnowOfSpec)

/-- ITS FALSE NEIGHBOUR: 'it returns false'. Refute it at one input. -/
def fnExactKnowOfWrong : ChangeSpec := { name := "fnExactKnowOf", fn := fun _ => fun
  | [d] => { results := [.lit (.bool false)], args := [d] }
  | _ => none }
def FnExactKnowOfWrongFalsely : Prop := fnExactKnowOfRow.holds Try.pinned (OpenSpec.ofChange fnExactKnowOfWrong)

/-- 'laws.FnExactKnown': WHATEVER THE INPUT: true; the input reads as it did. -/
def fnExactKnownSpec : ChangeSpec := { name := "fnExactKnown", fn := fun _ => fun
  | [d] => { results := [.lit (.bool true)], args := [d] }
  | _ => none }
def fnExactKnownRow : OpenClaim := { program := "ytecccbecflbcfaa", sum := "4a16b86f123b887ddea971d9dfc8df2cb6432b6473d0c095f16a8d0f71fe622d", func := "loop.example/g00693/laws.FnExactKnown", spec := "fnExactKnown", apart := false }
def FnExactKnownSaid : Prop := fnExactKnownRow.holds Try.pinned (OpenSpec.ofChange fnExactKnownSpec)

/-- ITS FALSE NEIGHBOUR: 'it returns false'. Refute it at one input. -/
def fnExactKnownWrong : ChangeSpec := { name := "fnExactKnown", fn := fun _ => fun
  | [d] => { results := [.lit (.bool false)], args := [d] }
  | _ => none }
def FnExactKnownWrongFalsely : Prop := fnExactKnownRow.holds Try.pinned (OpenSpec.ofChange fnExactKnownWrong)

/-- 'laws.FnExactAgrees': WHATEVER THE INPUT: true; the input reads as it did. -/
def fnExactAgreesSpec : ChangeSpec := { name := "fnExactAgrees", fn := fun _ => fun
  | [d1, d2] => { results := [.lit (.bool true)], args := [d1, d2] }
  | _ => none }
def fnExactAgreesRow : OpenClaim := { program := "ytecccbecflbcfaa", sum := "4a16b86f123b887ddea971d9dfc8df2cb6432b6473d0c095f16a8d0f71fe622d", func := "loop.example/g00693/laws.FnExactAgrees", spec := "fnExactAgrees", apart := false }
def FnExactAgreesSaid : Prop := fnExactAgreesRow.holds Try.pinned (OpenSpec.ofChange fnExactAgreesSpec)

/-- ITS FALSE NEIGHBOUR: 'it returns false'. Refute it at one input. -/
def fnExactAgreesWrong : ChangeSpec := { name := "fnExactAgrees", fn := fun _ => fun
  | [d1, d2] => { results := [.lit (.bool false)], args := [d1, d2] }
  | _ => none }
def FnExactAgreesWrongFalsely : Prop := fnExactAgreesRow.holds Try.pinned (OpenSpec.ofChange fnExactAgreesWrong)

/-- 'laws.FnExactMeet': WHATEVER THE INPUT: true; the input reads as it did. -/
def fnExactMeetSpec : ChangeSpec := { name := "fnExactMeet", fn := fun _ => fun
  | [d1, d2] => { results := [.lit (.bool true)], args := [d1, d2] }
  | _ => none }
def fnExactMeetRow : OpenClaim := { program := "ytecccbecflbcfaa", sum := "4a16b86f123b887ddea971d9dfc8df2cb6432b6473d0c095f16a8d0f71fe622d", func := "loop.example/g00693/laws.FnExactMeet", spec := "fnExactMeet", apart := false }
def FnExactMeetSaid : Prop := fnExactMeetRow.holds Try.pinned (OpenSpec.ofChange fnExactMeetSpec)

/-- ITS FALSE NEIGHBOUR: 'it returns false'. Refute it at one input. -/
def fnExactMeetWrong : ChangeSpec := { name := "fnExactMeet", fn := fun _ => fun
  | [d1, d2] => { results := [.lit (.bool false)], args := [d1, d2] }
  | _ => none }
def FnExactMeetWrongFalsely : Prop := fnExactMeetRow.holds Try.pinned (OpenSpec.ofChange fnExactMeetWrong)

/-- 'laws.FnExactKnowText': WHATEVER THE INPUT: true; the input reads as it did. -/
def fnExactKnowTextSpec : ChangeSpec := { name := "fnExactKnowText", fn := fun _ => fun
  | [d] => { results := [.lit (.bool true)], args := [d] }
  | _ => none }
def fnExactKnowTextRow : OpenClaim := { program := "ytecccbecflbcfaa", sum := "4a16b86f123b887ddea971d9dfc8df2cb6432b6473d0c095f16a8d0f71fe622d", func := "loop.example/g00693/laws.FnExactKnowText", spec := "fnExactKnowText", inPlace := ["internal/abi.NoEscape", "internal/bytealg.MakeNoZero"], apart := false }
def FnExactKnowTextSaid : Prop := fnExactKnowTextRow.holds Try.pinned (OpenSpec.ofChange fnExactKnowTextSpec)

/-- ITS FALSE NEIGHBOUR: 'it returns false'. Refute it at one input. -/
def fnExactKnowTextWrong : ChangeSpec := { name := "fnExactKnowText", fn := fun _ => fun
  | [d] => { results := [.lit (.bool false)], args := [d] }
  | _ => none }
def FnExactKnowTextWrongFalsely : Prop := fnExactKnowTextRow.holds Try.pinned (OpenSpec.ofChange fnExactKnowTextWrong)

/-- 'laws.FnMeet': WHATEVER THE INPUT: true; the input reads as it did. -/
def fnMeetSpec : ChangeSpec := { name := "fnMeet", fn := fun _ => fun
  | [d] => { results := [.lit (.bool true)], args := [d] }
  | _ => none }
def fnMeetRow : OpenClaim := { program := "ytecccbecflbcfaa", sum := "4a16b86f123b887ddea971d9dfc8df2cb6432b6473d0c095f16a8d0f71fe622d", func := "loop.example/g00693/laws.FnMeet", spec := "fnMeet", apart := false }
def FnMeetSaid : Prop := fnMeetRow.holds Try.pinned (OpenSpec.ofChange fnMeetSpec)

/-- ITS FALSE NEIGHBOUR: 'it returns false'. Refute it at one input. -/
def fnMeetWrong : ChangeSpec := { name := "fnMeet", fn := fun _ => fun
  | [d] => { results := [.lit (.bool false)], args := [d] }
  | _ => none }
def FnMeetWrongFalsely : Prop := fnMeetRow.holds Try.pinned (OpenSpec.ofChange fnMeetWrong)

/-- 'laws.FnLess': WHATEVER THE INPUT: true; the input reads as it did. -/
def fnLessSpec : ChangeSpec := { name := "fnLess", fn := fun _ => fun
  | [d] => { results := [.lit (.bool true)], args := [d] }
  | _ => none }
def fnLessRow : OpenClaim := { program := "ytecccbecflbcfaa", sum := "4a16b86f123b887ddea971d9dfc8df2cb6432b6473d0c095f16a8d0f71fe622d", func := "loop.example/g00693/laws.FnLess", spec := "fnLess", apart := false }
def FnLessSaid : Prop := fnLessRow.holds Try.pinned (OpenSpec.ofChange fnLessSpec)

/-- ITS FALSE NEIGHBOUR: 'it returns false'. Refute it at one input. -/
def fnLessWrong : ChangeSpec := { name := "fnLess", fn := fun _ => fun
  | [d] => { results := [.lit (.bool false)], args := [d] }
  | _ => none }
def FnLessWrongFalsely : Prop := fnLessRow.holds Try.pinned (OpenSpec.ofChange fnLessWrong)

/-- 'laws.FnKnowText': WHATEVER THE INPUT: true; the input reads as it did. -/
def fnKnowTextSpec : ChangeSpec := { name := "fnKnowText", fn := fun _ => fun
  | [d] => { results := [.lit (.bool true)], args := [d] }
  | _ => none }
def fnKnowTextRow : OpenClaim := { program := "ytecccbecflbcfaa", sum := "4a16b86f123b887ddea971d9dfc8df2cb6432b6473d0c095f16a8d0f71fe622d", func := "loop.example/g00693/laws.FnKnowText", spec := "fnKnowText", inPlace := ["internal/abi.NoEscape", "internal/bytealg.MakeNoZero", "internal/bytealg.IndexByteString"], apart := false }
def FnKnowTextSaid : Prop := fnKnowTextRow.holds Try.pinned (OpenSpec.ofChange fnKnowTextSpec)

/-- ITS FALSE NEIGHBOUR: 'it returns false'. Refute it at one input. -/
def fnKnowTextWrong : ChangeSpec := { name := "fnKnowText", fn := fun _ => fun
  | [d] => { results := [.lit (.bool false)], args := [d] }
  | _ => none }
def FnKnowTextWrongFalsely : Prop := fnKnowTextRow.holds Try.pinned (OpenSpec.ofChange fnKnowTextWrong)

/-- 'laws.FnCpuText': WHATEVER THE INPUT: true; the input reads as it did. -/
def fnCpuTextSpec : ChangeSpec := { name := "fnCpuText", fn := fun _ => fun
  | [d] => { results := [.lit (.bool true)], args := [d] }
  | _ => none }
def fnCpuTextRow : OpenClaim := { program := "ytecccbecflbcfaa", sum := "4a16b86f123b887ddea971d9dfc8df2cb6432b6473d0c095f16a8d0f71fe622d", func := "loop.example/g00693/laws.FnCpuText", spec := "fnCpuText", inPlace := ["internal/abi.NoEscape", "internal/bytealg.MakeNoZero", "internal/bytealg.IndexByteString"], apart := false }
def FnCpuTextSaid : Prop := fnCpuTextRow.holds Try.pinned (OpenSpec.ofChange fnCpuTextSpec)

/-- ITS FALSE NEIGHBOUR: 'it returns false'. Refute it at one input. -/
def fnCpuTextWrong : ChangeSpec := { name := "fnCpuText", fn := fun _ => fun
  | [d] => { results := [.lit (.bool false)], args := [d] }
  | _ => none }
def FnCpuTextWrongFalsely : Prop := fnCpuTextRow.holds Try.pinned (OpenSpec.ofChange fnCpuTextWrong)

/- THE SECOND FORM. 'bulk': how many values and letters a reading holds, each counted each time it is reached (what is shared counts as often as it is met; a slice's spare places count too). A statement '..UptoSaid' is the law's where the arguments, and the package variables that the reading takes, are together of bulk at most 1048576: NARROWER than '..Said'. Prove '..Said' where nothing that the law and all that it calls make is longer than what came in: it says more and counts as full. Else prove '..UptoSaid'. A law counts once. -/
mutual
def uptoBulk {H : Type} : DataW H → Nat
  | .lit (.string bytes) => bytes.length + 1
  | .lit _ => 1
  | .nil => 1
  | .ptr d => uptoBulk d + 1
  | .slice elems spare => uptoBulkAll elems + uptoBulkAll spare + 1
  | .agg parts => uptoBulkAll parts + 1
  | .iface _ d => uptoBulk d + 1
  | .map entries => uptoBulkEntries entries + 1
  | .held _ => 1
def uptoBulkAll {H : Type} : List (DataW H) → Nat
  | [] => 0
  | d :: r => uptoBulk d + uptoBulkAll r
def uptoBulkEntries {H : Type} : List (Lit × DataW H) → Nat
  | [] => 0
  | x :: r => uptoBulkEntry x + uptoBulkEntries r
def uptoBulkEntry {H : Type} : Lit × DataW H → Nat
  | (.string bytes, d) => bytes.length + uptoBulk d + 1
  | (_, d) => uptoBulk d + 1
 end
def uptoSmall : (H : Type) → List (DataW H) → Bool := fun _ ds => decide (uptoBulkAll ds ≤ 1048576)
def OpenSpec.upto (s : _root_.Go.ChangeSpec) : _root_.Go.OpenSpec := { _root_.Go.OpenSpec.ofChange s with cond := some uptoSmall }

/-- 'laws.FnExactOnlyPC', WHERE WHAT IT READS IS OF BULK AT MOST 1048576: true; the input reads as it did. -/
def fnExactOnlyPCUptoRow : OpenClaim := { program := "ytecccbecflbcfaa", sum := "4a16b86f123b887ddea971d9dfc8df2cb6432b6473d0c095f16a8d0f71fe622d", func := "loop.example/g00693/laws.FnExactOnlyPC", spec := "fnExactOnlyPC", apart := false, narrowed := true }
def FnExactOnlyPCUptoSaid : Prop := fnExactOnlyPCUptoRow.holds Try.pinned (OpenSpec.upto fnExactOnlyPCSpec)

/-- 'laws.FnExactKnowOk', WHERE WHAT IT READS IS OF BULK AT MOST 1048576: true; the input reads as it did. -/
def fnExactKnowOkUptoRow : OpenClaim := { program := "ytecccbecflbcfaa", sum := "4a16b86f123b887ddea971d9dfc8df2cb6432b6473d0c095f16a8d0f71fe622d", func := "loop.example/g00693/laws.FnExactKnowOk", spec := "fnExactKnowOk", apart := false, narrowed := true }
def FnExactKnowOkUptoSaid : Prop := fnExactKnowOkUptoRow.holds Try.pinned (OpenSpec.upto fnExactKnowOkSpec)

/-- 'laws.FnExactLess', WHERE WHAT IT READS IS OF BULK AT MOST 1048576: true; the input reads as it did. -/
def fnExactLessUptoRow : OpenClaim := { program := "ytecccbecflbcfaa", sum := "4a16b86f123b887ddea971d9dfc8df2cb6432b6473d0c095f16a8d0f71fe622d", func := "loop.example/g00693/laws.FnExactLess", spec := "fnExactLess", apart := false, narrowed := true }
def FnExactLessUptoSaid : Prop := fnExactLessUptoRow.holds Try.pinned (OpenSpec.upto fnExactLessSpec)

/-- 'laws.FnExactKnowOf', WHERE WHAT IT READS IS OF BULK AT MOST 1048576: true; the input reads as it did. -/
def fnExactKnowOfUptoRow : OpenClaim := { program := "ytecccbecflbcfaa", sum := "4a16b86f123b887ddea971d9dfc8df2cb6432b6473d0c095f16a8d0f71fe622d", func := "loop.example/g00693/laws.FnExactKnowOf", spec := "fnExactKnowOf", apart := false, narrowed := true }
def FnExactKnowOfUptoSaid : Prop := fnExactKnowOfUptoRow.holds Try.pinned (OpenSpec.upto fnExactKnowOfSpec)

/-- 'laws.FnExactKnown', WHERE WHAT IT READS IS OF BULK AT MOST 1048576: true; the input reads as it did. -/
def fnExactKnownUptoRow : OpenClaim := { program := "ytecccbecflbcfaa", sum := "4a16b86f123b887ddea971d9dfc8df2cb6432b6473d0c095f16a8d0f71fe622d", func := "loop.example/g00693/laws.FnExactKnown", spec := "fnExactKnown", apart := false, narrowed := true }
def FnExactKnownUptoSaid : Prop := fnExactKnownUptoRow.holds Try.pinned (OpenSpec.upto fnExactKnownSpec)

/-- 'laws.FnExactAgrees', WHERE WHAT IT READS IS OF BULK AT MOST 1048576: true; the input reads as it did. -/
def fnExactAgreesUptoRow : OpenClaim := { program := "ytecccbecflbcfaa", sum := "4a16b86f123b887ddea971d9dfc8df2cb6432b6473d0c095f16a8d0f71fe622d", func := "loop.example/g00693/laws.FnExactAgrees", spec := "fnExactAgrees", apart := false, narrowed := true }
def FnExactAgreesUptoSaid : Prop := fnExactAgreesUptoRow.holds Try.pinned (OpenSpec.upto fnExactAgreesSpec)

/-- 'laws.FnExactMeet', WHERE WHAT IT READS IS OF BULK AT MOST 1048576: true; the input reads as it did. -/
def fnExactMeetUptoRow : OpenClaim := { program := "ytecccbecflbcfaa", sum := "4a16b86f123b887ddea971d9dfc8df2cb6432b6473d0c095f16a8d0f71fe622d", func := "loop.example/g00693/laws.FnExactMeet", spec := "fnExactMeet", apart := false, narrowed := true }
def FnExactMeetUptoSaid : Prop := fnExactMeetUptoRow.holds Try.pinned (OpenSpec.upto fnExactMeetSpec)

/-- 'laws.FnExactKnowText', WHERE WHAT IT READS IS OF BULK AT MOST 1048576: true; the input reads as it did. -/
def fnExactKnowTextUptoRow : OpenClaim := { program := "ytecccbecflbcfaa", sum := "4a16b86f123b887ddea971d9dfc8df2cb6432b6473d0c095f16a8d0f71fe622d", func := "loop.example/g00693/laws.FnExactKnowText", spec := "fnExactKnowText", inPlace := ["internal/abi.NoEscape", "internal/bytealg.MakeNoZero"], apart := false, narrowed := true }
def FnExactKnowTextUptoSaid : Prop := fnExactKnowTextUptoRow.holds Try.pinned (OpenSpec.upto fnExactKnowTextSpec)

/-- 'laws.FnMeet', WHERE WHAT IT READS IS OF BULK AT MOST 1048576: true; the input reads as it did. -/
def fnMeetUptoRow : OpenClaim := { program := "ytecccbecflbcfaa", sum := "4a16b86f123b887ddea971d9dfc8df2cb6432b6473d0c095f16a8d0f71fe622d", func := "loop.example/g00693/laws.FnMeet", spec := "fnMeet", apart := false, narrowed := true }
def FnMeetUptoSaid : Prop := fnMeetUptoRow.holds Try.pinned (OpenSpec.upto fnMeetSpec)

/-- 'laws.FnLess', WHERE WHAT IT READS IS OF BULK AT MOST 1048576: true; the input reads as it did. -/
def fnLessUptoRow : OpenClaim := { program := "ytecccbecflbcfaa", sum := "4a16b86f123b887ddea971d9dfc8df2cb6432b6473d0c095f16a8d0f71fe622d", func := "loop.example/g00693/laws.FnLess", spec := "fnLess", apart := false, narrowed := true }
def FnLessUptoSaid : Prop := fnLessUptoRow.holds Try.pinned (OpenSpec.upto fnLessSpec)

/-- 'laws.FnKnowText', WHERE WHAT IT READS IS OF BULK AT MOST 1048576: true; the input reads as it did. -/
def fnKnowTextUptoRow : OpenClaim := { program := "ytecccbecflbcfaa", sum := "4a16b86f123b887ddea971d9dfc8df2cb6432b6473d0c095f16a8d0f71fe622d", func := "loop.example/g00693/laws.FnKnowText", spec := "fnKnowText", inPlace := ["internal/abi.NoEscape", "internal/bytealg.MakeNoZero", "internal/bytealg.IndexByteString"], apart := false, narrowed := true }
def FnKnowTextUptoSaid : Prop := fnKnowTextUptoRow.holds Try.pinned (OpenSpec.upto fnKnowTextSpec)

/-- 'laws.FnCpuText', WHERE WHAT IT READS IS OF BULK AT MOST 1048576: true; the input reads as it did. -/
def fnCpuTextUptoRow : OpenClaim := { program := "ytecccbecflbcfaa", sum := "4a16b86f123b887ddea971d9dfc8df2cb6432b6473d0c095f16a8d0f71fe622d", func := "loop.example/g00693/laws.FnCpuText", spec := "fnCpuText", inPlace := ["internal/abi.NoEscape", "internal/bytealg.MakeNoZero", "internal/bytealg.IndexByteString"], apart := false, narrowed := true }
def FnCpuTextUptoSaid : Prop := fnCpuTextUptoRow.holds Try.pinned (OpenSpec.upto fnCpuTextSpec)

end Rows
end Go.Proofs.Ytecccbecflbcfaa
