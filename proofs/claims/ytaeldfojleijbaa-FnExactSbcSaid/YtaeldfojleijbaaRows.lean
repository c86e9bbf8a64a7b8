/-
  No cell of these rows narrows 'for every input' (looked for: loops, veiled, ifaces, maps, wideKeys, modest, calm, conditions, laid).
  DERIVED. THE GIVEN ROWS OF THIS SEAT. 12 by the template 'for every input the law returns true; each argument reads behind the call as it read before'; 0 by the template 'total and deterministic' (their statements: YtaeldfojleijbaaTotals.lean).
  GIVEN WITH THE SEED: the statements are not yours to turn. If you find one false, say at which input.
  Laid BY PROGRAM, IN A SANDBOX (cutbox-rows.mjs): the forced cells as the released guide's own fill.sh prints them over the translation 4fb5c1cf43d3ea14… (all of the seat's roots in one cut). By AI agents, Wed Nov 11 2026. No macro, syntax, notation, axiom, sorry.
-/
import Derived.Test.YtaeldfojleijbaaChecked
import GoSem.Claim
import GoSem.ClaimJoined
import GoSem.ClaimMapViews
import Derived.JoinedTies
import Derived.KernelRfl
namespace Go.Proofs.Ytaeldfojleijbaa
/- THE CELL 'sum', in the pinned program and in every row, IS THE sha256 OF THE DUMP (.gsa) THAT YtaeldfojleijbaaProg.lean LOADS. Nothing in Lean hashes anything: it is a label: what it is worth is what the hold of that sum in a sandbox is worth. -/
noncomputable def Try.pinned : Pinned := { name := "ytaeldfojleijbaa", sum := "4fb5c1cf43d3ea141a70d89328f6e4bb370036e9cf4117c3f4a45376007d5573", checked := Try.checked }
namespace Rows
def none {H : Type} : Left H := { results := [], args := [] }

/-- 'laws.FnExactConstants': WHATEVER THE INPUT: true; the input reads as it did. -/
def fnExactConstantsSpec : ChangeSpec := { name := "fnExactConstants", fn := fun _ => fun
  | [] => { results := [.lit (.bool true)], args := [] }
  | _ => none }
def fnExactConstantsRow : OpenClaim := { program := "ytaeldfojleijbaa", sum := "4fb5c1cf43d3ea141a70d89328f6e4bb370036e9cf4117c3f4a45376007d5573", func := "loop.example/g00693/laws.FnExactConstants", spec := "fnExactConstants", apart := false }
def FnExactConstantsSaid : Prop := fnExactConstantsRow.holds Try.pinned (OpenSpec.ofChange fnExactConstantsSpec)

/-- ITS FALSE NEIGHBOUR: 'it returns false'. Refute it at one input. -/
def fnExactConstantsWrong : ChangeSpec := { name := "fnExactConstants", fn := fun _ => fun
  | [] => { results := [.lit (.bool false)], args := [] }
  | _ => none }
def FnExactConstantsWrongFalsely : Prop := fnExactConstantsRow.holds Try.pinned (OpenSpec.ofChange fnExactConstantsWrong)

/-- 'laws.FnExactUnpackP': WHATEVER THE INPUT: true; the input reads as it did. -/
def fnExactUnpackPSpec : ChangeSpec := { name := "fnExactUnpackP", fn := fun _ => fun
  | [d] => { results := [.lit (.bool true)], args := [d] }
  | _ => none }
def fnExactUnpackPRow : OpenClaim := { program := "ytaeldfojleijbaa", sum := "4fb5c1cf43d3ea141a70d89328f6e4bb370036e9cf4117c3f4a45376007d5573", func := "loop.example/g00693/laws.FnExactUnpackP", spec := "fnExactUnpackP", apart := false }
def FnExactUnpackPSaid : Prop := fnExactUnpackPRow.holds Try.pinned (OpenSpec.ofChange fnExactUnpackPSpec)

/-- ITS FALSE NEIGHBOUR: 'it returns false'. Refute it at one input. -/
def fnExactUnpackPWrong : ChangeSpec := { name := "fnExactUnpackP", fn := fun _ => fun
  | [d] => { results := [.lit (.bool false)], args := [d] }
  | _ => none }
def FnExactUnpackPWrongFalsely : Prop := fnExactUnpackPRow.holds Try.pinned (OpenSpec.ofChange fnExactUnpackPWrong)

/-- 'laws.FnExactPackP': WHATEVER THE INPUT: true; the input reads as it did. -/
def fnExactPackPSpec : ChangeSpec := { name := "fnExactPackP", fn := fun _ => fun
  | [d1, d2] => { results := [.lit (.bool true)], args := [d1, d2] }
  | _ => none }
def fnExactPackPRow : OpenClaim := { program := "ytaeldfojleijbaa", sum := "4fb5c1cf43d3ea141a70d89328f6e4bb370036e9cf4117c3f4a45376007d5573", func := "loop.example/g00693/laws.FnExactPackP", spec := "fnExactPackP", apart := false }
def FnExactPackPSaid : Prop := fnExactPackPRow.holds Try.pinned (OpenSpec.ofChange fnExactPackPSpec)

/-- ITS FALSE NEIGHBOUR: 'it returns false'. Refute it at one input. -/
def fnExactPackPWrong : ChangeSpec := { name := "fnExactPackP", fn := fun _ => fun
  | [d1, d2] => { results := [.lit (.bool false)], args := [d1, d2] }
  | _ => none }
def FnExactPackPWrongFalsely : Prop := fnExactPackPRow.holds Try.pinned (OpenSpec.ofChange fnExactPackPWrong)

/-- 'laws.FnExactNZ': WHATEVER THE INPUT: true; the input reads as it did. -/
def fnExactNZSpec : ChangeSpec := { name := "fnExactNZ", fn := fun _ => fun
  | [d1, d2] => { results := [.lit (.bool true)], args := [d1, d2] }
  | _ => none }
def fnExactNZRow : OpenClaim := { program := "ytaeldfojleijbaa", sum := "4fb5c1cf43d3ea141a70d89328f6e4bb370036e9cf4117c3f4a45376007d5573", func := "loop.example/g00693/laws.FnExactNZ", spec := "fnExactNZ", apart := false }
def FnExactNZSaid : Prop := fnExactNZRow.holds Try.pinned (OpenSpec.ofChange fnExactNZSpec)

/-- ITS FALSE NEIGHBOUR: 'it returns false'. Refute it at one input. -/
def fnExactNZWrong : ChangeSpec := { name := "fnExactNZ", fn := fun _ => fun
  | [d1, d2] => { results := [.lit (.bool false)], args := [d1, d2] }
  | _ => none }
def FnExactNZWrongFalsely : Prop := fnExactNZRow.holds Try.pinned (OpenSpec.ofChange fnExactNZWrong)

/-- 'laws.FnExactBitTest': WHATEVER THE INPUT: true; the input reads as it did. -/
def fnExactBitTestSpec : ChangeSpec := { name := "fnExactBitTest", fn := fun _ => fun
  | [d1, d2, d3] => { results := [.lit (.bool true)], args := [d1, d2, d3] }
  | _ => none }
def fnExactBitTestRow : OpenClaim := { program := "ytaeldfojleijbaa", sum := "4fb5c1cf43d3ea141a70d89328f6e4bb370036e9cf4117c3f4a45376007d5573", func := "loop.example/g00693/laws.FnExactBitTest", spec := "fnExactBitTest", apart := false }
def FnExactBitTestSaid : Prop := fnExactBitTestRow.holds Try.pinned (OpenSpec.ofChange fnExactBitTestSpec)

/-- ITS FALSE NEIGHBOUR: 'it returns false'. Refute it at one input. -/
def fnExactBitTestWrong : ChangeSpec := { name := "fnExactBitTest", fn := fun _ => fun
  | [d1, d2, d3] => { results := [.lit (.bool false)], args := [d1, d2, d3] }
  | _ => none }
def FnExactBitTestWrongFalsely : Prop := fnExactBitTestRow.holds Try.pinned (OpenSpec.ofChange fnExactBitTestWrong)

/-- 'laws.FnExactCmp': WHATEVER THE INPUT: true; the input reads as it did. -/
def fnExactCmpSpec : ChangeSpec := { name := "fnExactCmp", fn := fun _ => fun
  | [d1, d2, d3] => { results := [.lit (.bool true)], args := [d1, d2, d3] }
  | _ => none }
def fnExactCmpRow : OpenClaim := { program := "ytaeldfojleijbaa", sum := "4fb5c1cf43d3ea141a70d89328f6e4bb370036e9cf4117c3f4a45376007d5573", func := "loop.example/g00693/laws.FnExactCmp", spec := "fnExactCmp", apart := false }
def FnExactCmpSaid : Prop := fnExactCmpRow.holds Try.pinned (OpenSpec.ofChange fnExactCmpSpec)

/-- ITS FALSE NEIGHBOUR: 'it returns false'. Refute it at one input. -/
def fnExactCmpWrong : ChangeSpec := { name := "fnExactCmp", fn := fun _ => fun
  | [d1, d2, d3] => { results := [.lit (.bool false)], args := [d1, d2, d3] }
  | _ => none }
def FnExactCmpWrongFalsely : Prop := fnExactCmpRow.holds Try.pinned (OpenSpec.ofChange fnExactCmpWrong)

/-- 'laws.FnExactAsl': WHATEVER THE INPUT: true; the input reads as it did. -/
def fnExactAslSpec : ChangeSpec := { name := "fnExactAsl", fn := fun _ => fun
  | [d1, d2] => { results := [.lit (.bool true)], args := [d1, d2] }
  | _ => none }
def fnExactAslRow : OpenClaim := { program := "ytaeldfojleijbaa", sum := "4fb5c1cf43d3ea141a70d89328f6e4bb370036e9cf4117c3f4a45376007d5573", func := "loop.example/g00693/laws.FnExactAsl", spec := "fnExactAsl", apart := false }
def FnExactAslSaid : Prop := fnExactAslRow.holds Try.pinned (OpenSpec.ofChange fnExactAslSpec)

/-- ITS FALSE NEIGHBOUR: 'it returns false'. Refute it at one input. -/
def fnExactAslWrong : ChangeSpec := { name := "fnExactAsl", fn := fun _ => fun
  | [d1, d2] => { results := [.lit (.bool false)], args := [d1, d2] }
  | _ => none }
def FnExactAslWrongFalsely : Prop := fnExactAslRow.holds Try.pinned (OpenSpec.ofChange fnExactAslWrong)

/-- 'laws.FnExactLsr': WHATEVER THE INPUT: true; the input reads as it did. -/
def fnExactLsrSpec : ChangeSpec := { name := "fnExactLsr", fn := fun _ => fun
  | [d1, d2] => { results := [.lit (.bool true)], args := [d1, d2] }
  | _ => none }
def fnExactLsrRow : OpenClaim := { program := "ytaeldfojleijbaa", sum := "4fb5c1cf43d3ea141a70d89328f6e4bb370036e9cf4117c3f4a45376007d5573", func := "loop.example/g00693/laws.FnExactLsr", spec := "fnExactLsr", apart := false }
def FnExactLsrSaid : Prop := fnExactLsrRow.holds Try.pinned (OpenSpec.ofChange fnExactLsrSpec)

/-- ITS FALSE NEIGHBOUR: 'it returns false'. Refute it at one input. -/
def fnExactLsrWrong : ChangeSpec := { name := "fnExactLsr", fn := fun _ => fun
  | [d1, d2] => { results := [.lit (.bool false)], args := [d1, d2] }
  | _ => none }
def FnExactLsrWrongFalsely : Prop := fnExactLsrRow.holds Try.pinned (OpenSpec.ofChange fnExactLsrWrong)

/-- 'laws.FnExactRol': WHATEVER THE INPUT: true; the input reads as it did. -/
def fnExactRolSpec : ChangeSpec := { name := "fnExactRol", fn := fun _ => fun
  | [d1, d2] => { results := [.lit (.bool true)], args := [d1, d2] }
  | _ => none }
def fnExactRolRow : OpenClaim := { program := "ytaeldfojleijbaa", sum := "4fb5c1cf43d3ea141a70d89328f6e4bb370036e9cf4117c3f4a45376007d5573", func := "loop.example/g00693/laws.FnExactRol", spec := "fnExactRol", apart := false }
def FnExactRolSaid : Prop := fnExactRolRow.holds Try.pinned (OpenSpec.ofChange fnExactRolSpec)

/-- ITS FALSE NEIGHBOUR: 'it returns false'. Refute it at one input. -/
def fnExactRolWrong : ChangeSpec := { name := "fnExactRol", fn := fun _ => fun
  | [d1, d2] => { results := [.lit (.bool false)], args := [d1, d2] }
  | _ => none }
def FnExactRolWrongFalsely : Prop := fnExactRolRow.holds Try.pinned (OpenSpec.ofChange fnExactRolWrong)

/-- 'laws.FnExactRor': WHATEVER THE INPUT: true; the input reads as it did. -/
def fnExactRorSpec : ChangeSpec := { name := "fnExactRor", fn := fun _ => fun
  | [d1, d2] => { results := [.lit (.bool true)], args := [d1, d2] }
  | _ => none }
def fnExactRorRow : OpenClaim := { program := "ytaeldfojleijbaa", sum := "4fb5c1cf43d3ea141a70d89328f6e4bb370036e9cf4117c3f4a45376007d5573", func := "loop.example/g00693/laws.FnExactRor", spec := "fnExactRor", apart := false }
def FnExactRorSaid : Prop := fnExactRorRow.holds Try.pinned (OpenSpec.ofChange fnExactRorSpec)

/-- ITS FALSE NEIGHBOUR: 'it returns false'. Refute it at one input. -/
def fnExactRorWrong : ChangeSpec := { name := "fnExactRor", fn := fun _ => fun
  | [d1, d2] => { results := [.lit (.bool false)], args := [d1, d2] }
  | _ => none }
def FnExactRorWrongFalsely : Prop := fnExactRorRow.holds Try.pinned (OpenSpec.ofChange fnExactRorWrong)

/-- 'laws.FnExactAdc': WHATEVER THE INPUT: true; the input reads as it did. -/
def fnExactAdcSpec : ChangeSpec := { name := "fnExactAdc", fn := fun _ => fun
  | [d1, d2, d3] => { results := [.lit (.bool true)], args := [d1, d2, d3] }
  | _ => none }
def fnExactAdcRow : OpenClaim := { program := "ytaeldfojleijbaa", sum := "4fb5c1cf43d3ea141a70d89328f6e4bb370036e9cf4117c3f4a45376007d5573", func := "loop.example/g00693/laws.FnExactAdc", spec := "fnExactAdc", apart := false }
def FnExactAdcSaid : Prop := fnExactAdcRow.holds Try.pinned (OpenSpec.ofChange fnExactAdcSpec)

/-- ITS FALSE NEIGHBOUR: 'it returns false'. Refute it at one input. -/
def fnExactAdcWrong : ChangeSpec := { name := "fnExactAdc", fn := fun _ => fun
  | [d1, d2, d3] => { results := [.lit (.bool false)], args := [d1, d2, d3] }
  | _ => none }
def FnExactAdcWrongFalsely : Prop := fnExactAdcRow.holds Try.pinned (OpenSpec.ofChange fnExactAdcWrong)

/-- 'laws.FnExactSbc': WHATEVER THE INPUT: true; the input reads as it did. -/
def fnExactSbcSpec : ChangeSpec := { name := "fnExactSbc", fn := fun _ => fun
  | [d1, d2, d3] => { results := [.lit (.bool true)], args := [d1, d2, d3] }
  | _ => none }
def fnExactSbcRow : OpenClaim := { program := "ytaeldfojleijbaa", sum := "4fb5c1cf43d3ea141a70d89328f6e4bb370036e9cf4117c3f4a45376007d5573", func := "loop.example/g00693/laws.FnExactSbc", spec := "fnExactSbc", apart := false }
def FnExactSbcSaid : Prop := fnExactSbcRow.holds Try.pinned (OpenSpec.ofChange fnExactSbcSpec)

/-- ITS FALSE NEIGHBOUR: 'it returns false'. Refute it at one input. -/
def fnExactSbcWrong : ChangeSpec := { name := "fnExactSbc", fn := fun _ => fun
  | [d1, d2, d3] => { results := [.lit (.bool false)], args := [d1, d2, d3] }
  | _ => none }
def FnExactSbcWrongFalsely : Prop := fnExactSbcRow.holds Try.pinned (OpenSpec.ofChange fnExactSbcWrong)

/- THE SECOND FORM. 'bulk': how many values and letters a reading holds, each counted each time it is reached (what is shared counts as often as it is met; a slice's spare places count too). A statement '..UptoSaid' is the law's where the arguments, and the package variables that the reading takes, are together of bulk at most 1048576: NARROWER than '..Said'. Prove '..Said' where nothing that the law and all that it calls make is longer than what came in: it says more and counts as full. Else prove '..UptoSaid'. A law counts once. -/
mutual
def uptoBulk {H : Type} : DataW H → Nat
  | .lit (.string bytes) => bytes.length + 1
  | .lit _ => 1
  | .nil => 1
  | .ptr d => uptoBulk d + 1
  | .slice elems spare => uptoBulkAll elems + uptoBulkAll spare + 1
  | .agg parts => uptoBulkAll parts + 1
  | .iface _ d => uptoBulk d + 1
  | .map entries => uptoBulkEntries entries + 1
  | .held _ => 1
def uptoBulkAll {H : Type} : List (DataW H) → Nat
  | [] => 0
  | d :: r => uptoBulk d + uptoBulkAll r
def uptoBulkEntries {H : Type} : List (Lit × DataW H) → Nat
  | [] => 0
  | x :: r => uptoBulkEntry x + uptoBulkEntries r
def uptoBulkEntry {H : Type} : Lit × DataW H → Nat
  | (.string bytes, d) => bytes.length + uptoBulk d + 1
  | (_, d) => uptoBulk d + 1
 end
def uptoSmall : (H : Type) → List (DataW H) → Bool := fun _ ds => decide (uptoBulkAll ds ≤ 1048576)
def OpenSpec.upto (s : _root_.Go.ChangeSpec) : _root_.Go.OpenSpec := { _root_.Go.OpenSpec.ofChange s with cond := some uptoSmall }

/-- 'laws.FnExactConstants', WHERE WHAT IT READS IS OF BULK AT MOST 1048576: true; the input reads as it did. -/
def fnExactConstantsUptoRow : OpenClaim := { program := "ytaeldfojleijbaa", sum := "4fb5c1cf43d3ea141a70d89328f6e4bb370036e9cf4117c3f4a45376007d5573", func := "loop.example/g00693/laws.FnExactConstants", spec := "fnExactConstants", apart := false, narrowed := true }
def FnExactConstantsUptoSaid : Prop := fnExactConstantsUptoRow.holds Try.pinned (OpenSpec.upto fnExactConstantsSpec)

/-- 'laws.FnExactUnpackP', WHERE WHAT IT READS IS OF BULK AT MOST 1048576: true; the input reads as it did. -/
def fnExactUnpackPUptoRow : OpenClaim := { program := "ytaeldfojleijbaa", sum := "4fb5c1cf43d3ea141a70d89328f6e4bb370036e9cf4117c3f4a45376007d5573", func := "loop.example/g00693/laws.FnExactUnpackP", spec := "fnExactUnpackP", apart := false, narrowed := true }
def FnExactUnpackPUptoSaid : Prop := fnExactUnpackPUptoRow.holds Try.pinned (OpenSpec.upto fnExactUnpackPSpec)

/-- 'laws.FnExactPackP', WHERE WHAT IT READS IS OF BULK AT MOST 1048576: true; the input reads as it did. -/
def fnExactPackPUptoRow : OpenClaim := { program := "ytaeldfojleijbaa", sum := "4fb5c1cf43d3ea141a70d89328f6e4bb370036e9cf4117c3f4a45376007d5573", func := "loop.example/g00693/laws.FnExactPackP", spec := "fnExactPackP", apart := false, narrowed := true }
def FnExactPackPUptoSaid : Prop := fnExactPackPUptoRow.holds Try.pinned (OpenSpec.upto fnExactPackPSpec)

/-- 'laws.FnExactNZ', WHERE WHAT IT READS IS OF BULK AT MOST 1048576: true; the input reads as it did. -/
def fnExactNZUptoRow : OpenClaim := { program := "ytaeldfojleijbaa", sum := "4fb5c1cf43d3ea141a70d89328f6e4bb370036e9cf4117c3f4a45376007d5573", func := "loop.example/g00693/laws.FnExactNZ", spec := "fnExactNZ", apart := false, narrowed := true }
def FnExactNZUptoSaid : Prop := fnExactNZUptoRow.holds Try.pinned (OpenSpec.upto fnExactNZSpec)

/-- 'laws.FnExactBitTest', WHERE WHAT IT READS IS OF BULK AT MOST 1048576: true; the input reads as it did. -/
def fnExactBitTestUptoRow : OpenClaim := { program := "ytaeldfojleijbaa", sum := "4fb5c1cf43d3ea141a70d89328f6e4bb370036e9cf4117c3f4a45376007d5573", func := "loop.example/g00693/laws.FnExactBitTest", spec := "fnExactBitTest", apart := false, narrowed := true }
def FnExactBitTestUptoSaid : Prop := fnExactBitTestUptoRow.holds Try.pinned (OpenSpec.upto fnExactBitTestSpec)

/-- 'laws.FnExactCmp', WHERE WHAT IT READS IS OF BULK AT MOST 1048576: true; the input reads as it did. -/
def fnExactCmpUptoRow : OpenClaim := { program := "ytaeldfojleijbaa", sum := "4fb5c1cf43d3ea141a70d89328f6e4bb370036e9cf4117c3f4a45376007d5573", func := "loop.example/g00693/laws.FnExactCmp", spec := "fnExactCmp", apart := false, narrowed := true }
def FnExactCmpUptoSaid : Prop := fnExactCmpUptoRow.holds Try.pinned (OpenSpec.upto fnExactCmpSpec)

/-- 'laws.FnExactAsl', WHERE WHAT IT READS IS OF BULK AT MOST 1048576: true; the input reads as it did. -/
def fnExactAslUptoRow : OpenClaim := { program := "ytaeldfojleijbaa", sum := "4fb5c1cf43d3ea141a70d89328f6e4bb370036e9cf4117c3f4a45376007d5573", func := "loop.example/g00693/laws.FnExactAsl", spec := "fnExactAsl", apart := false, narrowed := true }
def FnExactAslUptoSaid : Prop := fnExactAslUptoRow.holds Try.pinned (OpenSpec.upto fnExactAslSpec)

/-- 'laws.FnExactLsr', WHERE WHAT IT READS IS OF BULK AT MOST 1048576: true; the input reads as it did. -/
def fnExactLsrUptoRow : OpenClaim := { program := "ytaeldfojleijbaa", sum := "4fb5c1cf43d3ea141a70d89328f6e4bb370036e9cf4117c3f4a45376007d5573", func := "loop.example/g00693/laws.FnExactLsr", spec := "fnExactLsr", apart := false, narrowed := true }
def FnExactLsrUptoSaid : Prop := fnExactLsrUptoRow.holds Try.pinned (OpenSpec.upto fnExactLsrSpec)

/-- 'laws.FnExactRol', WHERE WHAT IT READS IS OF BULK AT MOST 1048576: true; the input reads as it did. -/
def fnExactRolUptoRow : OpenClaim := { program := "ytaeldfojleijbaa", sum := "4fb5c1cf43d3ea141a70d89328f6e4bb370036e9cf4117c3f4a45376007d5573", func := "loop.example/g00693/laws.FnExactRol", spec := "fnExactRol", apart := false, narrowed := true }
def FnExactRolUptoSaid : Prop := fnExactRolUptoRow.holds Try.pinned (OpenSpec.upto fnExactRolSpec)

/-- 'laws.FnExactRor', WHERE WHAT IT READS IS OF BULK AT MOST 1048576: true; the input reads as it did. -/
def fnExactRorUptoRow : OpenClaim := { program := "ytaeldfojleijbaa", sum := "4fb5c1cf43d3ea141a70d89328f6e4bb370036e9cf4117c3f4a45376007d5573", func := "loop.example/g00693/laws.FnExactRor", spec := "fnExactRor", apart := false, narrowed := true }
def FnExactRorUptoSaid : Prop := fnExactRorUptoRow.holds Try.pinned (OpenSpec.upto fnExactRorSpec)

/-- 'laws.FnExactAdc', WHERE WHAT IT READS IS OF BULK AT MOST 1048576: true; the input reads as it did. -/
def fnExactAdcUptoRow : OpenClaim := { program := "ytaeldfojleijbaa", sum := "4fb5c1cf43d3ea141a70d89328f6e4bb370036e9cf4117c3f4a45376007d5573", func := "loop.example/g00693/laws.FnExactAdc", spec := "fnExactAdc", apart := false, narrowed := true }
def FnExactAdcUptoSaid : Prop := fnExactAdcUptoRow.holds Try.pinned (OpenSpec.upto fnExactAdcSpec)

/-- 'laws.FnExactSbc', WHERE WHAT IT READS IS OF BULK AT MOST 1048576: true; the input reads as it did. -/
def fnExactSbcUptoRow : OpenClaim := { program := "ytaeldfojleijbaa", sum := "4fb5c1cf43d3ea141a70d89328f6e4bb370036e9cf4117c3f4a45376007d5573", func := "loop.example/g00693/laws.FnExactSbc", spec := "fnExactSbc", apart := false, narrowed := true }
def FnExactSbcUptoSaid : Prop := fnExactSbcUptoRow.holds Try.pinned (OpenSpec.upto fnExactSbcSpec)

end Rows
end Go.Proofs.Ytaeldfojleijbaa
