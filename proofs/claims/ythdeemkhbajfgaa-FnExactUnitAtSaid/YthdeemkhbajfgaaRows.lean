/-
  No cell of these rows narrows 'for every input' (looked for: loops, veiled, ifaces, maps, wideKeys, modest, calm, conditions, laid).
  DERIVED. THE GIVEN ROWS OF THIS SEAT. 11 by the template 'for every input the law returns true; each argument reads behind the call as it read before'; 0 by the template 'total and deterministic' (their statements: YthdeemkhbajfgaaTotals.lean).
  GIVEN WITH THE SEED: the statements are not yours to turn. If you find one false, say at which input.
  Laid BY PROGRAM, IN A SANDBOX (cutbox-rows.mjs): the forced cells as the released guide's own fill.sh prints them over the translation 087125facfdf3068… (all of the seat's roots in one cut). By AI agents, Wed Nov 11 2026. No macro, syntax, notation, axiom, sorry.
-/
import Derived.Test.YthdeemkhbajfgaaChecked
import GoSem.Claim
import GoSem.ClaimJoined
import GoSem.ClaimMapViews
import Derived.JoinedTies
import Derived.KernelRfl
namespace Go.Proofs.Ythdeemkhbajfgaa
/- THE CELL 'sum', in the pinned program and in every row, IS THE sha256 OF THE DUMP (.gsa) THAT YthdeemkhbajfgaaProg.lean LOADS. Nothing in Lean hashes anything: it is a label: what it is worth is what the hold of that sum in a sandbox is worth. -/
noncomputable def Try.pinned : Pinned := { name := "ythdeemkhbajfgaa", sum := "087125facfdf3068efe376f79625d33079e1477560b0ad22905b4ed482bc822c", checked := Try.checked }
namespace Rows
def none {H : Type} : Left H := { results := [], args := [] }

/-- 'laws.FnExactRamOk': WHATEVER THE INPUT: true; the input reads as it did. -/
def fnExactRamOkSpec : ChangeSpec := { name := "fnExactRamOk", fn := fun _ => fun
  | [d] => { results := [.lit (.bool true)], args := [d] }
  | _ => none }
def fnExactRamOkRow : OpenClaim := { program := "ythdeemkhbajfgaa", sum := "087125facfdf3068efe376f79625d33079e1477560b0ad22905b4ed482bc822c", func := "loop.example/g00693/laws.FnExactRamOk", spec := "fnExactRamOk", apart := false }
def FnExactRamOkSaid : Prop := fnExactRamOkRow.holds Try.pinned (OpenSpec.ofChange fnExactRamOkSpec)

/-- ITS FALSE NEIGHBOUR: 'it returns false'. Refute it at one input. -/
def fnExactRamOkWrong : ChangeSpec := { name := "fnExactRamOk", fn := fun _ => fun
  | [d] => { results := [.lit (.bool false)], args := [d] }
  | _ => none }
def FnExactRamOkWrongFalsely : Prop := fnExactRamOkRow.holds Try.pinned (OpenSpec.ofChange fnExactRamOkWrong)

/-- 'laws.FnExactNewRam': WHATEVER THE INPUT: true; the input reads as it did. -/
def fnExactNewRamSpec : ChangeSpec := { name := "fnExactNewRam", fn := fun _ => fun
  | [d] => { results := [.lit (.bool true)], args := [d] }
  | _ => none }
def fnExactNewRamRow : OpenClaim := { program := "ythdeemkhbajfgaa", sum := "087125facfdf3068efe376f79625d33079e1477560b0ad22905b4ed482bc822c", func := "loop.example/g00693/laws.FnExactNewRam", spec := "fnExactNewRam", apart := false }
def FnExactNewRamSaid : Prop := fnExactNewRamRow.holds Try.pinned (OpenSpec.ofChange fnExactNewRamSpec)

/-- ITS FALSE NEIGHBOUR: 'it returns false'. Refute it at one input. -/
def fnExactNewRamWrong : ChangeSpec := { name := "fnExactNewRam", fn := fun _ => fun
  | [d] => { results := [.lit (.bool false)], args := [d] }
  | _ => none }
def FnExactNewRamWrongFalsely : Prop := fnExactNewRamRow.holds Try.pinned (OpenSpec.ofChange fnExactNewRamWrong)

/-- 'laws.FnExactCpuText': WHATEVER THE INPUT: true; the input reads as it did. -/
def fnExactCpuTextSpec : ChangeSpec := { name := "fnExactCpuText", fn := fun _ => fun
  | [d] => { results := [.lit (.bool true)], args := [d] }
  | _ => none }
def fnExactCpuTextRow : OpenClaim := { program := "ythdeemkhbajfgaa", sum := "087125facfdf3068efe376f79625d33079e1477560b0ad22905b4ed482bc822c", func := "loop.example/g00693/laws.FnExactCpuText", spec := "fnExactCpuText", inPlace := ["internal/abi.NoEscape", "internal/bytealg.MakeNoZero"], apart := false }
def FnExactCpuTextSaid : Prop := fnExactCpuTextRow.holds Try.pinned (OpenSpec.ofChange fnExactCpuTextSpec)

/-- ITS FALSE NEIGHBOUR: 'it returns false'. Refute it at one input. -/
def fnExactCpuTextWrong : ChangeSpec := { name := "fnExactCpuText", fn := fun _ => fun
  | [d] => { results := [.lit (.bool false)], args := [d] }
  | _ => none }
def FnExactCpuTextWrongFalsely : Prop := fnExactCpuTextRow.holds Try.pinned (OpenSpec.ofChange fnExactCpuTextWrong)

/-- 'laws.FnExactUnitAt': WHATEVER THE INPUT: true; the input reads as it did. -/
def fnExactUnitAtSpec : ChangeSpec := { name := "fnExactUnitAt", fn := fun _ => fun
  | [d1, d2] => { results := [.lit (.bool true)], args := [d1, d2] }
  | _ => none }
def fnExactUnitAtRow : OpenClaim := { program := "ythdeemkhbajfgaa", sum := "087125facfdf3068efe376f79625d33079e1477560b0ad22905b4ed482bc822c", func := "loop.example/g00693/laws.FnExactUnitAt", spec := "fnExactUnitAt", apart := false }
def FnExactUnitAtSaid : Prop := fnExactUnitAtRow.holds Try.pinned (OpenSpec.ofChange fnExactUnitAtSpec)

/-- ITS FALSE NEIGHBOUR: 'it returns false'. Refute it at one input. -/
def fnExactUnitAtWrong : ChangeSpec := { name := "fnExactUnitAt", fn := fun _ => fun
  | [d1, d2] => { results := [.lit (.bool false)], args := [d1, d2] }
  | _ => none }
def FnExactUnitAtWrongFalsely : Prop := fnExactUnitAtRow.holds Try.pinned (OpenSpec.ofChange fnExactUnitAtWrong)

/-- 'laws.FnExactWindow': WHATEVER THE INPUT: true; the input reads as it did. -/
def fnExactWindowSpec : ChangeSpec := { name := "fnExactWindow", fn := fun _ => fun
  | [d1, d2, d3] => { results := [.lit (.bool true)], args := [d1, d2, d3] }
  | _ => none }
def fnExactWindowRow : OpenClaim := { program := "ythdeemkhbajfgaa", sum := "087125facfdf3068efe376f79625d33079e1477560b0ad22905b4ed482bc822c", func := "loop.example/g00693/laws.FnExactWindow", spec := "fnExactWindow", apart := false }
def FnExactWindowSaid : Prop := fnExactWindowRow.holds Try.pinned (OpenSpec.ofChange fnExactWindowSpec)

/-- ITS FALSE NEIGHBOUR: 'it returns false'. Refute it at one input. -/
def fnExactWindowWrong : ChangeSpec := { name := "fnExactWindow", fn := fun _ => fun
  | [d1, d2, d3] => { results := [.lit (.bool false)], args := [d1, d2, d3] }
  | _ => none }
def FnExactWindowWrongFalsely : Prop := fnExactWindowRow.holds Try.pinned (OpenSpec.ofChange fnExactWindowWrong)

/-- 'laws.FnExactPackTrace': WHATEVER THE INPUT: true; the input reads as it did. -/
def fnExactPackTraceSpec : ChangeSpec := { name := "fnExactPackTrace", fn := fun _ => fun
  | [d] => { results := [.lit (.bool true)], args := [d] }
  | _ => none }
def fnExactPackTraceRow : OpenClaim := { program := "ythdeemkhbajfgaa", sum := "087125facfdf3068efe376f79625d33079e1477560b0ad22905b4ed482bc822c", func := "loop.example/g00693/laws.FnExactPackTrace", spec := "fnExactPackTrace", apart := false }
def FnExactPackTraceSaid : Prop := fnExactPackTraceRow.holds Try.pinned (OpenSpec.ofChange fnExactPackTraceSpec)

/-- ITS FALSE NEIGHBOUR: 'it returns false'. Refute it at one input. -/
def fnExactPackTraceWrong : ChangeSpec := { name := "fnExactPackTrace", fn := fun _ => fun
  | [d] => { results := [.lit (.bool false)], args := [d] }
  | _ => none }
def FnExactPackTraceWrongFalsely : Prop := fnExactPackTraceRow.holds Try.pinned (OpenSpec.ofChange fnExactPackTraceWrong)

/-- 'laws.FnExactUnpackTrace': WHATEVER THE INPUT: true; the input reads as it did. -/
def fnExactUnpackTraceSpec : ChangeSpec := { name := "fnExactUnpackTrace", fn := fun _ => fun
  | [d] => { results := [.lit (.bool true)], args := [d] }
  | _ => none }
def fnExactUnpackTraceRow : OpenClaim := { program := "ythdeemkhbajfgaa", sum := "087125facfdf3068efe376f79625d33079e1477560b0ad22905b4ed482bc822c", func := "loop.example/g00693/laws.FnExactUnpackTrace", spec := "fnExactUnpackTrace", apart := false }
def FnExactUnpackTraceSaid : Prop := fnExactUnpackTraceRow.holds Try.pinned (OpenSpec.ofChange fnExactUnpackTraceSpec)

/-- ITS FALSE NEIGHBOUR: 'it returns false'. Refute it at one input. -/
def fnExactUnpackTraceWrong : ChangeSpec := { name := "fnExactUnpackTrace", fn := fun _ => fun
  | [d] => { results := [.lit (.bool false)], args := [d] }
  | _ => none }
def FnExactUnpackTraceWrongFalsely : Prop := fnExactUnpackTraceRow.holds Try.pinned (OpenSpec.ofChange fnExactUnpackTraceWrong)

/-- 'laws.FnMoves': WHATEVER THE INPUT: true; the input reads as it did. -/
def fnMovesSpec : ChangeSpec := { name := "fnMoves", fn := fun _ => fun
  | [d] => { results := [.lit (.bool true)], args := [d] }
  | _ => none }
def fnMovesRow : OpenClaim := { program := "ythdeemkhbajfgaa", sum := "087125facfdf3068efe376f79625d33079e1477560b0ad22905b4ed482bc822c", func := "loop.example/g00693/laws.FnMoves", spec := "fnMoves", apart := false }
def FnMovesSaid : Prop := fnMovesRow.holds Try.pinned (OpenSpec.ofChange fnMovesSpec)

/-- ITS FALSE NEIGHBOUR: 'it returns false'. Refute it at one input. -/
def fnMovesWrong : ChangeSpec := { name := "fnMoves", fn := fun _ => fun
  | [d] => { results := [.lit (.bool false)], args := [d] }
  | _ => none }
def FnMovesWrongFalsely : Prop := fnMovesRow.holds Try.pinned (OpenSpec.ofChange fnMovesWrong)

/-- 'laws.FnFlags': WHATEVER THE INPUT: true; the input reads as it did. -/
def fnFlagsSpec : ChangeSpec := { name := "fnFlags", fn := fun _ => fun
  | [d] => { results := [.lit (.bool true)], args := [d] }
  | _ => none }
def fnFlagsRow : OpenClaim := { program := "ythdeemkhbajfgaa", sum := "087125facfdf3068efe376f79625d33079e1477560b0ad22905b4ed482bc822c", func := "loop.example/g00693/laws.FnFlags", spec := "fnFlags", apart := false }
def FnFlagsSaid : Prop := fnFlagsRow.holds Try.pinned (OpenSpec.ofChange fnFlagsSpec)

/-- ITS FALSE NEIGHBOUR: 'it returns false'. Refute it at one input. -/
def fnFlagsWrong : ChangeSpec := { name := "fnFlags", fn := fun _ => fun
  | [d] => { results := [.lit (.bool false)], args := [d] }
  | _ => none }
def FnFlagsWrongFalsely : Prop := fnFlagsRow.holds Try.pinned (OpenSpec.ofChange fnFlagsWrong)

/-- 'laws.FnSum': WHATEVER THE INPUT: true; the input reads as it did. -/
def fnSumSpec : ChangeSpec := { name := "fnSum", fn := fun _ => fun
  | [d] => { results := [.lit (.bool true)], args := [d] }
  | _ => none }
def fnSumRow : OpenClaim := { program := "ythdeemkhbajfgaa", sum := "087125facfdf3068efe376f79625d33079e1477560b0ad22905b4ed482bc822c", func := "loop.example/g00693/laws.FnSum", spec := "fnSum", apart := false }
def FnSumSaid : Prop := fnSumRow.holds Try.pinned (OpenSpec.ofChange fnSumSpec)

/-- ITS FALSE NEIGHBOUR: 'it returns false'. Refute it at one input. -/
def fnSumWrong : ChangeSpec := { name := "fnSum", fn := fun _ => fun
  | [d] => { results := [.lit (.bool false)], args := [d] }
  | _ => none }
def FnSumWrongFalsely : Prop := fnSumRow.holds Try.pinned (OpenSpec.ofChange fnSumWrong)

/-- 'laws.FnCompare': WHATEVER THE INPUT: true; the input reads as it did. -/
def fnCompareSpec : ChangeSpec := { name := "fnCompare", fn := fun _ => fun
  | [d] => { results := [.lit (.bool true)], args := [d] }
  | _ => none }
def fnCompareRow : OpenClaim := { program := "ythdeemkhbajfgaa", sum := "087125facfdf3068efe376f79625d33079e1477560b0ad22905b4ed482bc822c", func := "loop.example/g00693/laws.FnCompare", spec := "fnCompare", apart := false }
def FnCompareSaid : Prop := fnCompareRow.holds Try.pinned (OpenSpec.ofChange fnCompareSpec)

/-- ITS FALSE NEIGHBOUR: 'it returns false'. Refute it at one input. -/
def fnCompareWrong : ChangeSpec := { name := "fnCompare", fn := fun _ => fun
  | [d] => { results := [.lit (.bool false)], args := [d] }
  | _ => none }
def FnCompareWrongFalsely : Prop := fnCompareRow.holds Try.pinned (OpenSpec.ofChange fnCompareWrong)

/- THE SECOND FORM. 'bulk': how many values and letters a reading holds, each counted each time it is reached (what is shared counts as often as it is met; a slice's spare places count too). A statement '..UptoSaid' is the law's where the arguments, and the package variables that the reading takes, are together of bulk at most 1048576: NARROWER than '..Said'. Prove '..Said' where nothing that the law and all that it calls make is longer than what came in: it says more and counts as full. Else prove '..UptoSaid'. A law counts once. -/
mutual
def uptoBulk {H : Type} : DataW H → Nat
  | .lit (.string bytes) => bytes.length + 1
  | .lit _ => 1
  | .nil => 1
  | .ptr d => uptoBulk d + 1
  | .slice elems spare => uptoBulkAll elems + uptoBulkAll spare + 1
  | .agg parts => uptoBulkAll parts + 1
  | .iface _ d => uptoBulk d + 1
  | .map entries => uptoBulkEntries entries + 1
  | .held _ => 1
def uptoBulkAll {H : Type} : List (DataW H) → Nat
  | [] => 0
  | d :: r => uptoBulk d + uptoBulkAll r
def uptoBulkEntries {H : Type} : List (Lit × DataW H) → Nat
  | [] => 0
  | x :: r => uptoBulkEntry x + uptoBulkEntries r
def uptoBulkEntry {H : Type} : Lit × DataW H → Nat
  | (.string bytes, d) => bytes.length + uptoBulk d + 1
  | (_, d) => uptoBulk d + 1
 end
def uptoSmall : (H : Type) → List (DataW H) → Bool := fun _ ds => decide (uptoBulkAll ds ≤ 1048576)
def OpenSpec.upto (s : _root_.Go.ChangeSpec) : _root_.Go.OpenSpec := { _root_.Go.OpenSpec.ofChange s with cond := some uptoSmall }

/-- 'laws.FnExactRamOk', WHERE WHAT IT READS IS OF BULK AT MOST 1048576: true; the input reads as it did. -/
def fnExactRamOkUptoRow : OpenClaim := { program := "ythdeemkhbajfgaa", sum := "087125facfdf3068efe376f79625d33079e1477560b0ad22905b4ed482bc822c", func := "loop.example/g00693/laws.FnExactRamOk", spec := "fnExactRamOk", apart := false, narrowed := true }
def FnExactRamOkUptoSaid : Prop := fnExactRamOkUptoRow.holds Try.pinned (OpenSpec.upto fnExactRamOkSpec)

/-- 'laws.FnExactNewRam', WHERE WHAT IT READS IS OF BULK AT MOST 1048576: true; the input reads as it did. -/
def fnExactNewRamUptoRow : OpenClaim := { program := "ythdeemkhbajfgaa", sum := "087125facfdf3068efe376f79625d33079e1477560b0ad22905b4ed482bc822c", func := "loop.example/g00693/laws.FnExactNewRam", spec := "fnExactNewRam", apart := false, narrowed := true }
def FnExactNewRamUptoSaid : Prop := fnExactNewRamUptoRow.holds Try.pinned (OpenSpec.upto fnExactNewRamSpec)

/-- 'laws.FnExactCpuText', WHERE WHAT IT READS IS OF BULK AT MOST 1048576: true; the input reads as it did. -/
def fnExactCpuTextUptoRow : OpenClaim := { program := "ythdeemkhbajfgaa", sum := "087125facfdf3068efe376f79625d33079e1477560b0ad22905b4ed482bc822c", func := "loop.example/g00693/laws.FnExactCpuText", spec := "fnExactCpuText", inPlace := ["internal/abi.NoEscape", "internal/bytealg.MakeNoZero"], apart := false, narrowed := true }
def FnExactCpuTextUptoSaid : Prop := fnExactCpuTextUptoRow.holds Try.pinned (OpenSpec.upto fnExactCpuTextSpec)

/-- 'laws.FnExactUnitAt', WHERE WHAT IT READS IS OF BULK AT MOST 1048576: true; the input reads as it did. -/
def fnExactUnitAtUptoRow : OpenClaim := { program := "ythdeemkhbajfgaa", sum := "087125facfdf3068efe376f79625d33079e1477560b0ad22905b4ed482bc822c", func := "loop.example/g00693/laws.FnExactUnitAt", spec := "fnExactUnitAt", apart := false, narrowed := true }
def FnExactUnitAtUptoSaid : Prop := fnExactUnitAtUptoRow.holds Try.pinned (OpenSpec.upto fnExactUnitAtSpec)

/-- 'laws.FnExactWindow', WHERE WHAT IT READS IS OF BULK AT MOST 1048576: true; the input reads as it did. -/
def fnExactWindowUptoRow : OpenClaim := { program := "ythdeemkhbajfgaa", sum := "087125facfdf3068efe376f79625d33079e1477560b0ad22905b4ed482bc822c", func := "loop.example/g00693/laws.FnExactWindow", spec := "fnExactWindow", apart := false, narrowed := true }
def FnExactWindowUptoSaid : Prop := fnExactWindowUptoRow.holds Try.pinned (OpenSpec.upto fnExactWindowSpec)

/-- 'laws.FnExactPackTrace', WHERE WHAT IT READS IS OF BULK AT MOST 1048576: true; the input reads as it did. -/
def fnExactPackTraceUptoRow : OpenClaim := { program := "ythdeemkhbajfgaa", sum := "087125facfdf3068efe376f79625d33079e1477560b0ad22905b4ed482bc822c", func := "loop.example/g00693/laws.FnExactPackTrace", spec := "fnExactPackTrace", apart := false, narrowed := true }
def FnExactPackTraceUptoSaid : Prop := fnExactPackTraceUptoRow.holds Try.pinned (OpenSpec.upto fnExactPackTraceSpec)

/-- 'laws.FnExactUnpackTrace', WHERE WHAT IT READS IS OF BULK AT MOST 1048576: true; the input reads as it did. -/
def fnExactUnpackTraceUptoRow : OpenClaim := { program := "ythdeemkhbajfgaa", sum := "087125facfdf3068efe376f79625d33079e1477560b0ad22905b4ed482bc822c", func := "loop.example/g00693/laws.FnExactUnpackTrace", spec := "fnExactUnpackTrace", apart := false, narrowed := true }
def FnExactUnpackTraceUptoSaid : Prop := fnExactUnpackTraceUptoRow.holds Try.pinned (OpenSpec.upto fnExactUnpackTraceSpec)

/-- 'laws.FnMoves', WHERE WHAT IT READS IS OF BULK AT MOST 1048576: true; the input reads as it did. -/
def fnMovesUptoRow : OpenClaim := { program := "ythdeemkhbajfgaa", sum := "087125facfdf3068efe376f79625d33079e1477560b0ad22905b4ed482bc822c", func := "loop.example/g00693/laws.FnMoves", spec := "fnMoves", apart := false, narrowed := true }
def FnMovesUptoSaid : Prop := fnMovesUptoRow.holds Try.pinned (OpenSpec.upto fnMovesSpec)

/-- 'laws.FnFlags', WHERE WHAT IT READS IS OF BULK AT MOST 1048576: true; the input reads as it did. -/
def fnFlagsUptoRow : OpenClaim := { program := "ythdeemkhbajfgaa", sum := "087125facfdf3068efe376f79625d33079e1477560b0ad22905b4ed482bc822c", func := "loop.example/g00693/laws.FnFlags", spec := "fnFlags", apart := false, narrowed := true }
def FnFlagsUptoSaid : Prop := fnFlagsUptoRow.holds Try.pinned (OpenSpec.upto fnFlagsSpec)

/-- 'laws.FnSum', WHERE WHAT IT READS IS OF BULK AT MOST 1048576: true; the input reads as it did. -/
def fnSumUptoRow : OpenClaim := { program := "ythdeemkhbajfgaa", sum := "087125facfdf3068efe376f79625d33079e1477560b0ad22905b4ed482bc822c", func := "loop.example/g00693/laws.FnSum", spec := "fnSum", apart := false, narrowed := true }
def FnSumUptoSaid : Prop := fnSumUptoRow.holds Try.pinned (OpenSpec.upto fnSumSpec)

/-- 'laws.FnCompare', WHERE WHAT IT READS IS OF BULK AT MOST 1048576: true; the input reads as it did. -/
def fnCompareUptoRow : OpenClaim := { program := "ythdeemkhbajfgaa", sum := "087125facfdf3068efe376f79625d33079e1477560b0ad22905b4ed482bc822c", func := "loop.example/g00693/laws.FnCompare", spec := "fnCompare", apart := false, narrowed := true }
def FnCompareUptoSaid : Prop := fnCompareUptoRow.holds Try.pinned (OpenSpec.upto fnCompareSpec)

end Rows
end Go.Proofs.Ythdeemkhbajfgaa
