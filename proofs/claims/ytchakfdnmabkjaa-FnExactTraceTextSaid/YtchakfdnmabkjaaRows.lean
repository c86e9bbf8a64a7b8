/-
  No cell of these rows narrows 'for every input' (looked for: loops, veiled, ifaces, maps, wideKeys, modest, calm, conditions, laid).
  DERIVED. THE GIVEN ROWS OF THIS SEAT. 6 by the template 'for every input the law returns true; each argument reads behind the call as it read before'; 0 by the template 'total and deterministic' (their statements: YtchakfdnmabkjaaTotals.lean).
  GIVEN WITH THE SEED: the statements are not yours to turn. If you find one false, say at which input.
  Laid BY PROGRAM, IN A SANDBOX (cutbox-rows.mjs): the forced cells as the released guide's own fill.sh prints them over the translation 476ad9176f699bc4… (all of the seat's roots in one cut). By AI agents, Wed Nov 11 2026. No macro, syntax, notation, axiom, sorry.
-/
import Derived.Test.YtchakfdnmabkjaaChecked
import GoSem.Claim
import GoSem.ClaimJoined
import GoSem.ClaimMapViews
import Derived.JoinedTies
import Derived.KernelRfl
namespace Go.Proofs.Ytchakfdnmabkjaa
/- THE CELL 'sum', in the pinned program and in every row, IS THE sha256 OF THE DUMP (.gsa) THAT YtchakfdnmabkjaaProg.lean LOADS. Nothing in Lean hashes anything: it is a label: what it is worth is what the hold of that sum in a sandbox is worth. -/
noncomputable def Try.pinned : Pinned := { name := "ytchakfdnmabkjaa", sum := "476ad9176f699bc429ec9b2c64e4c21d276e0ebbcf33daea65a0947717a5ea1c", checked := Try.checked }
namespace Rows
def none {H : Type} : Left H := { results := [], args := [] }

/-- 'laws.FnExactHexText': WHATEVER THE INPUT: true; the input reads as it did. -/
def fnExactHexTextSpec : ChangeSpec := { name := "fnExactHexText", fn := fun _ => fun
  | [d1, d2] => { results := [.lit (.bool true)], args := [d1, d2] }
  | _ => none }
def fnExactHexTextRow : OpenClaim := { program := "ytchakfdnmabkjaa", sum := "476ad9176f699bc429ec9b2c64e4c21d276e0ebbcf33daea65a0947717a5ea1c", func := "loop.example/g00693/laws.FnExactHexText", spec := "fnExactHexText", apart := false }
def FnExactHexTextSaid : Prop := fnExactHexTextRow.holds Try.pinned (OpenSpec.ofChange fnExactHexTextSpec)

/-- ITS FALSE NEIGHBOUR: 'it returns false'. Refute it at one input. -/
def fnExactHexTextWrong : ChangeSpec := { name := "fnExactHexText", fn := fun _ => fun
  | [d1, d2] => { results := [.lit (.bool false)], args := [d1, d2] }
  | _ => none }
def FnExactHexTextWrongFalsely : Prop := fnExactHexTextRow.holds Try.pinned (OpenSpec.ofChange fnExactHexTextWrong)

/-- 'laws.FnExactReadHex': WHATEVER THE INPUT: true; the input reads as it did. -/
def fnExactReadHexSpec : ChangeSpec := { name := "fnExactReadHex", fn := fun _ => fun
  | [d1, d2] => { results := [.lit (.bool true)], args := [d1, d2] }
  | _ => none }
def fnExactReadHexRow : OpenClaim := { program := "ytchakfdnmabkjaa", sum := "476ad9176f699bc429ec9b2c64e4c21d276e0ebbcf33daea65a0947717a5ea1c", func := "loop.example/g00693/laws.FnExactReadHex", spec := "fnExactReadHex", inPlace := ["internal/bytealg.IndexByteString"], apart := false }
def FnExactReadHexSaid : Prop := fnExactReadHexRow.holds Try.pinned (OpenSpec.ofChange fnExactReadHexSpec)

/-- ITS FALSE NEIGHBOUR: 'it returns false'. Refute it at one input. -/
def fnExactReadHexWrong : ChangeSpec := { name := "fnExactReadHex", fn := fun _ => fun
  | [d1, d2] => { results := [.lit (.bool false)], args := [d1, d2] }
  | _ => none }
def FnExactReadHexWrongFalsely : Prop := fnExactReadHexRow.holds Try.pinned (OpenSpec.ofChange fnExactReadHexWrong)

/-- 'laws.FnExactCycText': WHATEVER THE INPUT: true; the input reads as it did. -/
def fnExactCycTextSpec : ChangeSpec := { name := "fnExactCycText", fn := fun _ => fun
  | [d] => { results := [.lit (.bool true)], args := [d] }
  | _ => none }
def fnExactCycTextRow : OpenClaim := { program := "ytchakfdnmabkjaa", sum := "476ad9176f699bc429ec9b2c64e4c21d276e0ebbcf33daea65a0947717a5ea1c", func := "loop.example/g00693/laws.FnExactCycText", spec := "fnExactCycText", apart := false }
def FnExactCycTextSaid : Prop := fnExactCycTextRow.holds Try.pinned (OpenSpec.ofChange fnExactCycTextSpec)

/-- ITS FALSE NEIGHBOUR: 'it returns false'. Refute it at one input. -/
def fnExactCycTextWrong : ChangeSpec := { name := "fnExactCycText", fn := fun _ => fun
  | [d] => { results := [.lit (.bool false)], args := [d] }
  | _ => none }
def FnExactCycTextWrongFalsely : Prop := fnExactCycTextRow.holds Try.pinned (OpenSpec.ofChange fnExactCycTextWrong)

/-- 'laws.FnExactReadCyc': WHATEVER THE INPUT: true; the input reads as it did. -/
def fnExactReadCycSpec : ChangeSpec := { name := "fnExactReadCyc", fn := fun _ => fun
  | [d] => { results := [.lit (.bool true)], args := [d] }
  | _ => none }
def fnExactReadCycRow : OpenClaim := { program := "ytchakfdnmabkjaa", sum := "476ad9176f699bc429ec9b2c64e4c21d276e0ebbcf33daea65a0947717a5ea1c", func := "loop.example/g00693/laws.FnExactReadCyc", spec := "fnExactReadCyc", inPlace := ["internal/bytealg.IndexByteString"], apart := false }
def FnExactReadCycSaid : Prop := fnExactReadCycRow.holds Try.pinned (OpenSpec.ofChange fnExactReadCycSpec)

/-- ITS FALSE NEIGHBOUR: 'it returns false'. Refute it at one input. -/
def fnExactReadCycWrong : ChangeSpec := { name := "fnExactReadCyc", fn := fun _ => fun
  | [d] => { results := [.lit (.bool false)], args := [d] }
  | _ => none }
def FnExactReadCycWrongFalsely : Prop := fnExactReadCycRow.holds Try.pinned (OpenSpec.ofChange fnExactReadCycWrong)

/-- 'laws.FnExactWords': WHATEVER THE INPUT: true; the input reads as it did. -/
def fnExactWordsSpec : ChangeSpec := { name := "fnExactWords", fn := fun _ => fun
  | [d] => { results := [.lit (.bool true)], args := [d] }
  | _ => none }
def fnExactWordsRow : OpenClaim := { program := "ytchakfdnmabkjaa", sum := "476ad9176f699bc429ec9b2c64e4c21d276e0ebbcf33daea65a0947717a5ea1c", func := "loop.example/g00693/laws.FnExactWords", spec := "fnExactWords", unfollowed := true, recurses := true, apart := false }
def FnExactWordsSaid : Prop := fnExactWordsRow.holds Try.pinned (OpenSpec.ofChange fnExactWordsSpec)

/-- ITS FALSE NEIGHBOUR: 'it returns false'. Refute it at one input. -/
def fnExactWordsWrong : ChangeSpec := { name := "fnExactWords", fn := fun _ => fun
  | [d] => { results := [.lit (.bool false)], args := [d] }
  | _ => none }
def FnExactWordsWrongFalsely : Prop := fnExactWordsRow.holds Try.pinned (OpenSpec.ofChange fnExactWordsWrong)

/-- 'laws.FnExactTraceText': WHATEVER THE INPUT: true; the input reads as it did. -/
def fnExactTraceTextSpec : ChangeSpec := { name := "fnExactTraceText", fn := fun _ => fun
  | [d] => { results := [.lit (.bool true)], args := [d] }
  | _ => none }
def fnExactTraceTextRow : OpenClaim := { program := "ytchakfdnmabkjaa", sum := "476ad9176f699bc429ec9b2c64e4c21d276e0ebbcf33daea65a0947717a5ea1c", func := "loop.example/g00693/laws.FnExactTraceText", spec := "fnExactTraceText", inPlace := ["internal/abi.NoEscape"], apart := false }
def FnExactTraceTextSaid : Prop := fnExactTraceTextRow.holds Try.pinned (OpenSpec.ofChange fnExactTraceTextSpec)

/-- ITS FALSE NEIGHBOUR: 'it returns false'. Refute it at one input. -/
def fnExactTraceTextWrong : ChangeSpec := { name := "fnExactTraceText", fn := fun _ => fun
  | [d] => { results := [.lit (.bool false)], args := [d] }
  | _ => none }
def FnExactTraceTextWrongFalsely : Prop := fnExactTraceTextRow.holds Try.pinned (OpenSpec.ofChange fnExactTraceTextWrong)

/- THE SECOND FORM. 'bulk': how many values and letters a reading holds, each counted each time it is reached (what is shared counts as often as it is met; a slice's spare places count too). A statement '..UptoSaid' is the law's where the arguments, and the package variables that the reading takes, are together of bulk at most 1048576: NARROWER than '..Said'. Prove '..Said' where nothing that the law and all that it calls make is longer than what came in: it says more and counts as full. Else prove '..UptoSaid'. A law counts once. -/
mutual
def uptoBulk {H : Type} : DataW H → Nat
  | .lit (.string bytes) => bytes.length + 1
  | .lit _ => 1
  | .nil => 1
  | .ptr d => uptoBulk d + 1
  | .slice elems spare => uptoBulkAll elems + uptoBulkAll spare + 1
  | .agg parts => uptoBulkAll parts + 1
  | .iface _ d => uptoBulk d + 1
  | .map entries => uptoBulkEntries entries + 1
  | .held _ => 1
def uptoBulkAll {H : Type} : List (DataW H) → Nat
  | [] => 0
  | d :: r => uptoBulk d + uptoBulkAll r
def uptoBulkEntries {H : Type} : List (Lit × DataW H) → Nat
  | [] => 0
  | x :: r => uptoBulkEntry x + uptoBulkEntries r
def uptoBulkEntry {H : Type} : Lit × DataW H → Nat
  | (.string bytes, d) => bytes.length + uptoBulk d + 1
  | (_, d) => uptoBulk d + 1
 end
def uptoSmall : (H : Type) → List (DataW H) → Bool := fun _ ds => decide (uptoBulkAll ds ≤ 1048576)
def OpenSpec.upto (s : _root_.Go.ChangeSpec) : _root_.Go.OpenSpec := { _root_.Go.OpenSpec.ofChange s with cond := some uptoSmall }

/-- 'laws.FnExactHexText', WHERE WHAT IT READS IS OF BULK AT MOST 1048576: true; the input reads as it did. -/
def fnExactHexTextUptoRow : OpenClaim := { program := "ytchakfdnmabkjaa", sum := "476ad9176f699bc429ec9b2c64e4c21d276e0ebbcf33daea65a0947717a5ea1c", func := "loop.example/g00693/laws.FnExactHexText", spec := "fnExactHexText", apart := false, narrowed := true }
def FnExactHexTextUptoSaid : Prop := fnExactHexTextUptoRow.holds Try.pinned (OpenSpec.upto fnExactHexTextSpec)

/-- 'laws.FnExactReadHex', WHERE WHAT IT READS IS OF BULK AT MOST 1048576: true; the input reads as it did. -/
def fnExactReadHexUptoRow : OpenClaim := { program := "ytchakfdnmabkjaa", sum := "476ad9176f699bc429ec9b2c64e4c21d276e0ebbcf33daea65a0947717a5ea1c", func := "loop.example/g00693/laws.FnExactReadHex", spec := "fnExactReadHex", inPlace := ["internal/bytealg.IndexByteString"], apart := false, narrowed := true }
def FnExactReadHexUptoSaid : Prop := fnExactReadHexUptoRow.holds Try.pinned (OpenSpec.upto fnExactReadHexSpec)

/-- 'laws.FnExactCycText', WHERE WHAT IT READS IS OF BULK AT MOST 1048576: true; the input reads as it did. -/
def fnExactCycTextUptoRow : OpenClaim := { program := "ytchakfdnmabkjaa", sum := "476ad9176f699bc429ec9b2c64e4c21d276e0ebbcf33daea65a0947717a5ea1c", func := "loop.example/g00693/laws.FnExactCycText", spec := "fnExactCycText", apart := false, narrowed := true }
def FnExactCycTextUptoSaid : Prop := fnExactCycTextUptoRow.holds Try.pinned (OpenSpec.upto fnExactCycTextSpec)

/-- 'laws.FnExactReadCyc', WHERE WHAT IT READS IS OF BULK AT MOST 1048576: true; the input reads as it did. -/
def fnExactReadCycUptoRow : OpenClaim := { program := "ytchakfdnmabkjaa", sum := "476ad9176f699bc429ec9b2c64e4c21d276e0ebbcf33daea65a0947717a5ea1c", func := "loop.example/g00693/laws.FnExactReadCyc", spec := "fnExactReadCyc", inPlace := ["internal/bytealg.IndexByteString"], apart := false, narrowed := true }
def FnExactReadCycUptoSaid : Prop := fnExactReadCycUptoRow.holds Try.pinned (OpenSpec.upto fnExactReadCycSpec)

/-- 'laws.FnExactWords', WHERE WHAT IT READS IS OF BULK AT MOST 1048576: true; the input reads as it did. -/
def fnExactWordsUptoRow : OpenClaim := { program := "ytchakfdnmabkjaa", sum := "476ad9176f699bc429ec9b2c64e4c21d276e0ebbcf33daea65a0947717a5ea1c", func := "loop.example/g00693/laws.FnExactWords", spec := "fnExactWords", unfollowed := true, recurses := true, apart := false, narrowed := true }
def FnExactWordsUptoSaid : Prop := fnExactWordsUptoRow.holds Try.pinned (OpenSpec.upto fnExactWordsSpec)

/-- 'laws.FnExactTraceText', WHERE WHAT IT READS IS OF BULK AT MOST 1048576: true; the input reads as it did. -/
def fnExactTraceTextUptoRow : OpenClaim := { program := "ytchakfdnmabkjaa", sum := "476ad9176f699bc429ec9b2c64e4c21d276e0ebbcf33daea65a0947717a5ea1c", func := "loop.example/g00693/laws.FnExactTraceText", spec := "fnExactTraceText", inPlace := ["internal/abi.NoEscape"], apart := false, narrowed := true }
def FnExactTraceTextUptoSaid : Prop := fnExactTraceTextUptoRow.holds Try.pinned (OpenSpec.upto fnExactTraceTextSpec)

end Rows
end Go.Proofs.Ytchakfdnmabkjaa
