/-
  No cell of these rows narrows 'for every input' (looked for: loops, veiled, ifaces, maps, wideKeys, modest, calm, conditions, laid).
  DERIVED. THE GIVEN ROWS OF THIS SEAT. 5 by the template 'for every input the law returns true; each argument reads behind the call as it read before'; 0 by the template 'total and deterministic' (their statements: YtfoceofnldnbgaaTotals.lean).
  GIVEN WITH THE SEED: the statements are not yours to turn. If you find one false, say at which input.
  Laid BY PROGRAM, IN A SANDBOX (cutbox-rows.mjs): the forced cells as the released guide's own fill.sh prints them over the translation 7dcbfcb35d615019… (all of the seat's roots in one cut). By AI agents, Wed Nov 11 2026. No macro, syntax, notation, axiom, sorry.
-/
import Derived.Test.YtfoceofnldnbgaaChecked
import GoSem.Claim
import GoSem.ClaimJoined
import GoSem.ClaimMapViews
import Derived.JoinedTies
import Derived.KernelRfl
namespace Go.Proofs.Ytfoceofnldnbgaa
/- THE CELL 'sum', in the pinned program and in every row, IS THE sha256 OF THE DUMP (.gsa) THAT YtfoceofnldnbgaaProg.lean LOADS. Nothing in Lean hashes anything: it is a label: what it is worth is what the hold of that sum in a sandbox is worth. -/
noncomputable def Try.pinned : Pinned := { name := "ytfoceofnldnbgaa", sum := "7dcbfcb35d615019de868c05ffa781ae32b2c7a001ace3a0b07fb2a507511b13", checked := Try.checked }
namespace Rows
def none {H : Type} : Left H := { results := [], args := [] }

/-- 'laws.FnExactDecAt': WHATEVER THE INPUT: true; the input reads as it did. -/
def fnExactDecAtSpec : ChangeSpec := { name := "fnExactDecAt", fn := fun _ => fun
  | [d1, d2] => { results := [.lit (.bool true)], args := [d1, d2] }
  | _ => none }
def fnExactDecAtRow : OpenClaim := { program := "ytfoceofnldnbgaa", sum := "7dcbfcb35d615019de868c05ffa781ae32b2c7a001ace3a0b07fb2a507511b13", func := "loop.example/g00793/laws.FnExactDecAt", spec := "fnExactDecAt", unfollowed := true, recurses := true, apart := false }
def FnExactDecAtSaid : Prop := fnExactDecAtRow.holds Try.pinned (OpenSpec.ofChange fnExactDecAtSpec)

/-- ITS FALSE NEIGHBOUR: 'it returns false'. Refute it at one input. -/
def fnExactDecAtWrong : ChangeSpec := { name := "fnExactDecAt", fn := fun _ => fun
  | [d1, d2] => { results := [.lit (.bool false)], args := [d1, d2] }
  | _ => none }
def FnExactDecAtWrongFalsely : Prop := fnExactDecAtRow.holds Try.pinned (OpenSpec.ofChange fnExactDecAtWrong)

/-- 'laws.FnExactDecLow': WHATEVER THE INPUT: true; the input reads as it did. -/
def fnExactDecLowSpec : ChangeSpec := { name := "fnExactDecLow", fn := fun _ => fun
  | [d] => { results := [.lit (.bool true)], args := [d] }
  | _ => none }
def fnExactDecLowRow : OpenClaim := { program := "ytfoceofnldnbgaa", sum := "7dcbfcb35d615019de868c05ffa781ae32b2c7a001ace3a0b07fb2a507511b13", func := "loop.example/g00793/laws.FnExactDecLow", spec := "fnExactDecLow", unfollowed := true, recurses := true, apart := false }
def FnExactDecLowSaid : Prop := fnExactDecLowRow.holds Try.pinned (OpenSpec.ofChange fnExactDecLowSpec)

/-- ITS FALSE NEIGHBOUR: 'it returns false'. Refute it at one input. -/
def fnExactDecLowWrong : ChangeSpec := { name := "fnExactDecLow", fn := fun _ => fun
  | [d] => { results := [.lit (.bool false)], args := [d] }
  | _ => none }
def FnExactDecLowWrongFalsely : Prop := fnExactDecLowRow.holds Try.pinned (OpenSpec.ofChange fnExactDecLowWrong)

/-- 'laws.FnExactRatDec': WHATEVER THE INPUT: true; the input reads as it did. -/
def fnExactRatDecSpec : ChangeSpec := { name := "fnExactRatDec", fn := fun _ => fun
  | [d1, d2, d3] => { results := [.lit (.bool true)], args := [d1, d2, d3] }
  | _ => none }
def fnExactRatDecRow : OpenClaim := { program := "ytfoceofnldnbgaa", sum := "7dcbfcb35d615019de868c05ffa781ae32b2c7a001ace3a0b07fb2a507511b13", func := "loop.example/g00793/laws.FnExactRatDec", spec := "fnExactRatDec", unfollowed := true, recurses := true, apart := false }
def FnExactRatDecSaid : Prop := fnExactRatDecRow.holds Try.pinned (OpenSpec.ofChange fnExactRatDecSpec)

/-- ITS FALSE NEIGHBOUR: 'it returns false'. Refute it at one input. -/
def fnExactRatDecWrong : ChangeSpec := { name := "fnExactRatDec", fn := fun _ => fun
  | [d1, d2, d3] => { results := [.lit (.bool false)], args := [d1, d2, d3] }
  | _ => none }
def FnExactRatDecWrongFalsely : Prop := fnExactRatDecRow.holds Try.pinned (OpenSpec.ofChange fnExactRatDecWrong)

/-- 'laws.FnExactRatRest': WHATEVER THE INPUT: true; the input reads as it did. -/
def fnExactRatRestSpec : ChangeSpec := { name := "fnExactRatRest", fn := fun _ => fun
  | [d1, d2] => { results := [.lit (.bool true)], args := [d1, d2] }
  | _ => none }
def fnExactRatRestRow : OpenClaim := { program := "ytfoceofnldnbgaa", sum := "7dcbfcb35d615019de868c05ffa781ae32b2c7a001ace3a0b07fb2a507511b13", func := "loop.example/g00793/laws.FnExactRatRest", spec := "fnExactRatRest", unfollowed := true, recurses := true, apart := false }
def FnExactRatRestSaid : Prop := fnExactRatRestRow.holds Try.pinned (OpenSpec.ofChange fnExactRatRestSpec)

/-- ITS FALSE NEIGHBOUR: 'it returns false'. Refute it at one input. -/
def fnExactRatRestWrong : ChangeSpec := { name := "fnExactRatRest", fn := fun _ => fun
  | [d1, d2] => { results := [.lit (.bool false)], args := [d1, d2] }
  | _ => none }
def FnExactRatRestWrongFalsely : Prop := fnExactRatRestRow.holds Try.pinned (OpenSpec.ofChange fnExactRatRestWrong)

/-- 'laws.FnExactDecDiv': WHATEVER THE INPUT: true; the input reads as it did. -/
def fnExactDecDivSpec : ChangeSpec := { name := "fnExactDecDiv", fn := fun _ => fun
  | [d1, d2, d3, d4] => { results := [.lit (.bool true)], args := [d1, d2, d3, d4] }
  | _ => none }
def fnExactDecDivRow : OpenClaim := { program := "ytfoceofnldnbgaa", sum := "7dcbfcb35d615019de868c05ffa781ae32b2c7a001ace3a0b07fb2a507511b13", func := "loop.example/g00793/laws.FnExactDecDiv", spec := "fnExactDecDiv", unfollowed := true, recurses := true, apart := false }
def FnExactDecDivSaid : Prop := fnExactDecDivRow.holds Try.pinned (OpenSpec.ofChange fnExactDecDivSpec)

/-- ITS FALSE NEIGHBOUR: 'it returns false'. Refute it at one input. -/
def fnExactDecDivWrong : ChangeSpec := { name := "fnExactDecDiv", fn := fun _ => fun
  | [d1, d2, d3, d4] => { results := [.lit (.bool false)], args := [d1, d2, d3, d4] }
  | _ => none }
def FnExactDecDivWrongFalsely : Prop := fnExactDecDivRow.holds Try.pinned (OpenSpec.ofChange fnExactDecDivWrong)

/- THE SECOND FORM. 'bulk': how many values and letters a reading holds, each counted each time it is reached (what is shared counts as often as it is met; a slice's spare places count too). A statement '..UptoSaid' is the law's where the arguments, and the package variables that the reading takes, are together of bulk at most 1048576: NARROWER than '..Said'. Prove '..Said' where nothing that the law and all that it calls make is longer than what came in: it says more and counts as full. Else prove '..UptoSaid'. A law counts once. -/
mutual
def uptoBulk {H : Type} : DataW H → Nat
  | .lit (.string bytes) => bytes.length + 1
  | .lit _ => 1
  | .nil => 1
  | .ptr d => uptoBulk d + 1
  | .slice elems spare => uptoBulkAll elems + uptoBulkAll spare + 1
  | .agg parts => uptoBulkAll parts + 1
  | .iface _ d => uptoBulk d + 1
  | .map entries => uptoBulkEntries entries + 1
  | .held _ => 1
def uptoBulkAll {H : Type} : List (DataW H) → Nat
  | [] => 0
  | d :: r => uptoBulk d + uptoBulkAll r
def uptoBulkEntries {H : Type} : List (Lit × DataW H) → Nat
  | [] => 0
  | x :: r => uptoBulkEntry x + uptoBulkEntries r
def uptoBulkEntry {H : Type} : Lit × DataW H → Nat
  | (.string bytes, d) => bytes.length + uptoBulk d + 1
  | (_, d) => uptoBulk d + 1
 end
def uptoSmall : (H : Type) → List (DataW H) → Bool := fun _ ds => decide (uptoBulkAll ds ≤ 1048576)
def OpenSpec.upto (s : _root_.Go.ChangeSpec) : _root_.Go.OpenSpec := { _root_.Go.OpenSpec.ofChange s with cond := some uptoSmall }

/-- 'laws.FnExactDecAt', WHERE WHAT IT READS IS OF BULK AT MOST 1048576: true; the input reads as it did. -/
def fnExactDecAtUptoRow : OpenClaim := { program := "ytfoceofnldnbgaa", sum := "7dcbfcb35d615019de868c05ffa781ae32b2c7a001ace3a0b07fb2a507511b13", func := "loop.example/g00793/laws.FnExactDecAt", spec := "fnExactDecAt", unfollowed := true, recurses := true, apart := false, narrowed := true }
def FnExactDecAtUptoSaid : Prop := fnExactDecAtUptoRow.holds Try.pinned (OpenSpec.upto fnExactDecAtSpec)

/-- 'laws.FnExactDecLow', WHERE WHAT IT READS IS OF BULK AT MOST 1048576: true; the input reads as it did. -/
def fnExactDecLowUptoRow : OpenClaim := { program := "ytfoceofnldnbgaa", sum := "7dcbfcb35d615019de868c05ffa781ae32b2c7a001ace3a0b07fb2a507511b13", func := "loop.example/g00793/laws.FnExactDecLow", spec := "fnExactDecLow", unfollowed := true, recurses := true, apart := false, narrowed := true }
def FnExactDecLowUptoSaid : Prop := fnExactDecLowUptoRow.holds Try.pinned (OpenSpec.upto fnExactDecLowSpec)

/-- 'laws.FnExactRatDec', WHERE WHAT IT READS IS OF BULK AT MOST 1048576: true; the input reads as it did. -/
def fnExactRatDecUptoRow : OpenClaim := { program := "ytfoceofnldnbgaa", sum := "7dcbfcb35d615019de868c05ffa781ae32b2c7a001ace3a0b07fb2a507511b13", func := "loop.example/g00793/laws.FnExactRatDec", spec := "fnExactRatDec", unfollowed := true, recurses := true, apart := false, narrowed := true }
def FnExactRatDecUptoSaid : Prop := fnExactRatDecUptoRow.holds Try.pinned (OpenSpec.upto fnExactRatDecSpec)

/-- 'laws.FnExactRatRest', WHERE WHAT IT READS IS OF BULK AT MOST 1048576: true; the input reads as it did. -/
def fnExactRatRestUptoRow : OpenClaim := { program := "ytfoceofnldnbgaa", sum := "7dcbfcb35d615019de868c05ffa781ae32b2c7a001ace3a0b07fb2a507511b13", func := "loop.example/g00793/laws.FnExactRatRest", spec := "fnExactRatRest", unfollowed := true, recurses := true, apart := false, narrowed := true }
def FnExactRatRestUptoSaid : Prop := fnExactRatRestUptoRow.holds Try.pinned (OpenSpec.upto fnExactRatRestSpec)

/-- 'laws.FnExactDecDiv', WHERE WHAT IT READS IS OF BULK AT MOST 1048576: true; the input reads as it did. -/
def fnExactDecDivUptoRow : OpenClaim := { program := "ytfoceofnldnbgaa", sum := "7dcbfcb35d615019de868c05ffa781ae32b2c7a001ace3a0b07fb2a507511b13", func := "loop.example/g00793/laws.FnExactDecDiv", spec := "fnExactDecDiv", unfollowed := true, recurses := true, apart := false, narrowed := true }
def FnExactDecDivUptoSaid : Prop := fnExactDecDivUptoRow.holds Try.pinned (OpenSpec.upto fnExactDecDivSpec)

end Rows
end Go.Proofs.Ytfoceofnldnbgaa
