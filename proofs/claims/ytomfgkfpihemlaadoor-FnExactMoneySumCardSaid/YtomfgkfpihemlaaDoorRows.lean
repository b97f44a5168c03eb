/-
  NARROWER THAN 'FOR EVERY INPUT', by the rows' own cells (each row's printed sentence says how): FnExactMoneyOk: laid · FnExactCurUnit: laid · FnExactMoneyOf: laid · FnExactRateOk: laid · FnExactMoneyNeg: laid · FnExactMoneyCmp: laid · FnExactMoneyTimes: laid · FnExactRatesOk: laid · FnExactMoneyAdd: laid · FnExactRateHow: laid · FnExactMoneySub: laid · FnExactMoneySum: laid.
  DERIVED. THE GIVEN ROWS OF THIS SEAT. 12 by the template 'for every input the law returns true; each argument reads behind the call as it read before'; 0 by the template 'total and deterministic' (their statements: YtomfgkfpihemlaaDoorTotals.lean).
  GIVEN WITH THE SEED: the statements are not yours to turn. If you find one false, say at which input.
  Laid BY PROGRAM, IN A SANDBOX (cutbox-rows.mjs): the forced cells as the released guide's own fill.sh prints them over the translation f5f3dd8c53d35f8e… (all of the seat's roots in one cut). By AI agents, Wed Nov 11 2026. No macro, syntax, notation, axiom, sorry.
-/
import Derived.Test.YtomfgkfpihemlaaDoorChecked
import GoSem.Claim
import GoSem.ClaimJoined
import GoSem.ClaimMapViews
import Derived.JoinedTies
import Derived.KernelRfl
namespace Go.Proofs.YtomfgkfpihemlaaDoor
/- THE CELL 'sum', in the pinned program and in every row, IS THE sha256 OF THE DUMP (.gsa) THAT YtomfgkfpihemlaaDoorProg.lean LOADS. Nothing in Lean hashes anything: it is a label: what it is worth is what the hold of that sum in a sandbox is worth. -/
noncomputable def Tryd.pinned : Pinned := { name := "ytomfgkfpihemlaadoor", sum := "f5f3dd8c53d35f8ed7ed9fc6e36fd8196b3f8a59c53a4d12babd3959857c5005", checked := Tryd.checked }
namespace Rows
def none {H : Type} : Left H := { results := [], args := [] }

/- WHAT THE LISTED PACKAGE-LEVEL VARIABLES READ AS WHEN THE CALL BEGINS. Each datum BY PROGRAM (the guide's laid-datum.mjs) off the statement by which the dump's own 'gosem.cut.vars' lays the variable. In a bare row this is a premise. The card (YtomfgkfpihemlaaDoorCards.lean) ties it to the program's text. -/
def laid_loop_example_g00793_impl_currencies {H : Type} : DataW H := .agg [.agg [.lit (.string [67, 72, 70]), .lit (.string [55, 53, 54]), .lit (.int .i64 2), .lit (.int .i64 5)], .agg [.lit (.string [69, 85, 82]), .lit (.string [57, 55, 56]), .lit (.int .i64 2), .lit (.int .i64 1)], .agg [.lit (.string [85, 83, 68]), .lit (.string [56, 52, 48]), .lit (.int .i64 2), .lit (.int .i64 1)], .agg [.lit (.string [71, 66, 80]), .lit (.string [56, 50, 54]), .lit (.int .i64 2), .lit (.int .i64 1)], .agg [.lit (.string [74, 80, 89]), .lit (.string [51, 57, 50]), .lit (.int .i64 0), .lit (.int .i64 1)], .agg [.lit (.string [83, 69, 75]), .lit (.string [55, 53, 50]), .lit (.int .i64 2), .lit (.int .i64 100)], .agg [.lit (.string [78, 79, 75]), .lit (.string [53, 55, 56]), .lit (.int .i64 2), .lit (.int .i64 100)], .agg [.lit (.string [68, 75, 75]), .lit (.string [50, 48, 56]), .lit (.int .i64 2), .lit (.int .i64 50)], .agg [.lit (.string [67, 90, 75]), .lit (.string [50, 48, 51]), .lit (.int .i64 2), .lit (.int .i64 100)], .agg [.lit (.string [72, 85, 70]), .lit (.string [51, 52, 56]), .lit (.int .i64 2), .lit (.int .i64 500)], .agg [.lit (.string [80, 76, 78]), .lit (.string [57, 56, 53]), .lit (.int .i64 2), .lit (.int .i64 1)], .agg [.lit (.string [67, 65, 68]), .lit (.string [49, 50, 52]), .lit (.int .i64 2), .lit (.int .i64 5)], .agg [.lit (.string [65, 85, 68]), .lit (.string [48, 51, 54]), .lit (.int .i64 2), .lit (.int .i64 5)], .agg [.lit (.string [78, 90, 68]), .lit (.string [53, 53, 52]), .lit (.int .i64 2), .lit (.int .i64 10)], .agg [.lit (.string [75, 87, 68]), .lit (.string [52, 49, 52]), .lit (.int .i64 3), .lit (.int .i64 5)], .agg [.lit (.string [66, 72, 68]), .lit (.string [48, 52, 56]), .lit (.int .i64 3), .lit (.int .i64 5)], .agg [.lit (.string [84, 78, 68]), .lit (.string [55, 56, 56]), .lit (.int .i64 3), .lit (.int .i64 10)], .agg [.lit (.string [73, 83, 75]), .lit (.string [51, 53, 50]), .lit (.int .i64 0), .lit (.int .i64 1)], .agg [.lit (.string [75, 82, 87]), .lit (.string [52, 49, 48]), .lit (.int .i64 0), .lit (.int .i64 10)], .agg [.lit (.string [67, 76, 70]), .lit (.string [57, 57, 48]), .lit (.int .i64 4), .lit (.int .i64 1)]]

/-- 'laws.FnExactMoneyOk': WHATEVER THE INPUT: true; the input reads as it did. -/
def fnExactMoneyOkSpec : ChangeSpec := { name := "fnExactMoneyOk", vars := ["loop.example/g00793/impl.currencies"], fn := fun _ => fun
  | [d, g1] => { results := [.lit (.bool true)], args := [d], vars := [g1] }
  | _ => none }
def fnExactMoneyOkRow : OpenClaim := { program := "ytomfgkfpihemlaadoor", sum := "f5f3dd8c53d35f8ed7ed9fc6e36fd8196b3f8a59c53a4d12babd3959857c5005", func := "loop.example/g00793/laws.FnExactMoneyOk", spec := "fnExactMoneyOk", named := ["loop.example/g00793/impl.currencies"], plainKeys := false, apart := false, laid := [("loop.example/g00793/impl.currencies", laid_loop_example_g00793_impl_currencies)] }
def FnExactMoneyOkSaid : Prop := fnExactMoneyOkRow.holds Tryd.pinned (OpenSpec.ofChange fnExactMoneyOkSpec)

/-- ITS FALSE NEIGHBOUR: 'it returns false'. Refute it at one input. -/
def fnExactMoneyOkWrong : ChangeSpec := { name := "fnExactMoneyOk", vars := ["loop.example/g00793/impl.currencies"], fn := fun _ => fun
  | [d, g1] => { results := [.lit (.bool false)], args := [d], vars := [g1] }
  | _ => none }
def FnExactMoneyOkWrongFalsely : Prop := fnExactMoneyOkRow.holds Tryd.pinned (OpenSpec.ofChange fnExactMoneyOkWrong)

/-- 'laws.FnExactCurUnit': WHATEVER THE INPUT: true; the input reads as it did. -/
def fnExactCurUnitSpec : ChangeSpec := { name := "fnExactCurUnit", vars := ["loop.example/g00793/impl.currencies"], fn := fun _ => fun
  | [d, g1] => { results := [.lit (.bool true)], args := [d], vars := [g1] }
  | _ => none }
def fnExactCurUnitRow : OpenClaim := { program := "ytomfgkfpihemlaadoor", sum := "f5f3dd8c53d35f8ed7ed9fc6e36fd8196b3f8a59c53a4d12babd3959857c5005", func := "loop.example/g00793/laws.FnExactCurUnit", spec := "fnExactCurUnit", named := ["loop.example/g00793/impl.currencies"], plainKeys := false, apart := false, laid := [("loop.example/g00793/impl.currencies", laid_loop_example_g00793_impl_currencies)] }
def FnExactCurUnitSaid : Prop := fnExactCurUnitRow.holds Tryd.pinned (OpenSpec.ofChange fnExactCurUnitSpec)

/-- ITS FALSE NEIGHBOUR: 'it returns false'. Refute it at one input. -/
def fnExactCurUnitWrong : ChangeSpec := { name := "fnExactCurUnit", vars := ["loop.example/g00793/impl.currencies"], fn := fun _ => fun
  | [d, g1] => { results := [.lit (.bool false)], args := [d], vars := [g1] }
  | _ => none }
def FnExactCurUnitWrongFalsely : Prop := fnExactCurUnitRow.holds Tryd.pinned (OpenSpec.ofChange fnExactCurUnitWrong)

/-- 'laws.FnExactMoneyOf': WHATEVER THE INPUT: true; the input reads as it did. -/
def fnExactMoneyOfSpec : ChangeSpec := { name := "fnExactMoneyOf", vars := ["loop.example/g00793/impl.currencies"], fn := fun _ => fun
  | [d1, d2, g1] => { results := [.lit (.bool true)], args := [d1, d2], vars := [g1] }
  | _ => none }
def fnExactMoneyOfRow : OpenClaim := { program := "ytomfgkfpihemlaadoor", sum := "f5f3dd8c53d35f8ed7ed9fc6e36fd8196b3f8a59c53a4d12babd3959857c5005", func := "loop.example/g00793/laws.FnExactMoneyOf", spec := "fnExactMoneyOf", named := ["loop.example/g00793/impl.currencies"], plainKeys := false, apart := false, laid := [("loop.example/g00793/impl.currencies", laid_loop_example_g00793_impl_currencies)] }
def FnExactMoneyOfSaid : Prop := fnExactMoneyOfRow.holds Tryd.pinned (OpenSpec.ofChange fnExactMoneyOfSpec)

/-- ITS FALSE NEIGHBOUR: 'it returns false'. Refute it at one input. -/
def fnExactMoneyOfWrong : ChangeSpec := { name := "fnExactMoneyOf", vars := ["loop.example/g00793/impl.currencies"], fn := fun _ => fun
  | [d1, d2, g1] => { results := [.lit (.bool false)], args := [d1, d2], vars := [g1] }
  | _ => none }
def FnExactMoneyOfWrongFalsely : Prop := fnExactMoneyOfRow.holds Tryd.pinned (OpenSpec.ofChange fnExactMoneyOfWrong)

/-- 'laws.FnExactRateOk': WHATEVER THE INPUT: true; the input reads as it did. -/
def fnExactRateOkSpec : ChangeSpec := { name := "fnExactRateOk", vars := ["loop.example/g00793/impl.currencies"], fn := fun _ => fun
  | [d, g1] => { results := [.lit (.bool true)], args := [d], vars := [g1] }
  | _ => none }
def fnExactRateOkRow : OpenClaim := { program := "ytomfgkfpihemlaadoor", sum := "f5f3dd8c53d35f8ed7ed9fc6e36fd8196b3f8a59c53a4d12babd3959857c5005", func := "loop.example/g00793/laws.FnExactRateOk", spec := "fnExactRateOk", named := ["loop.example/g00793/impl.currencies"], plainKeys := false, apart := false, laid := [("loop.example/g00793/impl.currencies", laid_loop_example_g00793_impl_currencies)] }
def FnExactRateOkSaid : Prop := fnExactRateOkRow.holds Tryd.pinned (OpenSpec.ofChange fnExactRateOkSpec)

/-- ITS FALSE NEIGHBOUR: 'it returns false'. Refute it at one input. -/
def fnExactRateOkWrong : ChangeSpec := { name := "fnExactRateOk", vars := ["loop.example/g00793/impl.currencies"], fn := fun _ => fun
  | [d, g1] => { results := [.lit (.bool false)], args := [d], vars := [g1] }
  | _ => none }
def FnExactRateOkWrongFalsely : Prop := fnExactRateOkRow.holds Tryd.pinned (OpenSpec.ofChange fnExactRateOkWrong)

/-- 'laws.FnExactMoneyNeg': WHATEVER THE INPUT: true; the input reads as it did. -/
def fnExactMoneyNegSpec : ChangeSpec := { name := "fnExactMoneyNeg", vars := ["loop.example/g00793/impl.currencies"], fn := fun _ => fun
  | [d, g1] => { results := [.lit (.bool true)], args := [d], vars := [g1] }
  | _ => none }
def fnExactMoneyNegRow : OpenClaim := { program := "ytomfgkfpihemlaadoor", sum := "f5f3dd8c53d35f8ed7ed9fc6e36fd8196b3f8a59c53a4d12babd3959857c5005", func := "loop.example/g00793/laws.FnExactMoneyNeg", spec := "fnExactMoneyNeg", named := ["loop.example/g00793/impl.currencies"], plainKeys := false, apart := false, laid := [("loop.example/g00793/impl.currencies", laid_loop_example_g00793_impl_currencies)] }
def FnExactMoneyNegSaid : Prop := fnExactMoneyNegRow.holds Tryd.pinned (OpenSpec.ofChange fnExactMoneyNegSpec)

/-- ITS FALSE NEIGHBOUR: 'it returns false'. Refute it at one input. -/
def fnExactMoneyNegWrong : ChangeSpec := { name := "fnExactMoneyNeg", vars := ["loop.example/g00793/impl.currencies"], fn := fun _ => fun
  | [d, g1] => { results := [.lit (.bool false)], args := [d], vars := [g1] }
  | _ => none }
def FnExactMoneyNegWrongFalsely : Prop := fnExactMoneyNegRow.holds Tryd.pinned (OpenSpec.ofChange fnExactMoneyNegWrong)

/-- 'laws.FnExactMoneyCmp': WHATEVER THE INPUT: true; the input reads as it did. -/
def fnExactMoneyCmpSpec : ChangeSpec := { name := "fnExactMoneyCmp", vars := ["loop.example/g00793/impl.currencies"], fn := fun _ => fun
  | [d1, d2, g1] => { results := [.lit (.bool true)], args := [d1, d2], vars := [g1] }
  | _ => none }
def fnExactMoneyCmpRow : OpenClaim := { program := "ytomfgkfpihemlaadoor", sum := "f5f3dd8c53d35f8ed7ed9fc6e36fd8196b3f8a59c53a4d12babd3959857c5005", func := "loop.example/g00793/laws.FnExactMoneyCmp", spec := "fnExactMoneyCmp", named := ["loop.example/g00793/impl.currencies"], plainKeys := false, apart := false, laid := [("loop.example/g00793/impl.currencies", laid_loop_example_g00793_impl_currencies)] }
def FnExactMoneyCmpSaid : Prop := fnExactMoneyCmpRow.holds Tryd.pinned (OpenSpec.ofChange fnExactMoneyCmpSpec)

/-- ITS FALSE NEIGHBOUR: 'it returns false'. Refute it at one input. -/
def fnExactMoneyCmpWrong : ChangeSpec := { name := "fnExactMoneyCmp", vars := ["loop.example/g00793/impl.currencies"], fn := fun _ => fun
  | [d1, d2, g1] => { results := [.lit (.bool false)], args := [d1, d2], vars := [g1] }
  | _ => none }
def FnExactMoneyCmpWrongFalsely : Prop := fnExactMoneyCmpRow.holds Tryd.pinned (OpenSpec.ofChange fnExactMoneyCmpWrong)

/-- 'laws.FnExactMoneyTimes': WHATEVER THE INPUT: true; the input reads as it did. -/
def fnExactMoneyTimesSpec : ChangeSpec := { name := "fnExactMoneyTimes", vars := ["loop.example/g00793/impl.currencies"], fn := fun _ => fun
  | [d1, d2, g1] => { results := [.lit (.bool true)], args := [d1, d2], vars := [g1] }
  | _ => none }
def fnExactMoneyTimesRow : OpenClaim := { program := "ytomfgkfpihemlaadoor", sum := "f5f3dd8c53d35f8ed7ed9fc6e36fd8196b3f8a59c53a4d12babd3959857c5005", func := "loop.example/g00793/laws.FnExactMoneyTimes", spec := "fnExactMoneyTimes", named := ["loop.example/g00793/impl.currencies"], plainKeys := false, apart := false, laid := [("loop.example/g00793/impl.currencies", laid_loop_example_g00793_impl_currencies)] }
def FnExactMoneyTimesSaid : Prop := fnExactMoneyTimesRow.holds Tryd.pinned (OpenSpec.ofChange fnExactMoneyTimesSpec)

/-- ITS FALSE NEIGHBOUR: 'it returns false'. Refute it at one input. -/
def fnExactMoneyTimesWrong : ChangeSpec := { name := "fnExactMoneyTimes", vars := ["loop.example/g00793/impl.currencies"], fn := fun _ => fun
  | [d1, d2, g1] => { results := [.lit (.bool false)], args := [d1, d2], vars := [g1] }
  | _ => none }
def FnExactMoneyTimesWrongFalsely : Prop := fnExactMoneyTimesRow.holds Tryd.pinned (OpenSpec.ofChange fnExactMoneyTimesWrong)

/-- 'laws.FnExactRatesOk': WHATEVER THE INPUT: true; the input reads as it did. -/
def fnExactRatesOkSpec : ChangeSpec := { name := "fnExactRatesOk", vars := ["loop.example/g00793/impl.currencies"], fn := fun _ => fun
  | [d, g1] => { results := [.lit (.bool true)], args := [d], vars := [g1] }
  | _ => none }
def fnExactRatesOkRow : OpenClaim := { program := "ytomfgkfpihemlaadoor", sum := "f5f3dd8c53d35f8ed7ed9fc6e36fd8196b3f8a59c53a4d12babd3959857c5005", func := "loop.example/g00793/laws.FnExactRatesOk", spec := "fnExactRatesOk", named := ["loop.example/g00793/impl.currencies"], plainKeys := false, apart := false, laid := [("loop.example/g00793/impl.currencies", laid_loop_example_g00793_impl_currencies)] }
def FnExactRatesOkSaid : Prop := fnExactRatesOkRow.holds Tryd.pinned (OpenSpec.ofChange fnExactRatesOkSpec)

/-- ITS FALSE NEIGHBOUR: 'it returns false'. Refute it at one input. -/
def fnExactRatesOkWrong : ChangeSpec := { name := "fnExactRatesOk", vars := ["loop.example/g00793/impl.currencies"], fn := fun _ => fun
  | [d, g1] => { results := [.lit (.bool false)], args := [d], vars := [g1] }
  | _ => none }
def FnExactRatesOkWrongFalsely : Prop := fnExactRatesOkRow.holds Tryd.pinned (OpenSpec.ofChange fnExactRatesOkWrong)

/-- 'laws.FnExactMoneyAdd': WHATEVER THE INPUT: true; the input reads as it did. -/
def fnExactMoneyAddSpec : ChangeSpec := { name := "fnExactMoneyAdd", vars := ["loop.example/g00793/impl.currencies"], fn := fun _ => fun
  | [d1, d2, g1] => { results := [.lit (.bool true)], args := [d1, d2], vars := [g1] }
  | _ => none }
def fnExactMoneyAddRow : OpenClaim := { program := "ytomfgkfpihemlaadoor", sum := "f5f3dd8c53d35f8ed7ed9fc6e36fd8196b3f8a59c53a4d12babd3959857c5005", func := "loop.example/g00793/laws.FnExactMoneyAdd", spec := "fnExactMoneyAdd", named := ["loop.example/g00793/impl.currencies"], plainKeys := false, apart := false, laid := [("loop.example/g00793/impl.currencies", laid_loop_example_g00793_impl_currencies)] }
def FnExactMoneyAddSaid : Prop := fnExactMoneyAddRow.holds Tryd.pinned (OpenSpec.ofChange fnExactMoneyAddSpec)

/-- ITS FALSE NEIGHBOUR: 'it returns false'. Refute it at one input. -/
def fnExactMoneyAddWrong : ChangeSpec := { name := "fnExactMoneyAdd", vars := ["loop.example/g00793/impl.currencies"], fn := fun _ => fun
  | [d1, d2, g1] => { results := [.lit (.bool false)], args := [d1, d2], vars := [g1] }
  | _ => none }
def FnExactMoneyAddWrongFalsely : Prop := fnExactMoneyAddRow.holds Tryd.pinned (OpenSpec.ofChange fnExactMoneyAddWrong)

/-- 'laws.FnExactRateHow': WHATEVER THE INPUT: true; the input reads as it did. -/
def fnExactRateHowSpec : ChangeSpec := { name := "fnExactRateHow", vars := ["loop.example/g00793/impl.currencies"], fn := fun _ => fun
  | [d1, d2, d3, g1] => { results := [.lit (.bool true)], args := [d1, d2, d3], vars := [g1] }
  | _ => none }
def fnExactRateHowRow : OpenClaim := { program := "ytomfgkfpihemlaadoor", sum := "f5f3dd8c53d35f8ed7ed9fc6e36fd8196b3f8a59c53a4d12babd3959857c5005", func := "loop.example/g00793/laws.FnExactRateHow", spec := "fnExactRateHow", named := ["loop.example/g00793/impl.currencies"], plainKeys := false, apart := false, laid := [("loop.example/g00793/impl.currencies", laid_loop_example_g00793_impl_currencies)] }
def FnExactRateHowSaid : Prop := fnExactRateHowRow.holds Tryd.pinned (OpenSpec.ofChange fnExactRateHowSpec)

/-- ITS FALSE NEIGHBOUR: 'it returns false'. Refute it at one input. -/
def fnExactRateHowWrong : ChangeSpec := { name := "fnExactRateHow", vars := ["loop.example/g00793/impl.currencies"], fn := fun _ => fun
  | [d1, d2, d3, g1] => { results := [.lit (.bool false)], args := [d1, d2, d3], vars := [g1] }
  | _ => none }
def FnExactRateHowWrongFalsely : Prop := fnExactRateHowRow.holds Tryd.pinned (OpenSpec.ofChange fnExactRateHowWrong)

/-- 'laws.FnExactMoneySub': WHATEVER THE INPUT: true; the input reads as it did. -/
def fnExactMoneySubSpec : ChangeSpec := { name := "fnExactMoneySub", vars := ["loop.example/g00793/impl.currencies"], fn := fun _ => fun
  | [d1, d2, g1] => { results := [.lit (.bool true)], args := [d1, d2], vars := [g1] }
  | _ => none }
def fnExactMoneySubRow : OpenClaim := { program := "ytomfgkfpihemlaadoor", sum := "f5f3dd8c53d35f8ed7ed9fc6e36fd8196b3f8a59c53a4d12babd3959857c5005", func := "loop.example/g00793/laws.FnExactMoneySub", spec := "fnExactMoneySub", named := ["loop.example/g00793/impl.currencies"], plainKeys := false, apart := false, laid := [("loop.example/g00793/impl.currencies", laid_loop_example_g00793_impl_currencies)] }
def FnExactMoneySubSaid : Prop := fnExactMoneySubRow.holds Tryd.pinned (OpenSpec.ofChange fnExactMoneySubSpec)

/-- ITS FALSE NEIGHBOUR: 'it returns false'. Refute it at one input. -/
def fnExactMoneySubWrong : ChangeSpec := { name := "fnExactMoneySub", vars := ["loop.example/g00793/impl.currencies"], fn := fun _ => fun
  | [d1, d2, g1] => { results := [.lit (.bool false)], args := [d1, d2], vars := [g1] }
  | _ => none }
def FnExactMoneySubWrongFalsely : Prop := fnExactMoneySubRow.holds Tryd.pinned (OpenSpec.ofChange fnExactMoneySubWrong)

/-- 'laws.FnExactMoneySum': WHATEVER THE INPUT: true; the input reads as it did. -/
def fnExactMoneySumSpec : ChangeSpec := { name := "fnExactMoneySum", vars := ["loop.example/g00793/impl.currencies"], fn := fun _ => fun
  | [d1, d2, g1] => { results := [.lit (.bool true)], args := [d1, d2], vars := [g1] }
  | _ => none }
def fnExactMoneySumRow : OpenClaim := { program := "ytomfgkfpihemlaadoor", sum := "f5f3dd8c53d35f8ed7ed9fc6e36fd8196b3f8a59c53a4d12babd3959857c5005", func := "loop.example/g00793/laws.FnExactMoneySum", spec := "fnExactMoneySum", named := ["loop.example/g00793/impl.currencies"], plainKeys := false, apart := false, laid := [("loop.example/g00793/impl.currencies", laid_loop_example_g00793_impl_currencies)] }
def FnExactMoneySumSaid : Prop := fnExactMoneySumRow.holds Tryd.pinned (OpenSpec.ofChange fnExactMoneySumSpec)

/-- ITS FALSE NEIGHBOUR: 'it returns false'. Refute it at one input. -/
def fnExactMoneySumWrong : ChangeSpec := { name := "fnExactMoneySum", vars := ["loop.example/g00793/impl.currencies"], fn := fun _ => fun
  | [d1, d2, g1] => { results := [.lit (.bool false)], args := [d1, d2], vars := [g1] }
  | _ => none }
def FnExactMoneySumWrongFalsely : Prop := fnExactMoneySumRow.holds Tryd.pinned (OpenSpec.ofChange fnExactMoneySumWrong)

/- THE SECOND FORM. 'bulk': how many values and letters a reading holds, each counted each time it is reached (what is shared counts as often as it is met; a slice's spare places count too). A statement '..UptoSaid' is the law's where the arguments, and the package variables that the reading takes, are together of bulk at most 1048576: NARROWER than '..Said'. Prove '..Said' where nothing that the law and all that it calls make is longer than what came in: it says more and counts as full. Else prove '..UptoSaid'. A law counts once. -/
mutual
def uptoBulk {H : Type} : DataW H → Nat
  | .lit (.string bytes) => bytes.length + 1
  | .lit _ => 1
  | .nil => 1
  | .ptr d => uptoBulk d + 1
  | .slice elems spare => uptoBulkAll elems + uptoBulkAll spare + 1
  | .agg parts => uptoBulkAll parts + 1
  | .iface _ d => uptoBulk d + 1
  | .map entries => uptoBulkEntries entries + 1
  | .held _ => 1
def uptoBulkAll {H : Type} : List (DataW H) → Nat
  | [] => 0
  | d :: r => uptoBulk d + uptoBulkAll r
def uptoBulkEntries {H : Type} : List (Lit × DataW H) → Nat
  | [] => 0
  | x :: r => uptoBulkEntry x + uptoBulkEntries r
def uptoBulkEntry {H : Type} : Lit × DataW H → Nat
  | (.string bytes, d) => bytes.length + uptoBulk d + 1
  | (_, d) => uptoBulk d + 1
 end
def uptoSmall : (H : Type) → List (DataW H) → Bool := fun _ ds => decide (uptoBulkAll ds ≤ 1048576)
def OpenSpec.upto (s : _root_.Go.ChangeSpec) : _root_.Go.OpenSpec := { _root_.Go.OpenSpec.ofChange s with cond := some uptoSmall }

/-- 'laws.FnExactMoneyOk', WHERE WHAT IT READS IS OF BULK AT MOST 1048576: true; the input reads as it did. -/
def fnExactMoneyOkUptoRow : OpenClaim := { program := "ytomfgkfpihemlaadoor", sum := "f5f3dd8c53d35f8ed7ed9fc6e36fd8196b3f8a59c53a4d12babd3959857c5005", func := "loop.example/g00793/laws.FnExactMoneyOk", spec := "fnExactMoneyOk", named := ["loop.example/g00793/impl.currencies"], plainKeys := false, apart := false, laid := [("loop.example/g00793/impl.currencies", laid_loop_example_g00793_impl_currencies)], narrowed := true }
def FnExactMoneyOkUptoSaid : Prop := fnExactMoneyOkUptoRow.holds Tryd.pinned (OpenSpec.upto fnExactMoneyOkSpec)

/-- 'laws.FnExactCurUnit', WHERE WHAT IT READS IS OF BULK AT MOST 1048576: true; the input reads as it did. -/
def fnExactCurUnitUptoRow : OpenClaim := { program := "ytomfgkfpihemlaadoor", sum := "f5f3dd8c53d35f8ed7ed9fc6e36fd8196b3f8a59c53a4d12babd3959857c5005", func := "loop.example/g00793/laws.FnExactCurUnit", spec := "fnExactCurUnit", named := ["loop.example/g00793/impl.currencies"], plainKeys := false, apart := false, laid := [("loop.example/g00793/impl.currencies", laid_loop_example_g00793_impl_currencies)], narrowed := true }
def FnExactCurUnitUptoSaid : Prop := fnExactCurUnitUptoRow.holds Tryd.pinned (OpenSpec.upto fnExactCurUnitSpec)

/-- 'laws.FnExactMoneyOf', WHERE WHAT IT READS IS OF BULK AT MOST 1048576: true; the input reads as it did. -/
def fnExactMoneyOfUptoRow : OpenClaim := { program := "ytomfgkfpihemlaadoor", sum := "f5f3dd8c53d35f8ed7ed9fc6e36fd8196b3f8a59c53a4d12babd3959857c5005", func := "loop.example/g00793/laws.FnExactMoneyOf", spec := "fnExactMoneyOf", named := ["loop.example/g00793/impl.currencies"], plainKeys := false, apart := false, laid := [("loop.example/g00793/impl.currencies", laid_loop_example_g00793_impl_currencies)], narrowed := true }
def FnExactMoneyOfUptoSaid : Prop := fnExactMoneyOfUptoRow.holds Tryd.pinned (OpenSpec.upto fnExactMoneyOfSpec)

/-- 'laws.FnExactRateOk', WHERE WHAT IT READS IS OF BULK AT MOST 1048576: true; the input reads as it did. -/
def fnExactRateOkUptoRow : OpenClaim := { program := "ytomfgkfpihemlaadoor", sum := "f5f3dd8c53d35f8ed7ed9fc6e36fd8196b3f8a59c53a4d12babd3959857c5005", func := "loop.example/g00793/laws.FnExactRateOk", spec := "fnExactRateOk", named := ["loop.example/g00793/impl.currencies"], plainKeys := false, apart := false, laid := [("loop.example/g00793/impl.currencies", laid_loop_example_g00793_impl_currencies)], narrowed := true }
def FnExactRateOkUptoSaid : Prop := fnExactRateOkUptoRow.holds Tryd.pinned (OpenSpec.upto fnExactRateOkSpec)

/-- 'laws.FnExactMoneyNeg', WHERE WHAT IT READS IS OF BULK AT MOST 1048576: true; the input reads as it did. -/
def fnExactMoneyNegUptoRow : OpenClaim := { program := "ytomfgkfpihemlaadoor", sum := "f5f3dd8c53d35f8ed7ed9fc6e36fd8196b3f8a59c53a4d12babd3959857c5005", func := "loop.example/g00793/laws.FnExactMoneyNeg", spec := "fnExactMoneyNeg", named := ["loop.example/g00793/impl.currencies"], plainKeys := false, apart := false, laid := [("loop.example/g00793/impl.currencies", laid_loop_example_g00793_impl_currencies)], narrowed := true }
def FnExactMoneyNegUptoSaid : Prop := fnExactMoneyNegUptoRow.holds Tryd.pinned (OpenSpec.upto fnExactMoneyNegSpec)

/-- 'laws.FnExactMoneyCmp', WHERE WHAT IT READS IS OF BULK AT MOST 1048576: true; the input reads as it did. -/
def fnExactMoneyCmpUptoRow : OpenClaim := { program := "ytomfgkfpihemlaadoor", sum := "f5f3dd8c53d35f8ed7ed9fc6e36fd8196b3f8a59c53a4d12babd3959857c5005", func := "loop.example/g00793/laws.FnExactMoneyCmp", spec := "fnExactMoneyCmp", named := ["loop.example/g00793/impl.currencies"], plainKeys := false, apart := false, laid := [("loop.example/g00793/impl.currencies", laid_loop_example_g00793_impl_currencies)], narrowed := true }
def FnExactMoneyCmpUptoSaid : Prop := fnExactMoneyCmpUptoRow.holds Tryd.pinned (OpenSpec.upto fnExactMoneyCmpSpec)

/-- 'laws.FnExactMoneyTimes', WHERE WHAT IT READS IS OF BULK AT MOST 1048576: true; the input reads as it did. -/
def fnExactMoneyTimesUptoRow : OpenClaim := { program := "ytomfgkfpihemlaadoor", sum := "f5f3dd8c53d35f8ed7ed9fc6e36fd8196b3f8a59c53a4d12babd3959857c5005", func := "loop.example/g00793/laws.FnExactMoneyTimes", spec := "fnExactMoneyTimes", named := ["loop.example/g00793/impl.currencies"], plainKeys := false, apart := false, laid := [("loop.example/g00793/impl.currencies", laid_loop_example_g00793_impl_currencies)], narrowed := true }
def FnExactMoneyTimesUptoSaid : Prop := fnExactMoneyTimesUptoRow.holds Tryd.pinned (OpenSpec.upto fnExactMoneyTimesSpec)

/-- 'laws.FnExactRatesOk', WHERE WHAT IT READS IS OF BULK AT MOST 1048576: true; the input reads as it did. -/
def fnExactRatesOkUptoRow : OpenClaim := { program := "ytomfgkfpihemlaadoor", sum := "f5f3dd8c53d35f8ed7ed9fc6e36fd8196b3f8a59c53a4d12babd3959857c5005", func := "loop.example/g00793/laws.FnExactRatesOk", spec := "fnExactRatesOk", named := ["loop.example/g00793/impl.currencies"], plainKeys := false, apart := false, laid := [("loop.example/g00793/impl.currencies", laid_loop_example_g00793_impl_currencies)], narrowed := true }
def FnExactRatesOkUptoSaid : Prop := fnExactRatesOkUptoRow.holds Tryd.pinned (OpenSpec.upto fnExactRatesOkSpec)

/-- 'laws.FnExactMoneyAdd', WHERE WHAT IT READS IS OF BULK AT MOST 1048576: true; the input reads as it did. -/
def fnExactMoneyAddUptoRow : OpenClaim := { program := "ytomfgkfpihemlaadoor", sum := "f5f3dd8c53d35f8ed7ed9fc6e36fd8196b3f8a59c53a4d12babd3959857c5005", func := "loop.example/g00793/laws.FnExactMoneyAdd", spec := "fnExactMoneyAdd", named := ["loop.example/g00793/impl.currencies"], plainKeys := false, apart := false, laid := [("loop.example/g00793/impl.currencies", laid_loop_example_g00793_impl_currencies)], narrowed := true }
def FnExactMoneyAddUptoSaid : Prop := fnExactMoneyAddUptoRow.holds Tryd.pinned (OpenSpec.upto fnExactMoneyAddSpec)

/-- 'laws.FnExactRateHow', WHERE WHAT IT READS IS OF BULK AT MOST 1048576: true; the input reads as it did. -/
def fnExactRateHowUptoRow : OpenClaim := { program := "ytomfgkfpihemlaadoor", sum := "f5f3dd8c53d35f8ed7ed9fc6e36fd8196b3f8a59c53a4d12babd3959857c5005", func := "loop.example/g00793/laws.FnExactRateHow", spec := "fnExactRateHow", named := ["loop.example/g00793/impl.currencies"], plainKeys := false, apart := false, laid := [("loop.example/g00793/impl.currencies", laid_loop_example_g00793_impl_currencies)], narrowed := true }
def FnExactRateHowUptoSaid : Prop := fnExactRateHowUptoRow.holds Tryd.pinned (OpenSpec.upto fnExactRateHowSpec)

/-- 'laws.FnExactMoneySub', WHERE WHAT IT READS IS OF BULK AT MOST 1048576: true; the input reads as it did. -/
def fnExactMoneySubUptoRow : OpenClaim := { program := "ytomfgkfpihemlaadoor", sum := "f5f3dd8c53d35f8ed7ed9fc6e36fd8196b3f8a59c53a4d12babd3959857c5005", func := "loop.example/g00793/laws.FnExactMoneySub", spec := "fnExactMoneySub", named := ["loop.example/g00793/impl.currencies"], plainKeys := false, apart := false, laid := [("loop.example/g00793/impl.currencies", laid_loop_example_g00793_impl_currencies)], narrowed := true }
def FnExactMoneySubUptoSaid : Prop := fnExactMoneySubUptoRow.holds Tryd.pinned (OpenSpec.upto fnExactMoneySubSpec)

/-- 'laws.FnExactMoneySum', WHERE WHAT IT READS IS OF BULK AT MOST 1048576: true; the input reads as it did. -/
def fnExactMoneySumUptoRow : OpenClaim := { program := "ytomfgkfpihemlaadoor", sum := "f5f3dd8c53d35f8ed7ed9fc6e36fd8196b3f8a59c53a4d12babd3959857c5005", func := "loop.example/g00793/laws.FnExactMoneySum", spec := "fnExactMoneySum", named := ["loop.example/g00793/impl.currencies"], plainKeys := false, apart := false, laid := [("loop.example/g00793/impl.currencies", laid_loop_example_g00793_impl_currencies)], narrowed := true }
def FnExactMoneySumUptoSaid : Prop := fnExactMoneySumUptoRow.holds Tryd.pinned (OpenSpec.upto fnExactMoneySumSpec)

end Rows
end Go.Proofs.YtomfgkfpihemlaaDoor
