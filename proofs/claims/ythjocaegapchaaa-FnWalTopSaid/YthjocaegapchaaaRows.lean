/-
  No cell of these rows narrows 'for every input' (looked for: loops, veiled, ifaces, maps, wideKeys, modest, calm, conditions, laid).
  DERIVED. THE GIVEN ROWS OF THIS SEAT. 8 by the template 'for every input the law returns true; each argument reads behind the call as it read before'; 0 by the template 'total and deterministic' (their statements: YthjocaegapchaaaTotals.lean).
  GIVEN WITH THE SEED: the statements are not yours to turn. If you find one false, say at which input.
  Laid BY PROGRAM, IN A SANDBOX (cutbox-rows.mjs): the forced cells as the released guide's own fill.sh prints them over the translation 47fa934073983212… (all of the seat's roots in one cut). By AI agents, Wed Nov 11 2026. No macro, syntax, notation, axiom, sorry.
-/
import Derived.Test.YthjocaegapchaaaChecked
import GoSem.Claim
import GoSem.ClaimJoined
import GoSem.ClaimMapViews
import Derived.JoinedTies
import Derived.KernelRfl
namespace Go.Proofs.Ythjocaegapchaaa
/- THE CELL 'sum', in the pinned program and in every row, IS THE sha256 OF THE DUMP (.gsa) THAT YthjocaegapchaaaProg.lean LOADS. Nothing in Lean hashes anything: it is a label: what it is worth is what the hold of that sum in a sandbox is worth. -/
noncomputable def Try.pinned : Pinned := { name := "ythjocaegapchaaa", sum := "47fa9340739832128a1ed282bcd106f159864a7c1695a35adbee9320d27edc26", checked := Try.checked }
namespace Rows
def none {H : Type} : Left H := { results := [], args := [] }

/-- 'laws.FnExactWalRead': WHATEVER THE INPUT: true; the input reads as it did. -/
def fnExactWalReadSpec : ChangeSpec := { name := "fnExactWalRead", fn := fun _ => fun
  | [d] => { results := [.lit (.bool true)], args := [d] }
  | _ => none }
def fnExactWalReadRow : OpenClaim := { program := "ythjocaegapchaaa", sum := "47fa9340739832128a1ed282bcd106f159864a7c1695a35adbee9320d27edc26", func := "loop.example/pannier/laws.FnExactWalRead", spec := "fnExactWalRead", apart := false }
def FnExactWalReadSaid : Prop := fnExactWalReadRow.holds Try.pinned (OpenSpec.ofChange fnExactWalReadSpec)

/-- ITS FALSE NEIGHBOUR: 'it returns false'. Refute it at one input. -/
def fnExactWalReadWrong : ChangeSpec := { name := "fnExactWalRead", fn := fun _ => fun
  | [d] => { results := [.lit (.bool false)], args := [d] }
  | _ => none }
def FnExactWalReadWrongFalsely : Prop := fnExactWalReadRow.holds Try.pinned (OpenSpec.ofChange fnExactWalReadWrong)

/-- 'laws.FnExactWalMend': WHATEVER THE INPUT: true; the input reads as it did. -/
def fnExactWalMendSpec : ChangeSpec := { name := "fnExactWalMend", fn := fun _ => fun
  | [d] => { results := [.lit (.bool true)], args := [d] }
  | _ => none }
def fnExactWalMendRow : OpenClaim := { program := "ythjocaegapchaaa", sum := "47fa9340739832128a1ed282bcd106f159864a7c1695a35adbee9320d27edc26", func := "loop.example/pannier/laws.FnExactWalMend", spec := "fnExactWalMend", apart := false }
def FnExactWalMendSaid : Prop := fnExactWalMendRow.holds Try.pinned (OpenSpec.ofChange fnExactWalMendSpec)

/-- ITS FALSE NEIGHBOUR: 'it returns false'. Refute it at one input. -/
def fnExactWalMendWrong : ChangeSpec := { name := "fnExactWalMend", fn := fun _ => fun
  | [d] => { results := [.lit (.bool false)], args := [d] }
  | _ => none }
def FnExactWalMendWrongFalsely : Prop := fnExactWalMendRow.holds Try.pinned (OpenSpec.ofChange fnExactWalMendWrong)

/-- 'laws.FnExactWalSteps': WHATEVER THE INPUT: true; the input reads as it did. -/
def fnExactWalStepsSpec : ChangeSpec := { name := "fnExactWalSteps", fn := fun _ => fun
  | [d1, d2] => { results := [.lit (.bool true)], args := [d1, d2] }
  | _ => none }
def fnExactWalStepsRow : OpenClaim := { program := "ythjocaegapchaaa", sum := "47fa9340739832128a1ed282bcd106f159864a7c1695a35adbee9320d27edc26", func := "loop.example/pannier/laws.FnExactWalSteps", spec := "fnExactWalSteps", apart := false }
def FnExactWalStepsSaid : Prop := fnExactWalStepsRow.holds Try.pinned (OpenSpec.ofChange fnExactWalStepsSpec)

/-- ITS FALSE NEIGHBOUR: 'it returns false'. Refute it at one input. -/
def fnExactWalStepsWrong : ChangeSpec := { name := "fnExactWalSteps", fn := fun _ => fun
  | [d1, d2] => { results := [.lit (.bool false)], args := [d1, d2] }
  | _ => none }
def FnExactWalStepsWrongFalsely : Prop := fnExactWalStepsRow.holds Try.pinned (OpenSpec.ofChange fnExactWalStepsWrong)

/-- 'laws.FnWalMend': WHATEVER THE INPUT: true; the input reads as it did. -/
def fnWalMendSpec : ChangeSpec := { name := "fnWalMend", fn := fun _ => fun
  | [d] => { results := [.lit (.bool true)], args := [d] }
  | _ => none }
def fnWalMendRow : OpenClaim := { program := "ythjocaegapchaaa", sum := "47fa9340739832128a1ed282bcd106f159864a7c1695a35adbee9320d27edc26", func := "loop.example/pannier/laws.FnWalMend", spec := "fnWalMend", apart := false }
def FnWalMendSaid : Prop := fnWalMendRow.holds Try.pinned (OpenSpec.ofChange fnWalMendSpec)

/-- ITS FALSE NEIGHBOUR: 'it returns false'. Refute it at one input. -/
def fnWalMendWrong : ChangeSpec := { name := "fnWalMend", fn := fun _ => fun
  | [d] => { results := [.lit (.bool false)], args := [d] }
  | _ => none }
def FnWalMendWrongFalsely : Prop := fnWalMendRow.holds Try.pinned (OpenSpec.ofChange fnWalMendWrong)

/-- 'laws.FnExactWalDo': WHATEVER THE INPUT: true; the input reads as it did. -/
def fnExactWalDoSpec : ChangeSpec := { name := "fnExactWalDo", fn := fun _ => fun
  | [d1, d2, d3, d4, d5] => { results := [.lit (.bool true)], args := [d1, d2, d3, d4, d5] }
  | _ => none }
def fnExactWalDoRow : OpenClaim := { program := "ythjocaegapchaaa", sum := "47fa9340739832128a1ed282bcd106f159864a7c1695a35adbee9320d27edc26", func := "loop.example/pannier/laws.FnExactWalDo", spec := "fnExactWalDo", apart := false }
def FnExactWalDoSaid : Prop := fnExactWalDoRow.holds Try.pinned (OpenSpec.ofChange fnExactWalDoSpec)

/-- ITS FALSE NEIGHBOUR: 'it returns false'. Refute it at one input. -/
def fnExactWalDoWrong : ChangeSpec := { name := "fnExactWalDo", fn := fun _ => fun
  | [d1, d2, d3, d4, d5] => { results := [.lit (.bool false)], args := [d1, d2, d3, d4, d5] }
  | _ => none }
def FnExactWalDoWrongFalsely : Prop := fnExactWalDoRow.holds Try.pinned (OpenSpec.ofChange fnExactWalDoWrong)

/-- 'laws.FnWalDone': WHATEVER THE INPUT: true; the input reads as it did. -/
def fnWalDoneSpec : ChangeSpec := { name := "fnWalDone", fn := fun _ => fun
  | [d] => { results := [.lit (.bool true)], args := [d] }
  | _ => none }
def fnWalDoneRow : OpenClaim := { program := "ythjocaegapchaaa", sum := "47fa9340739832128a1ed282bcd106f159864a7c1695a35adbee9320d27edc26", func := "loop.example/pannier/laws.FnWalDone", spec := "fnWalDone", apart := false }
def FnWalDoneSaid : Prop := fnWalDoneRow.holds Try.pinned (OpenSpec.ofChange fnWalDoneSpec)

/-- ITS FALSE NEIGHBOUR: 'it returns false'. Refute it at one input. -/
def fnWalDoneWrong : ChangeSpec := { name := "fnWalDone", fn := fun _ => fun
  | [d] => { results := [.lit (.bool false)], args := [d] }
  | _ => none }
def FnWalDoneWrongFalsely : Prop := fnWalDoneRow.holds Try.pinned (OpenSpec.ofChange fnWalDoneWrong)

/-- 'laws.FnWalTwice': WHATEVER THE INPUT: true; the input reads as it did. -/
def fnWalTwiceSpec : ChangeSpec := { name := "fnWalTwice", fn := fun _ => fun
  | [d1, d2] => { results := [.lit (.bool true)], args := [d1, d2] }
  | _ => none }
def fnWalTwiceRow : OpenClaim := { program := "ythjocaegapchaaa", sum := "47fa9340739832128a1ed282bcd106f159864a7c1695a35adbee9320d27edc26", func := "loop.example/pannier/laws.FnWalTwice", spec := "fnWalTwice", apart := false }
def FnWalTwiceSaid : Prop := fnWalTwiceRow.holds Try.pinned (OpenSpec.ofChange fnWalTwiceSpec)

/-- ITS FALSE NEIGHBOUR: 'it returns false'. Refute it at one input. -/
def fnWalTwiceWrong : ChangeSpec := { name := "fnWalTwice", fn := fun _ => fun
  | [d1, d2] => { results := [.lit (.bool false)], args := [d1, d2] }
  | _ => none }
def FnWalTwiceWrongFalsely : Prop := fnWalTwiceRow.holds Try.pinned (OpenSpec.ofChange fnWalTwiceWrong)

/-- 'laws.FnWalTop': WHATEVER THE INPUT: true; the input reads as it did. -/
def fnWalTopSpec : ChangeSpec := { name := "fnWalTop", fn := fun _ => fun
  | [d1, d2] => { results := [.lit (.bool true)], args := [d1, d2] }
  | _ => none }
def fnWalTopRow : OpenClaim := { program := "ythjocaegapchaaa", sum := "47fa9340739832128a1ed282bcd106f159864a7c1695a35adbee9320d27edc26", func := "loop.example/pannier/laws.FnWalTop", spec := "fnWalTop", apart := false }
def FnWalTopSaid : Prop := fnWalTopRow.holds Try.pinned (OpenSpec.ofChange fnWalTopSpec)

/-- ITS FALSE NEIGHBOUR: 'it returns false'. Refute it at one input. -/
def fnWalTopWrong : ChangeSpec := { name := "fnWalTop", fn := fun _ => fun
  | [d1, d2] => { results := [.lit (.bool false)], args := [d1, d2] }
  | _ => none }
def FnWalTopWrongFalsely : Prop := fnWalTopRow.holds Try.pinned (OpenSpec.ofChange fnWalTopWrong)

/- THE SECOND FORM. 'bulk': how many values and letters a reading holds, each counted each time it is reached (what is shared counts as often as it is met; a slice's spare places count too). A statement '..UptoSaid' is the law's where the arguments, and the package variables that the reading takes, are together of bulk at most 1048576: NARROWER than '..Said'. Prove '..Said' where nothing that the law and all that it calls make is longer than what came in: it says more and counts as full. Else prove '..UptoSaid'. A law counts once. -/
mutual
def uptoBulk {H : Type} : DataW H → Nat
  | .lit (.string bytes) => bytes.length + 1
  | .lit _ => 1
  | .nil => 1
  | .ptr d => uptoBulk d + 1
  | .slice elems spare => uptoBulkAll elems + uptoBulkAll spare + 1
  | .agg parts => uptoBulkAll parts + 1
  | .iface _ d => uptoBulk d + 1
  | .map entries => uptoBulkEntries entries + 1
  | .held _ => 1
def uptoBulkAll {H : Type} : List (DataW H) → Nat
  | [] => 0
  | d :: r => uptoBulk d + uptoBulkAll r
def uptoBulkEntries {H : Type} : List (Lit × DataW H) → Nat
  | [] => 0
  | x :: r => uptoBulkEntry x + uptoBulkEntries r
def uptoBulkEntry {H : Type} : Lit × DataW H → Nat
  | (.string bytes, d) => bytes.length + uptoBulk d + 1
  | (_, d) => uptoBulk d + 1
 end
def uptoSmall : (H : Type) → List (DataW H) → Bool := fun _ ds => decide (uptoBulkAll ds ≤ 1048576)
def OpenSpec.upto (s : _root_.Go.ChangeSpec) : _root_.Go.OpenSpec := { _root_.Go.OpenSpec.ofChange s with cond := some uptoSmall }

/-- 'laws.FnExactWalRead', WHERE WHAT IT READS IS OF BULK AT MOST 1048576: true; the input reads as it did. -/
def fnExactWalReadUptoRow : OpenClaim := { program := "ythjocaegapchaaa", sum := "47fa9340739832128a1ed282bcd106f159864a7c1695a35adbee9320d27edc26", func := "loop.example/pannier/laws.FnExactWalRead", spec := "fnExactWalRead", apart := false, narrowed := true }
def FnExactWalReadUptoSaid : Prop := fnExactWalReadUptoRow.holds Try.pinned (OpenSpec.upto fnExactWalReadSpec)

/-- 'laws.FnExactWalMend', WHERE WHAT IT READS IS OF BULK AT MOST 1048576: true; the input reads as it did. -/
def fnExactWalMendUptoRow : OpenClaim := { program := "ythjocaegapchaaa", sum := "47fa9340739832128a1ed282bcd106f159864a7c1695a35adbee9320d27edc26", func := "loop.example/pannier/laws.FnExactWalMend", spec := "fnExactWalMend", apart := false, narrowed := true }
def FnExactWalMendUptoSaid : Prop := fnExactWalMendUptoRow.holds Try.pinned (OpenSpec.upto fnExactWalMendSpec)

/-- 'laws.FnExactWalSteps', WHERE WHAT IT READS IS OF BULK AT MOST 1048576: true; the input reads as it did. -/
def fnExactWalStepsUptoRow : OpenClaim := { program := "ythjocaegapchaaa", sum := "47fa9340739832128a1ed282bcd106f159864a7c1695a35adbee9320d27edc26", func := "loop.example/pannier/laws.FnExactWalSteps", spec := "fnExactWalSteps", apart := false, narrowed := true }
def FnExactWalStepsUptoSaid : Prop := fnExactWalStepsUptoRow.holds Try.pinned (OpenSpec.upto fnExactWalStepsSpec)

/-- 'laws.FnWalMend', WHERE WHAT IT READS IS OF BULK AT MOST 1048576: true; the input reads as it did. -/
def fnWalMendUptoRow : OpenClaim := { program := "ythjocaegapchaaa", sum := "47fa9340739832128a1ed282bcd106f159864a7c1695a35adbee9320d27edc26", func := "loop.example/pannier/laws.FnWalMend", spec := "fnWalMend", apart := false, narrowed := true }
def FnWalMendUptoSaid : Prop := fnWalMendUptoRow.holds Try.pinned (OpenSpec.upto fnWalMendSpec)

/-- 'laws.FnExactWalDo', WHERE WHAT IT READS IS OF BULK AT MOST 1048576: true; the input reads as it did. -/
def fnExactWalDoUptoRow : OpenClaim := { program := "ythjocaegapchaaa", sum := "47fa9340739832128a1ed282bcd106f159864a7c1695a35adbee9320d27edc26", func := "loop.example/pannier/laws.FnExactWalDo", spec := "fnExactWalDo", apart := false, narrowed := true }
def FnExactWalDoUptoSaid : Prop := fnExactWalDoUptoRow.holds Try.pinned (OpenSpec.upto fnExactWalDoSpec)

/-- 'laws.FnWalDone', WHERE WHAT IT READS IS OF BULK AT MOST 1048576: true; the input reads as it did. -/
def fnWalDoneUptoRow : OpenClaim := { program := "ythjocaegapchaaa", sum := "47fa9340739832128a1ed282bcd106f159864a7c1695a35adbee9320d27edc26", func := "loop.example/pannier/laws.FnWalDone", spec := "fnWalDone", apart := false, narrowed := true }
def FnWalDoneUptoSaid : Prop := fnWalDoneUptoRow.holds Try.pinned (OpenSpec.upto fnWalDoneSpec)

/-- 'laws.FnWalTwice', WHERE WHAT IT READS IS OF BULK AT MOST 1048576: true; the input reads as it did. -/
def fnWalTwiceUptoRow : OpenClaim := { program := "ythjocaegapchaaa", sum := "47fa9340739832128a1ed282bcd106f159864a7c1695a35adbee9320d27edc26", func := "loop.example/pannier/laws.FnWalTwice", spec := "fnWalTwice", apart := false, narrowed := true }
def FnWalTwiceUptoSaid : Prop := fnWalTwiceUptoRow.holds Try.pinned (OpenSpec.upto fnWalTwiceSpec)

/-- 'laws.FnWalTop', WHERE WHAT IT READS IS OF BULK AT MOST 1048576: true; the input reads as it did. -/
def fnWalTopUptoRow : OpenClaim := { program := "ythjocaegapchaaa", sum := "47fa9340739832128a1ed282bcd106f159864a7c1695a35adbee9320d27edc26", func := "loop.example/pannier/laws.FnWalTop", spec := "fnWalTop", apart := false, narrowed := true }
def FnWalTopUptoSaid : Prop := fnWalTopUptoRow.holds Try.pinned (OpenSpec.upto fnWalTopSpec)

end Rows
end Go.Proofs.Ythjocaegapchaaa
