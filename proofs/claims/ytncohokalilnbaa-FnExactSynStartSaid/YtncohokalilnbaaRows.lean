/-
  No cell of these rows narrows 'for every input' (looked for: loops, veiled, ifaces, maps, wideKeys, modest, calm, conditions, laid).
  DERIVED. THE GIVEN ROWS OF THIS SEAT. 7 by the template 'for every input the law returns true; each argument reads behind the call as it read before'; 0 by the template 'total and deterministic' (their statements: YtncohokalilnbaaTotals.lean).
  GIVEN WITH THE SEED: the statements are not yours to turn. If you find one false, say at which input.
  Laid BY PROGRAM, IN A SANDBOX (cutbox-rows.mjs): the forced cells as the released guide's own fill.sh prints them over the translation 96694059df7649af… (all of the seat's roots in one cut). By AI agents, Wed Nov 11 2026. No macro, syntax, notation, axiom, sorry.
-/
import Derived.Test.YtncohokalilnbaaChecked
import GoSem.Claim
import GoSem.ClaimJoined
import GoSem.ClaimMapViews
import Derived.JoinedTies
import Derived.KernelRfl
namespace Go.Proofs.Ytncohokalilnbaa
/- THE CELL 'sum', in the pinned program and in every row, IS THE sha256 OF THE DUMP (.gsa) THAT YtncohokalilnbaaProg.lean LOADS. Nothing in Lean hashes anything: it is a label: what it is worth is what the hold of that sum in a sandbox is worth. -/
noncomputable def Try.pinned : Pinned := { name := "ytncohokalilnbaa", sum := "96694059df7649af994103e7185ac7839c062bb32f526fbeade949df3bc07c9c", checked := Try.checked }
namespace Rows
def none {H : Type} : Left H := { results := [], args := [] }

/-- 'laws.FnExactSynStart': WHATEVER THE INPUT: true; the input reads as it did. -/
def fnExactSynStartSpec : ChangeSpec := { name := "fnExactSynStart", fn := fun _ => fun
  | [] => { results := [.lit (.bool true)], args := [] }
  | _ => none }
def fnExactSynStartRow : OpenClaim := { program := "ytncohokalilnbaa", sum := "96694059df7649af994103e7185ac7839c062bb32f526fbeade949df3bc07c9c", func := "loop.example/pannier/laws.FnExactSynStart", spec := "fnExactSynStart", apart := false }
def FnExactSynStartSaid : Prop := fnExactSynStartRow.holds Try.pinned (OpenSpec.ofChange fnExactSynStartSpec)

/-- ITS FALSE NEIGHBOUR: 'it returns false'. Refute it at one input. -/
def fnExactSynStartWrong : ChangeSpec := { name := "fnExactSynStart", fn := fun _ => fun
  | [] => { results := [.lit (.bool false)], args := [] }
  | _ => none }
def FnExactSynStartWrongFalsely : Prop := fnExactSynStartRow.holds Try.pinned (OpenSpec.ofChange fnExactSynStartWrong)

/-- 'laws.FnExactSynCouncilOk': WHATEVER THE INPUT: true; the input reads as it did. -/
def fnExactSynCouncilOkSpec : ChangeSpec := { name := "fnExactSynCouncilOk", fn := fun _ => fun
  | [d] => { results := [.lit (.bool true)], args := [d] }
  | _ => none }
def fnExactSynCouncilOkRow : OpenClaim := { program := "ytncohokalilnbaa", sum := "96694059df7649af994103e7185ac7839c062bb32f526fbeade949df3bc07c9c", func := "loop.example/pannier/laws.FnExactSynCouncilOk", spec := "fnExactSynCouncilOk", apart := false }
def FnExactSynCouncilOkSaid : Prop := fnExactSynCouncilOkRow.holds Try.pinned (OpenSpec.ofChange fnExactSynCouncilOkSpec)

/-- ITS FALSE NEIGHBOUR: 'it returns false'. Refute it at one input. -/
def fnExactSynCouncilOkWrong : ChangeSpec := { name := "fnExactSynCouncilOk", fn := fun _ => fun
  | [d] => { results := [.lit (.bool false)], args := [d] }
  | _ => none }
def FnExactSynCouncilOkWrongFalsely : Prop := fnExactSynCouncilOkRow.holds Try.pinned (OpenSpec.ofChange fnExactSynCouncilOkWrong)

/-- 'laws.FnExactSynChosen': WHATEVER THE INPUT: true; the input reads as it did. -/
def fnExactSynChosenSpec : ChangeSpec := { name := "fnExactSynChosen", fn := fun _ => fun
  | [d1, d2] => { results := [.lit (.bool true)], args := [d1, d2] }
  | _ => none }
def fnExactSynChosenRow : OpenClaim := { program := "ytncohokalilnbaa", sum := "96694059df7649af994103e7185ac7839c062bb32f526fbeade949df3bc07c9c", func := "loop.example/pannier/laws.FnExactSynChosen", spec := "fnExactSynChosen", apart := false }
def FnExactSynChosenSaid : Prop := fnExactSynChosenRow.holds Try.pinned (OpenSpec.ofChange fnExactSynChosenSpec)

/-- ITS FALSE NEIGHBOUR: 'it returns false'. Refute it at one input. -/
def fnExactSynChosenWrong : ChangeSpec := { name := "fnExactSynChosen", fn := fun _ => fun
  | [d1, d2] => { results := [.lit (.bool false)], args := [d1, d2] }
  | _ => none }
def FnExactSynChosenWrongFalsely : Prop := fnExactSynChosenRow.holds Try.pinned (OpenSpec.ofChange fnExactSynChosenWrong)

/-- 'laws.FnSynChosen': WHATEVER THE INPUT: true; the input reads as it did. -/
def fnSynChosenSpec : ChangeSpec := { name := "fnSynChosen", fn := fun _ => fun
  | [d] => { results := [.lit (.bool true)], args := [d] }
  | _ => none }
def fnSynChosenRow : OpenClaim := { program := "ytncohokalilnbaa", sum := "96694059df7649af994103e7185ac7839c062bb32f526fbeade949df3bc07c9c", func := "loop.example/pannier/laws.FnSynChosen", spec := "fnSynChosen", apart := false }
def FnSynChosenSaid : Prop := fnSynChosenRow.holds Try.pinned (OpenSpec.ofChange fnSynChosenSpec)

/-- ITS FALSE NEIGHBOUR: 'it returns false'. Refute it at one input. -/
def fnSynChosenWrong : ChangeSpec := { name := "fnSynChosen", fn := fun _ => fun
  | [d] => { results := [.lit (.bool false)], args := [d] }
  | _ => none }
def FnSynChosenWrongFalsely : Prop := fnSynChosenRow.holds Try.pinned (OpenSpec.ofChange fnSynChosenWrong)

/-- 'laws.FnSynTop': WHATEVER THE INPUT: true; the input reads as it did. -/
def fnSynTopSpec : ChangeSpec := { name := "fnSynTop", fn := fun _ => fun
  | [d1, d2] => { results := [.lit (.bool true)], args := [d1, d2] }
  | _ => none }
def fnSynTopRow : OpenClaim := { program := "ytncohokalilnbaa", sum := "96694059df7649af994103e7185ac7839c062bb32f526fbeade949df3bc07c9c", func := "loop.example/pannier/laws.FnSynTop", spec := "fnSynTop", apart := false }
def FnSynTopSaid : Prop := fnSynTopRow.holds Try.pinned (OpenSpec.ofChange fnSynTopSpec)

/-- ITS FALSE NEIGHBOUR: 'it returns false'. Refute it at one input. -/
def fnSynTopWrong : ChangeSpec := { name := "fnSynTop", fn := fun _ => fun
  | [d1, d2] => { results := [.lit (.bool false)], args := [d1, d2] }
  | _ => none }
def FnSynTopWrongFalsely : Prop := fnSynTopRow.holds Try.pinned (OpenSpec.ofChange fnSynTopWrong)

/-- 'laws.FnSynDo': WHATEVER THE INPUT: true; the input reads as it did. -/
def fnSynDoSpec : ChangeSpec := { name := "fnSynDo", fn := fun _ => fun
  | [d] => { results := [.lit (.bool true)], args := [d] }
  | _ => none }
def fnSynDoRow : OpenClaim := { program := "ytncohokalilnbaa", sum := "96694059df7649af994103e7185ac7839c062bb32f526fbeade949df3bc07c9c", func := "loop.example/pannier/laws.FnSynDo", spec := "fnSynDo", apart := false }
def FnSynDoSaid : Prop := fnSynDoRow.holds Try.pinned (OpenSpec.ofChange fnSynDoSpec)

/-- ITS FALSE NEIGHBOUR: 'it returns false'. Refute it at one input. -/
def fnSynDoWrong : ChangeSpec := { name := "fnSynDo", fn := fun _ => fun
  | [d] => { results := [.lit (.bool false)], args := [d] }
  | _ => none }
def FnSynDoWrongFalsely : Prop := fnSynDoRow.holds Try.pinned (OpenSpec.ofChange fnSynDoWrong)

/-- 'laws.FnSynCalm': WHATEVER THE INPUT: true; the input reads as it did. -/
def fnSynCalmSpec : ChangeSpec := { name := "fnSynCalm", fn := fun _ => fun
  | [d] => { results := [.lit (.bool true)], args := [d] }
  | _ => none }
def fnSynCalmRow : OpenClaim := { program := "ytncohokalilnbaa", sum := "96694059df7649af994103e7185ac7839c062bb32f526fbeade949df3bc07c9c", func := "loop.example/pannier/laws.FnSynCalm", spec := "fnSynCalm", apart := false }
def FnSynCalmSaid : Prop := fnSynCalmRow.holds Try.pinned (OpenSpec.ofChange fnSynCalmSpec)

/-- ITS FALSE NEIGHBOUR: 'it returns false'. Refute it at one input. -/
def fnSynCalmWrong : ChangeSpec := { name := "fnSynCalm", fn := fun _ => fun
  | [d] => { results := [.lit (.bool false)], args := [d] }
  | _ => none }
def FnSynCalmWrongFalsely : Prop := fnSynCalmRow.holds Try.pinned (OpenSpec.ofChange fnSynCalmWrong)

/- THE SECOND FORM. 'bulk': how many values and letters a reading holds, each counted each time it is reached (what is shared counts as often as it is met; a slice's spare places count too). A statement '..UptoSaid' is the law's where the arguments, and the package variables that the reading takes, are together of bulk at most 1048576: NARROWER than '..Said'. Prove '..Said' where nothing that the law and all that it calls make is longer than what came in: it says more and counts as full. Else prove '..UptoSaid'. A law counts once. -/
mutual
def uptoBulk {H : Type} : DataW H → Nat
  | .lit (.string bytes) => bytes.length + 1
  | .lit _ => 1
  | .nil => 1
  | .ptr d => uptoBulk d + 1
  | .slice elems spare => uptoBulkAll elems + uptoBulkAll spare + 1
  | .agg parts => uptoBulkAll parts + 1
  | .iface _ d => uptoBulk d + 1
  | .map entries => uptoBulkEntries entries + 1
  | .held _ => 1
def uptoBulkAll {H : Type} : List (DataW H) → Nat
  | [] => 0
  | d :: r => uptoBulk d + uptoBulkAll r
def uptoBulkEntries {H : Type} : List (Lit × DataW H) → Nat
  | [] => 0
  | x :: r => uptoBulkEntry x + uptoBulkEntries r
def uptoBulkEntry {H : Type} : Lit × DataW H → Nat
  | (.string bytes, d) => bytes.length + uptoBulk d + 1
  | (_, d) => uptoBulk d + 1
 end
def uptoSmall : (H : Type) → List (DataW H) → Bool := fun _ ds => decide (uptoBulkAll ds ≤ 1048576)
def OpenSpec.upto (s : _root_.Go.ChangeSpec) : _root_.Go.OpenSpec := { _root_.Go.OpenSpec.ofChange s with cond := some uptoSmall }

/-- 'laws.FnExactSynStart', WHERE WHAT IT READS IS OF BULK AT MOST 1048576: true; the input reads as it did. -/
def fnExactSynStartUptoRow : OpenClaim := { program := "ytncohokalilnbaa", sum := "96694059df7649af994103e7185ac7839c062bb32f526fbeade949df3bc07c9c", func := "loop.example/pannier/laws.FnExactSynStart", spec := "fnExactSynStart", apart := false, narrowed := true }
def FnExactSynStartUptoSaid : Prop := fnExactSynStartUptoRow.holds Try.pinned (OpenSpec.upto fnExactSynStartSpec)

/-- 'laws.FnExactSynCouncilOk', WHERE WHAT IT READS IS OF BULK AT MOST 1048576: true; the input reads as it did. -/
def fnExactSynCouncilOkUptoRow : OpenClaim := { program := "ytncohokalilnbaa", sum := "96694059df7649af994103e7185ac7839c062bb32f526fbeade949df3bc07c9c", func := "loop.example/pannier/laws.FnExactSynCouncilOk", spec := "fnExactSynCouncilOk", apart := false, narrowed := true }
def FnExactSynCouncilOkUptoSaid : Prop := fnExactSynCouncilOkUptoRow.holds Try.pinned (OpenSpec.upto fnExactSynCouncilOkSpec)

/-- 'laws.FnExactSynChosen', WHERE WHAT IT READS IS OF BULK AT MOST 1048576: true; the input reads as it did. -/
def fnExactSynChosenUptoRow : OpenClaim := { program := "ytncohokalilnbaa", sum := "96694059df7649af994103e7185ac7839c062bb32f526fbeade949df3bc07c9c", func := "loop.example/pannier/laws.FnExactSynChosen", spec := "fnExactSynChosen", apart := false, narrowed := true }
def FnExactSynChosenUptoSaid : Prop := fnExactSynChosenUptoRow.holds Try.pinned (OpenSpec.upto fnExactSynChosenSpec)

/-- 'laws.FnSynChosen', WHERE WHAT IT READS IS OF BULK AT MOST 1048576: true; the input reads as it did. -/
def fnSynChosenUptoRow : OpenClaim := { program := "ytncohokalilnbaa", sum := "96694059df7649af994103e7185ac7839c062bb32f526fbeade949df3bc07c9c", func := "loop.example/pannier/laws.FnSynChosen", spec := "fnSynChosen", apart := false, narrowed := true }
def FnSynChosenUptoSaid : Prop := fnSynChosenUptoRow.holds Try.pinned (OpenSpec.upto fnSynChosenSpec)

/-- 'laws.FnSynTop', WHERE WHAT IT READS IS OF BULK AT MOST 1048576: true; the input reads as it did. -/
def fnSynTopUptoRow : OpenClaim := { program := "ytncohokalilnbaa", sum := "96694059df7649af994103e7185ac7839c062bb32f526fbeade949df3bc07c9c", func := "loop.example/pannier/laws.FnSynTop", spec := "fnSynTop", apart := false, narrowed := true }
def FnSynTopUptoSaid : Prop := fnSynTopUptoRow.holds Try.pinned (OpenSpec.upto fnSynTopSpec)

/-- 'laws.FnSynDo', WHERE WHAT IT READS IS OF BULK AT MOST 1048576: true; the input reads as it did. -/
def fnSynDoUptoRow : OpenClaim := { program := "ytncohokalilnbaa", sum := "96694059df7649af994103e7185ac7839c062bb32f526fbeade949df3bc07c9c", func := "loop.example/pannier/laws.FnSynDo", spec := "fnSynDo", apart := false, narrowed := true }
def FnSynDoUptoSaid : Prop := fnSynDoUptoRow.holds Try.pinned (OpenSpec.upto fnSynDoSpec)

/-- 'laws.FnSynCalm', WHERE WHAT IT READS IS OF BULK AT MOST 1048576: true; the input reads as it did. -/
def fnSynCalmUptoRow : OpenClaim := { program := "ytncohokalilnbaa", sum := "96694059df7649af994103e7185ac7839c062bb32f526fbeade949df3bc07c9c", func := "loop.example/pannier/laws.FnSynCalm", spec := "fnSynCalm", apart := false, narrowed := true }
def FnSynCalmUptoSaid : Prop := fnSynCalmUptoRow.holds Try.pinned (OpenSpec.upto fnSynCalmSpec)

end Rows
end Go.Proofs.Ytncohokalilnbaa
