/-
  No cell of these rows narrows 'for every input' (looked for: loops, veiled, ifaces, maps, wideKeys, modest, calm, conditions, laid).
  DERIVED. THE GIVEN ROWS OF THIS SEAT. 12 by the template 'for every input the law returns true; each argument reads behind the call as it read before'; 0 by the template 'total and deterministic' (their statements: YthkdhcaojhbfoaaTotals.lean).
  GIVEN WITH THE SEED: the statements are not yours to turn. If you find one false, say at which input.
  Laid BY PROGRAM, IN A SANDBOX (cutbox-rows.mjs): the forced cells as the released guide's own fill.sh prints them over the translation 133e7b932f51a6f3… (all of the seat's roots in one cut). By AI agents, Wed Nov 11 2026. No macro, syntax, notation, axiom, sorry.
-/
import Derived.Test.YthkdhcaojhbfoaaChecked
import GoSem.Claim
import GoSem.ClaimJoined
import GoSem.ClaimMapViews
import Derived.JoinedTies
import Derived.KernelRfl
namespace Go.Proofs.Ythkdhcaojhbfoaa
/- THE CELL 'sum', in the pinned program and in every row, IS THE sha256 OF THE DUMP (.gsa) THAT YthkdhcaojhbfoaaProg.lean LOADS. Nothing in Lean hashes anything: it is a label: what it is worth is what the hold of that sum in a sandbox is worth. -/
noncomputable def Try.pinned : Pinned := { name := "ythkdhcaojhbfoaa", sum := "133e7b932f51a6f3fed5d0c750422f0f99b8ed3a4a679b6ef42f5e74bb0e4653", checked := Try.checked }
namespace Rows
def none {H : Type} : Left H := { results := [], args := [] }

/-- 'laws.FnExactConstants': WHATEVER THE INPUT: true; the input reads as it did. -/
def fnExactConstantsSpec : ChangeSpec := { name := "fnExactConstants", fn := fun _ => fun
  | [] => { results := [.lit (.bool true)], args := [] }
  | _ => none }
def fnExactConstantsRow : OpenClaim := { program := "ythkdhcaojhbfoaa", sum := "133e7b932f51a6f3fed5d0c750422f0f99b8ed3a4a679b6ef42f5e74bb0e4653", func := "loop.example/pannier/laws.FnExactConstants", spec := "fnExactConstants", apart := false }
def FnExactConstantsSaid : Prop := fnExactConstantsRow.holds Try.pinned (OpenSpec.ofChange fnExactConstantsSpec)

/-- ITS FALSE NEIGHBOUR: 'it returns false'. Refute it at one input. -/
def fnExactConstantsWrong : ChangeSpec := { name := "fnExactConstants", fn := fun _ => fun
  | [] => { results := [.lit (.bool false)], args := [] }
  | _ => none }
def FnExactConstantsWrongFalsely : Prop := fnExactConstantsRow.holds Try.pinned (OpenSpec.ofChange fnExactConstantsWrong)

/-- 'laws.FnExactSecNew': WHATEVER THE INPUT: true; the input reads as it did. -/
def fnExactSecNewSpec : ChangeSpec := { name := "fnExactSecNew", fn := fun _ => fun
  | [d] => { results := [.lit (.bool true)], args := [d] }
  | _ => none }
def fnExactSecNewRow : OpenClaim := { program := "ythkdhcaojhbfoaa", sum := "133e7b932f51a6f3fed5d0c750422f0f99b8ed3a4a679b6ef42f5e74bb0e4653", func := "loop.example/pannier/laws.FnExactSecNew", spec := "fnExactSecNew", apart := false }
def FnExactSecNewSaid : Prop := fnExactSecNewRow.holds Try.pinned (OpenSpec.ofChange fnExactSecNewSpec)

/-- ITS FALSE NEIGHBOUR: 'it returns false'. Refute it at one input. -/
def fnExactSecNewWrong : ChangeSpec := { name := "fnExactSecNew", fn := fun _ => fun
  | [d] => { results := [.lit (.bool false)], args := [d] }
  | _ => none }
def FnExactSecNewWrongFalsely : Prop := fnExactSecNewRow.holds Try.pinned (OpenSpec.ofChange fnExactSecNewWrong)

/-- 'laws.FnExactWalNew': WHATEVER THE INPUT: true; the input reads as it did. -/
def fnExactWalNewSpec : ChangeSpec := { name := "fnExactWalNew", fn := fun _ => fun
  | [] => { results := [.lit (.bool true)], args := [] }
  | _ => none }
def fnExactWalNewRow : OpenClaim := { program := "ythkdhcaojhbfoaa", sum := "133e7b932f51a6f3fed5d0c750422f0f99b8ed3a4a679b6ef42f5e74bb0e4653", func := "loop.example/pannier/laws.FnExactWalNew", spec := "fnExactWalNew", apart := false }
def FnExactWalNewSaid : Prop := fnExactWalNewRow.holds Try.pinned (OpenSpec.ofChange fnExactWalNewSpec)

/-- ITS FALSE NEIGHBOUR: 'it returns false'. Refute it at one input. -/
def fnExactWalNewWrong : ChangeSpec := { name := "fnExactWalNew", fn := fun _ => fun
  | [] => { results := [.lit (.bool false)], args := [] }
  | _ => none }
def FnExactWalNewWrongFalsely : Prop := fnExactWalNewRow.holds Try.pinned (OpenSpec.ofChange fnExactWalNewWrong)

/-- 'laws.FnExactSecOk': WHATEVER THE INPUT: true; the input reads as it did. -/
def fnExactSecOkSpec : ChangeSpec := { name := "fnExactSecOk", fn := fun _ => fun
  | [d] => { results := [.lit (.bool true)], args := [d] }
  | _ => none }
def fnExactSecOkRow : OpenClaim := { program := "ythkdhcaojhbfoaa", sum := "133e7b932f51a6f3fed5d0c750422f0f99b8ed3a4a679b6ef42f5e74bb0e4653", func := "loop.example/pannier/laws.FnExactSecOk", spec := "fnExactSecOk", apart := false }
def FnExactSecOkSaid : Prop := fnExactSecOkRow.holds Try.pinned (OpenSpec.ofChange fnExactSecOkSpec)

/-- ITS FALSE NEIGHBOUR: 'it returns false'. Refute it at one input. -/
def fnExactSecOkWrong : ChangeSpec := { name := "fnExactSecOk", fn := fun _ => fun
  | [d] => { results := [.lit (.bool false)], args := [d] }
  | _ => none }
def FnExactSecOkWrongFalsely : Prop := fnExactSecOkRow.holds Try.pinned (OpenSpec.ofChange fnExactSecOkWrong)

/-- 'laws.FnExactSecLook': WHATEVER THE INPUT: true; the input reads as it did. -/
def fnExactSecLookSpec : ChangeSpec := { name := "fnExactSecLook", fn := fun _ => fun
  | [d1, d2] => { results := [.lit (.bool true)], args := [d1, d2] }
  | _ => none }
def fnExactSecLookRow : OpenClaim := { program := "ythkdhcaojhbfoaa", sum := "133e7b932f51a6f3fed5d0c750422f0f99b8ed3a4a679b6ef42f5e74bb0e4653", func := "loop.example/pannier/laws.FnExactSecLook", spec := "fnExactSecLook", apart := false }
def FnExactSecLookSaid : Prop := fnExactSecLookRow.holds Try.pinned (OpenSpec.ofChange fnExactSecLookSpec)

/-- ITS FALSE NEIGHBOUR: 'it returns false'. Refute it at one input. -/
def fnExactSecLookWrong : ChangeSpec := { name := "fnExactSecLook", fn := fun _ => fun
  | [d1, d2] => { results := [.lit (.bool false)], args := [d1, d2] }
  | _ => none }
def FnExactSecLookWrongFalsely : Prop := fnExactSecLookRow.holds Try.pinned (OpenSpec.ofChange fnExactSecLookWrong)

/-- 'laws.FnSecSwap': WHATEVER THE INPUT: true; the input reads as it did. -/
def fnSecSwapSpec : ChangeSpec := { name := "fnSecSwap", fn := fun _ => fun
  | [d1, d2] => { results := [.lit (.bool true)], args := [d1, d2] }
  | _ => none }
def fnSecSwapRow : OpenClaim := { program := "ythkdhcaojhbfoaa", sum := "133e7b932f51a6f3fed5d0c750422f0f99b8ed3a4a679b6ef42f5e74bb0e4653", func := "loop.example/pannier/laws.FnSecSwap", spec := "fnSecSwap", apart := false }
def FnSecSwapSaid : Prop := fnSecSwapRow.holds Try.pinned (OpenSpec.ofChange fnSecSwapSpec)

/-- ITS FALSE NEIGHBOUR: 'it returns false'. Refute it at one input. -/
def fnSecSwapWrong : ChangeSpec := { name := "fnSecSwap", fn := fun _ => fun
  | [d1, d2] => { results := [.lit (.bool false)], args := [d1, d2] }
  | _ => none }
def FnSecSwapWrongFalsely : Prop := fnSecSwapRow.holds Try.pinned (OpenSpec.ofChange fnSecSwapWrong)

/-- 'laws.FnSecPut': WHATEVER THE INPUT: true; the input reads as it did. -/
def fnSecPutSpec : ChangeSpec := { name := "fnSecPut", fn := fun _ => fun
  | [d] => { results := [.lit (.bool true)], args := [d] }
  | _ => none }
def fnSecPutRow : OpenClaim := { program := "ythkdhcaojhbfoaa", sum := "133e7b932f51a6f3fed5d0c750422f0f99b8ed3a4a679b6ef42f5e74bb0e4653", func := "loop.example/pannier/laws.FnSecPut", spec := "fnSecPut", apart := false }
def FnSecPutSaid : Prop := fnSecPutRow.holds Try.pinned (OpenSpec.ofChange fnSecPutSpec)

/-- ITS FALSE NEIGHBOUR: 'it returns false'. Refute it at one input. -/
def fnSecPutWrong : ChangeSpec := { name := "fnSecPut", fn := fun _ => fun
  | [d] => { results := [.lit (.bool false)], args := [d] }
  | _ => none }
def FnSecPutWrongFalsely : Prop := fnSecPutRow.holds Try.pinned (OpenSpec.ofChange fnSecPutWrong)

/-- 'laws.FnSecCut': WHATEVER THE INPUT: true; the input reads as it did. -/
def fnSecCutSpec : ChangeSpec := { name := "fnSecCut", fn := fun _ => fun
  | [d] => { results := [.lit (.bool true)], args := [d] }
  | _ => none }
def fnSecCutRow : OpenClaim := { program := "ythkdhcaojhbfoaa", sum := "133e7b932f51a6f3fed5d0c750422f0f99b8ed3a4a679b6ef42f5e74bb0e4653", func := "loop.example/pannier/laws.FnSecCut", spec := "fnSecCut", apart := false }
def FnSecCutSaid : Prop := fnSecCutRow.holds Try.pinned (OpenSpec.ofChange fnSecCutSpec)

/-- ITS FALSE NEIGHBOUR: 'it returns false'. Refute it at one input. -/
def fnSecCutWrong : ChangeSpec := { name := "fnSecCut", fn := fun _ => fun
  | [d] => { results := [.lit (.bool false)], args := [d] }
  | _ => none }
def FnSecCutWrongFalsely : Prop := fnSecCutRow.holds Try.pinned (OpenSpec.ofChange fnSecCutWrong)

/-- 'laws.FnSecFlush': WHATEVER THE INPUT: true; the input reads as it did. -/
def fnSecFlushSpec : ChangeSpec := { name := "fnSecFlush", fn := fun _ => fun
  | [d1, d2] => { results := [.lit (.bool true)], args := [d1, d2] }
  | _ => none }
def fnSecFlushRow : OpenClaim := { program := "ythkdhcaojhbfoaa", sum := "133e7b932f51a6f3fed5d0c750422f0f99b8ed3a4a679b6ef42f5e74bb0e4653", func := "loop.example/pannier/laws.FnSecFlush", spec := "fnSecFlush", apart := false }
def FnSecFlushSaid : Prop := fnSecFlushRow.holds Try.pinned (OpenSpec.ofChange fnSecFlushSpec)

/-- ITS FALSE NEIGHBOUR: 'it returns false'. Refute it at one input. -/
def fnSecFlushWrong : ChangeSpec := { name := "fnSecFlush", fn := fun _ => fun
  | [d1, d2] => { results := [.lit (.bool false)], args := [d1, d2] }
  | _ => none }
def FnSecFlushWrongFalsely : Prop := fnSecFlushRow.holds Try.pinned (OpenSpec.ofChange fnSecFlushWrong)

/-- 'laws.FnExactSecFlush': WHATEVER THE INPUT: true; the input reads as it did. -/
def fnExactSecFlushSpec : ChangeSpec := { name := "fnExactSecFlush", fn := fun _ => fun
  | [d] => { results := [.lit (.bool true)], args := [d] }
  | _ => none }
def fnExactSecFlushRow : OpenClaim := { program := "ythkdhcaojhbfoaa", sum := "133e7b932f51a6f3fed5d0c750422f0f99b8ed3a4a679b6ef42f5e74bb0e4653", func := "loop.example/pannier/laws.FnExactSecFlush", spec := "fnExactSecFlush", apart := false }
def FnExactSecFlushSaid : Prop := fnExactSecFlushRow.holds Try.pinned (OpenSpec.ofChange fnExactSecFlushSpec)

/-- ITS FALSE NEIGHBOUR: 'it returns false'. Refute it at one input. -/
def fnExactSecFlushWrong : ChangeSpec := { name := "fnExactSecFlush", fn := fun _ => fun
  | [d] => { results := [.lit (.bool false)], args := [d] }
  | _ => none }
def FnExactSecFlushWrongFalsely : Prop := fnExactSecFlushRow.holds Try.pinned (OpenSpec.ofChange fnExactSecFlushWrong)

/-- 'laws.FnExactSecPut': WHATEVER THE INPUT: true; the input reads as it did. -/
def fnExactSecPutSpec : ChangeSpec := { name := "fnExactSecPut", fn := fun _ => fun
  | [d1, d2, d3] => { results := [.lit (.bool true)], args := [d1, d2, d3] }
  | _ => none }
def fnExactSecPutRow : OpenClaim := { program := "ythkdhcaojhbfoaa", sum := "133e7b932f51a6f3fed5d0c750422f0f99b8ed3a4a679b6ef42f5e74bb0e4653", func := "loop.example/pannier/laws.FnExactSecPut", spec := "fnExactSecPut", apart := false }
def FnExactSecPutSaid : Prop := fnExactSecPutRow.holds Try.pinned (OpenSpec.ofChange fnExactSecPutSpec)

/-- ITS FALSE NEIGHBOUR: 'it returns false'. Refute it at one input. -/
def fnExactSecPutWrong : ChangeSpec := { name := "fnExactSecPut", fn := fun _ => fun
  | [d1, d2, d3] => { results := [.lit (.bool false)], args := [d1, d2, d3] }
  | _ => none }
def FnExactSecPutWrongFalsely : Prop := fnExactSecPutRow.holds Try.pinned (OpenSpec.ofChange fnExactSecPutWrong)

/-- 'laws.FnExactSecCut': WHATEVER THE INPUT: true; the input reads as it did. -/
def fnExactSecCutSpec : ChangeSpec := { name := "fnExactSecCut", fn := fun _ => fun
  | [d1, d2] => { results := [.lit (.bool true)], args := [d1, d2] }
  | _ => none }
def fnExactSecCutRow : OpenClaim := { program := "ythkdhcaojhbfoaa", sum := "133e7b932f51a6f3fed5d0c750422f0f99b8ed3a4a679b6ef42f5e74bb0e4653", func := "loop.example/pannier/laws.FnExactSecCut", spec := "fnExactSecCut", apart := false }
def FnExactSecCutSaid : Prop := fnExactSecCutRow.holds Try.pinned (OpenSpec.ofChange fnExactSecCutSpec)

/-- ITS FALSE NEIGHBOUR: 'it returns false'. Refute it at one input. -/
def fnExactSecCutWrong : ChangeSpec := { name := "fnExactSecCut", fn := fun _ => fun
  | [d1, d2] => { results := [.lit (.bool false)], args := [d1, d2] }
  | _ => none }
def FnExactSecCutWrongFalsely : Prop := fnExactSecCutRow.holds Try.pinned (OpenSpec.ofChange fnExactSecCutWrong)

/- THE SECOND FORM. 'bulk': how many values and letters a reading holds, each counted each time it is reached (what is shared counts as often as it is met; a slice's spare places count too). A statement '..UptoSaid' is the law's where the arguments, and the package variables that the reading takes, are together of bulk at most 1048576: NARROWER than '..Said'. Prove '..Said' where nothing that the law and all that it calls make is longer than what came in: it says more and counts as full. Else prove '..UptoSaid'. A law counts once. -/
mutual
def uptoBulk {H : Type} : DataW H → Nat
  | .lit (.string bytes) => bytes.length + 1
  | .lit _ => 1
  | .nil => 1
  | .ptr d => uptoBulk d + 1
  | .slice elems spare => uptoBulkAll elems + uptoBulkAll spare + 1
  | .agg parts => uptoBulkAll parts + 1
  | .iface _ d => uptoBulk d + 1
  | .map entries => uptoBulkEntries entries + 1
  | .held _ => 1
def uptoBulkAll {H : Type} : List (DataW H) → Nat
  | [] => 0
  | d :: r => uptoBulk d + uptoBulkAll r
def uptoBulkEntries {H : Type} : List (Lit × DataW H) → Nat
  | [] => 0
  | x :: r => uptoBulkEntry x + uptoBulkEntries r
def uptoBulkEntry {H : Type} : Lit × DataW H → Nat
  | (.string bytes, d) => bytes.length + uptoBulk d + 1
  | (_, d) => uptoBulk d + 1
 end
def uptoSmall : (H : Type) → List (DataW H) → Bool := fun _ ds => decide (uptoBulkAll ds ≤ 1048576)
def OpenSpec.upto (s : _root_.Go.ChangeSpec) : _root_.Go.OpenSpec := { _root_.Go.OpenSpec.ofChange s with cond := some uptoSmall }

/-- 'laws.FnExactConstants', WHERE WHAT IT READS IS OF BULK AT MOST 1048576: true; the input reads as it did. -/
def fnExactConstantsUptoRow : OpenClaim := { program := "ythkdhcaojhbfoaa", sum := "133e7b932f51a6f3fed5d0c750422f0f99b8ed3a4a679b6ef42f5e74bb0e4653", func := "loop.example/pannier/laws.FnExactConstants", spec := "fnExactConstants", apart := false, narrowed := true }
def FnExactConstantsUptoSaid : Prop := fnExactConstantsUptoRow.holds Try.pinned (OpenSpec.upto fnExactConstantsSpec)

/-- 'laws.FnExactSecNew', WHERE WHAT IT READS IS OF BULK AT MOST 1048576: true; the input reads as it did. -/
def fnExactSecNewUptoRow : OpenClaim := { program := "ythkdhcaojhbfoaa", sum := "133e7b932f51a6f3fed5d0c750422f0f99b8ed3a4a679b6ef42f5e74bb0e4653", func := "loop.example/pannier/laws.FnExactSecNew", spec := "fnExactSecNew", apart := false, narrowed := true }
def FnExactSecNewUptoSaid : Prop := fnExactSecNewUptoRow.holds Try.pinned (OpenSpec.upto fnExactSecNewSpec)

/-- 'laws.FnExactWalNew', WHERE WHAT IT READS IS OF BULK AT MOST 1048576: true; the input reads as it did. -/
def fnExactWalNewUptoRow : OpenClaim := { program := "ythkdhcaojhbfoaa", sum := "133e7b932f51a6f3fed5d0c750422f0f99b8ed3a4a679b6ef42f5e74bb0e4653", func := "loop.example/pannier/laws.FnExactWalNew", spec := "fnExactWalNew", apart := false, narrowed := true }
def FnExactWalNewUptoSaid : Prop := fnExactWalNewUptoRow.holds Try.pinned (OpenSpec.upto fnExactWalNewSpec)

/-- 'laws.FnExactSecOk', WHERE WHAT IT READS IS OF BULK AT MOST 1048576: true; the input reads as it did. -/
def fnExactSecOkUptoRow : OpenClaim := { program := "ythkdhcaojhbfoaa", sum := "133e7b932f51a6f3fed5d0c750422f0f99b8ed3a4a679b6ef42f5e74bb0e4653", func := "loop.example/pannier/laws.FnExactSecOk", spec := "fnExactSecOk", apart := false, narrowed := true }
def FnExactSecOkUptoSaid : Prop := fnExactSecOkUptoRow.holds Try.pinned (OpenSpec.upto fnExactSecOkSpec)

/-- 'laws.FnExactSecLook', WHERE WHAT IT READS IS OF BULK AT MOST 1048576: true; the input reads as it did. -/
def fnExactSecLookUptoRow : OpenClaim := { program := "ythkdhcaojhbfoaa", sum := "133e7b932f51a6f3fed5d0c750422f0f99b8ed3a4a679b6ef42f5e74bb0e4653", func := "loop.example/pannier/laws.FnExactSecLook", spec := "fnExactSecLook", apart := false, narrowed := true }
def FnExactSecLookUptoSaid : Prop := fnExactSecLookUptoRow.holds Try.pinned (OpenSpec.upto fnExactSecLookSpec)

/-- 'laws.FnSecSwap', WHERE WHAT IT READS IS OF BULK AT MOST 1048576: true; the input reads as it did. -/
def fnSecSwapUptoRow : OpenClaim := { program := "ythkdhcaojhbfoaa", sum := "133e7b932f51a6f3fed5d0c750422f0f99b8ed3a4a679b6ef42f5e74bb0e4653", func := "loop.example/pannier/laws.FnSecSwap", spec := "fnSecSwap", apart := false, narrowed := true }
def FnSecSwapUptoSaid : Prop := fnSecSwapUptoRow.holds Try.pinned (OpenSpec.upto fnSecSwapSpec)

/-- 'laws.FnSecPut', WHERE WHAT IT READS IS OF BULK AT MOST 1048576: true; the input reads as it did. -/
def fnSecPutUptoRow : OpenClaim := { program := "ythkdhcaojhbfoaa", sum := "133e7b932f51a6f3fed5d0c750422f0f99b8ed3a4a679b6ef42f5e74bb0e4653", func := "loop.example/pannier/laws.FnSecPut", spec := "fnSecPut", apart := false, narrowed := true }
def FnSecPutUptoSaid : Prop := fnSecPutUptoRow.holds Try.pinned (OpenSpec.upto fnSecPutSpec)

/-- 'laws.FnSecCut', WHERE WHAT IT READS IS OF BULK AT MOST 1048576: true; the input reads as it did. -/
def fnSecCutUptoRow : OpenClaim := { program := "ythkdhcaojhbfoaa", sum := "133e7b932f51a6f3fed5d0c750422f0f99b8ed3a4a679b6ef42f5e74bb0e4653", func := "loop.example/pannier/laws.FnSecCut", spec := "fnSecCut", apart := false, narrowed := true }
def FnSecCutUptoSaid : Prop := fnSecCutUptoRow.holds Try.pinned (OpenSpec.upto fnSecCutSpec)

/-- 'laws.FnSecFlush', WHERE WHAT IT READS IS OF BULK AT MOST 1048576: true; the input reads as it did. -/
def fnSecFlushUptoRow : OpenClaim := { program := "ythkdhcaojhbfoaa", sum := "133e7b932f51a6f3fed5d0c750422f0f99b8ed3a4a679b6ef42f5e74bb0e4653", func := "loop.example/pannier/laws.FnSecFlush", spec := "fnSecFlush", apart := false, narrowed := true }
def FnSecFlushUptoSaid : Prop := fnSecFlushUptoRow.holds Try.pinned (OpenSpec.upto fnSecFlushSpec)

/-- 'laws.FnExactSecFlush', WHERE WHAT IT READS IS OF BULK AT MOST 1048576: true; the input reads as it did. -/
def fnExactSecFlushUptoRow : OpenClaim := { program := "ythkdhcaojhbfoaa", sum := "133e7b932f51a6f3fed5d0c750422f0f99b8ed3a4a679b6ef42f5e74bb0e4653", func := "loop.example/pannier/laws.FnExactSecFlush", spec := "fnExactSecFlush", apart := false, narrowed := true }
def FnExactSecFlushUptoSaid : Prop := fnExactSecFlushUptoRow.holds Try.pinned (OpenSpec.upto fnExactSecFlushSpec)

/-- 'laws.FnExactSecPut', WHERE WHAT IT READS IS OF BULK AT MOST 1048576: true; the input reads as it did. -/
def fnExactSecPutUptoRow : OpenClaim := { program := "ythkdhcaojhbfoaa", sum := "133e7b932f51a6f3fed5d0c750422f0f99b8ed3a4a679b6ef42f5e74bb0e4653", func := "loop.example/pannier/laws.FnExactSecPut", spec := "fnExactSecPut", apart := false, narrowed := true }
def FnExactSecPutUptoSaid : Prop := fnExactSecPutUptoRow.holds Try.pinned (OpenSpec.upto fnExactSecPutSpec)

/-- 'laws.FnExactSecCut', WHERE WHAT IT READS IS OF BULK AT MOST 1048576: true; the input reads as it did. -/
def fnExactSecCutUptoRow : OpenClaim := { program := "ythkdhcaojhbfoaa", sum := "133e7b932f51a6f3fed5d0c750422f0f99b8ed3a4a679b6ef42f5e74bb0e4653", func := "loop.example/pannier/laws.FnExactSecCut", spec := "fnExactSecCut", apart := false, narrowed := true }
def FnExactSecCutUptoSaid : Prop := fnExactSecCutUptoRow.holds Try.pinned (OpenSpec.upto fnExactSecCutSpec)

end Rows
end Go.Proofs.Ythkdhcaojhbfoaa
