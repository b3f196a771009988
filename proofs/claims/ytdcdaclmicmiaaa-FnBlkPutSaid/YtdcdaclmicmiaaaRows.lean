/-
  No cell of these rows narrows 'for every input' (looked for: loops, veiled, ifaces, maps, wideKeys, modest, calm, conditions, laid).
  DERIVED. THE GIVEN ROWS OF THIS SEAT. 12 by the template 'for every input the law returns true; each argument reads behind the call as it read before'; 0 by the template 'total and deterministic' (their statements: YtdcdaclmicmiaaaTotals.lean).
  GIVEN WITH THE SEED: the statements are not yours to turn. If you find one false, say at which input.
  Laid BY PROGRAM, IN A SANDBOX (cutbox-rows.mjs): the forced cells as the released guide's own fill.sh prints them over the translation a8889ef669cf573f… (all of the seat's roots in one cut). By AI agents, Wed Nov 11 2026. No macro, syntax, notation, axiom, sorry.
-/
import Derived.Test.YtdcdaclmicmiaaaChecked
import GoSem.Claim
import GoSem.ClaimJoined
import GoSem.ClaimMapViews
import Derived.JoinedTies
import Derived.KernelRfl
namespace Go.Proofs.Ytdcdaclmicmiaaa
/- THE CELL 'sum', in the pinned program and in every row, IS THE sha256 OF THE DUMP (.gsa) THAT YtdcdaclmicmiaaaProg.lean LOADS. Nothing in Lean hashes anything: it is a label: what it is worth is what the hold of that sum in a sandbox is worth. -/
noncomputable def Try.pinned : Pinned := { name := "ytdcdaclmicmiaaa", sum := "a8889ef669cf573fcf11620d0c0017686b6b427fea340309446eb63fd3b786c0", checked := Try.checked }
namespace Rows
def none {H : Type} : Left H := { results := [], args := [] }

/-- 'laws.FnExactBlkCall': WHATEVER THE INPUT: true; the input reads as it did. -/
def fnExactBlkCallSpec : ChangeSpec := { name := "fnExactBlkCall", fn := fun _ => fun
  | [d1, d2] => { results := [.lit (.bool true)], args := [d1, d2] }
  | _ => none }
def fnExactBlkCallRow : OpenClaim := { program := "ytdcdaclmicmiaaa", sum := "a8889ef669cf573fcf11620d0c0017686b6b427fea340309446eb63fd3b786c0", func := "loop.example/pannier/laws.FnExactBlkCall", spec := "fnExactBlkCall", apart := false }
def FnExactBlkCallSaid : Prop := fnExactBlkCallRow.holds Try.pinned (OpenSpec.ofChange fnExactBlkCallSpec)

/-- ITS FALSE NEIGHBOUR: 'it returns false'. Refute it at one input. -/
def fnExactBlkCallWrong : ChangeSpec := { name := "fnExactBlkCall", fn := fun _ => fun
  | [d1, d2] => { results := [.lit (.bool false)], args := [d1, d2] }
  | _ => none }
def FnExactBlkCallWrongFalsely : Prop := fnExactBlkCallRow.holds Try.pinned (OpenSpec.ofChange fnExactBlkCallWrong)

/-- 'laws.FnExactBlkOk': WHATEVER THE INPUT: true; the input reads as it did. -/
def fnExactBlkOkSpec : ChangeSpec := { name := "fnExactBlkOk", fn := fun _ => fun
  | [d] => { results := [.lit (.bool true)], args := [d] }
  | _ => none }
def fnExactBlkOkRow : OpenClaim := { program := "ytdcdaclmicmiaaa", sum := "a8889ef669cf573fcf11620d0c0017686b6b427fea340309446eb63fd3b786c0", func := "loop.example/pannier/laws.FnExactBlkOk", spec := "fnExactBlkOk", apart := false }
def FnExactBlkOkSaid : Prop := fnExactBlkOkRow.holds Try.pinned (OpenSpec.ofChange fnExactBlkOkSpec)

/-- ITS FALSE NEIGHBOUR: 'it returns false'. Refute it at one input. -/
def fnExactBlkOkWrong : ChangeSpec := { name := "fnExactBlkOk", fn := fun _ => fun
  | [d] => { results := [.lit (.bool false)], args := [d] }
  | _ => none }
def FnExactBlkOkWrongFalsely : Prop := fnExactBlkOkRow.holds Try.pinned (OpenSpec.ofChange fnExactBlkOkWrong)

/-- 'laws.FnExactBlkGet': WHATEVER THE INPUT: true; the input reads as it did. -/
def fnExactBlkGetSpec : ChangeSpec := { name := "fnExactBlkGet", fn := fun _ => fun
  | [d1, d2, d3, d4] => { results := [.lit (.bool true)], args := [d1, d2, d3, d4] }
  | _ => none }
def fnExactBlkGetRow : OpenClaim := { program := "ytdcdaclmicmiaaa", sum := "a8889ef669cf573fcf11620d0c0017686b6b427fea340309446eb63fd3b786c0", func := "loop.example/pannier/laws.FnExactBlkGet", spec := "fnExactBlkGet", apart := false }
def FnExactBlkGetSaid : Prop := fnExactBlkGetRow.holds Try.pinned (OpenSpec.ofChange fnExactBlkGetSpec)

/-- ITS FALSE NEIGHBOUR: 'it returns false'. Refute it at one input. -/
def fnExactBlkGetWrong : ChangeSpec := { name := "fnExactBlkGet", fn := fun _ => fun
  | [d1, d2, d3, d4] => { results := [.lit (.bool false)], args := [d1, d2, d3, d4] }
  | _ => none }
def FnExactBlkGetWrongFalsely : Prop := fnExactBlkGetRow.holds Try.pinned (OpenSpec.ofChange fnExactBlkGetWrong)

/-- 'laws.FnBlkMark': WHATEVER THE INPUT: true; the input reads as it did. -/
def fnBlkMarkSpec : ChangeSpec := { name := "fnBlkMark", fn := fun _ => fun
  | [d] => { results := [.lit (.bool true)], args := [d] }
  | _ => none }
def fnBlkMarkRow : OpenClaim := { program := "ytdcdaclmicmiaaa", sum := "a8889ef669cf573fcf11620d0c0017686b6b427fea340309446eb63fd3b786c0", func := "loop.example/pannier/laws.FnBlkMark", spec := "fnBlkMark", apart := false }
def FnBlkMarkSaid : Prop := fnBlkMarkRow.holds Try.pinned (OpenSpec.ofChange fnBlkMarkSpec)

/-- ITS FALSE NEIGHBOUR: 'it returns false'. Refute it at one input. -/
def fnBlkMarkWrong : ChangeSpec := { name := "fnBlkMark", fn := fun _ => fun
  | [d] => { results := [.lit (.bool false)], args := [d] }
  | _ => none }
def FnBlkMarkWrongFalsely : Prop := fnBlkMarkRow.holds Try.pinned (OpenSpec.ofChange fnBlkMarkWrong)

/-- 'laws.FnExactBlkMark': WHATEVER THE INPUT: true; the input reads as it did. -/
def fnExactBlkMarkSpec : ChangeSpec := { name := "fnExactBlkMark", fn := fun _ => fun
  | [d1, d2, d3] => { results := [.lit (.bool true)], args := [d1, d2, d3] }
  | _ => none }
def fnExactBlkMarkRow : OpenClaim := { program := "ytdcdaclmicmiaaa", sum := "a8889ef669cf573fcf11620d0c0017686b6b427fea340309446eb63fd3b786c0", func := "loop.example/pannier/laws.FnExactBlkMark", spec := "fnExactBlkMark", apart := false }
def FnExactBlkMarkSaid : Prop := fnExactBlkMarkRow.holds Try.pinned (OpenSpec.ofChange fnExactBlkMarkSpec)

/-- ITS FALSE NEIGHBOUR: 'it returns false'. Refute it at one input. -/
def fnExactBlkMarkWrong : ChangeSpec := { name := "fnExactBlkMark", fn := fun _ => fun
  | [d1, d2, d3] => { results := [.lit (.bool false)], args := [d1, d2, d3] }
  | _ => none }
def FnExactBlkMarkWrongFalsely : Prop := fnExactBlkMarkRow.holds Try.pinned (OpenSpec.ofChange fnExactBlkMarkWrong)

/-- 'laws.FnExactBlkDrop': WHATEVER THE INPUT: true; the input reads as it did. -/
def fnExactBlkDropSpec : ChangeSpec := { name := "fnExactBlkDrop", fn := fun _ => fun
  | [d1, d2] => { results := [.lit (.bool true)], args := [d1, d2] }
  | _ => none }
def fnExactBlkDropRow : OpenClaim := { program := "ytdcdaclmicmiaaa", sum := "a8889ef669cf573fcf11620d0c0017686b6b427fea340309446eb63fd3b786c0", func := "loop.example/pannier/laws.FnExactBlkDrop", spec := "fnExactBlkDrop", apart := false }
def FnExactBlkDropSaid : Prop := fnExactBlkDropRow.holds Try.pinned (OpenSpec.ofChange fnExactBlkDropSpec)

/-- ITS FALSE NEIGHBOUR: 'it returns false'. Refute it at one input. -/
def fnExactBlkDropWrong : ChangeSpec := { name := "fnExactBlkDrop", fn := fun _ => fun
  | [d1, d2] => { results := [.lit (.bool false)], args := [d1, d2] }
  | _ => none }
def FnExactBlkDropWrongFalsely : Prop := fnExactBlkDropRow.holds Try.pinned (OpenSpec.ofChange fnExactBlkDropWrong)

/-- 'laws.FnBlkSwap': WHATEVER THE INPUT: true; the input reads as it did. -/
def fnBlkSwapSpec : ChangeSpec := { name := "fnBlkSwap", fn := fun _ => fun
  | [d1, d2] => { results := [.lit (.bool true)], args := [d1, d2] }
  | _ => none }
def fnBlkSwapRow : OpenClaim := { program := "ytdcdaclmicmiaaa", sum := "a8889ef669cf573fcf11620d0c0017686b6b427fea340309446eb63fd3b786c0", func := "loop.example/pannier/laws.FnBlkSwap", spec := "fnBlkSwap", apart := false }
def FnBlkSwapSaid : Prop := fnBlkSwapRow.holds Try.pinned (OpenSpec.ofChange fnBlkSwapSpec)

/-- ITS FALSE NEIGHBOUR: 'it returns false'. Refute it at one input. -/
def fnBlkSwapWrong : ChangeSpec := { name := "fnBlkSwap", fn := fun _ => fun
  | [d1, d2] => { results := [.lit (.bool false)], args := [d1, d2] }
  | _ => none }
def FnBlkSwapWrongFalsely : Prop := fnBlkSwapRow.holds Try.pinned (OpenSpec.ofChange fnBlkSwapWrong)

/-- 'laws.FnBlkTwice': WHATEVER THE INPUT: true; the input reads as it did. -/
def fnBlkTwiceSpec : ChangeSpec := { name := "fnBlkTwice", fn := fun _ => fun
  | [d] => { results := [.lit (.bool true)], args := [d] }
  | _ => none }
def fnBlkTwiceRow : OpenClaim := { program := "ytdcdaclmicmiaaa", sum := "a8889ef669cf573fcf11620d0c0017686b6b427fea340309446eb63fd3b786c0", func := "loop.example/pannier/laws.FnBlkTwice", spec := "fnBlkTwice", apart := false }
def FnBlkTwiceSaid : Prop := fnBlkTwiceRow.holds Try.pinned (OpenSpec.ofChange fnBlkTwiceSpec)

/-- ITS FALSE NEIGHBOUR: 'it returns false'. Refute it at one input. -/
def fnBlkTwiceWrong : ChangeSpec := { name := "fnBlkTwice", fn := fun _ => fun
  | [d] => { results := [.lit (.bool false)], args := [d] }
  | _ => none }
def FnBlkTwiceWrongFalsely : Prop := fnBlkTwiceRow.holds Try.pinned (OpenSpec.ofChange fnBlkTwiceWrong)

/-- 'laws.FnBlkDrop': WHATEVER THE INPUT: true; the input reads as it did. -/
def fnBlkDropSpec : ChangeSpec := { name := "fnBlkDrop", fn := fun _ => fun
  | [d] => { results := [.lit (.bool true)], args := [d] }
  | _ => none }
def fnBlkDropRow : OpenClaim := { program := "ytdcdaclmicmiaaa", sum := "a8889ef669cf573fcf11620d0c0017686b6b427fea340309446eb63fd3b786c0", func := "loop.example/pannier/laws.FnBlkDrop", spec := "fnBlkDrop", apart := false }
def FnBlkDropSaid : Prop := fnBlkDropRow.holds Try.pinned (OpenSpec.ofChange fnBlkDropSpec)

/-- ITS FALSE NEIGHBOUR: 'it returns false'. Refute it at one input. -/
def fnBlkDropWrong : ChangeSpec := { name := "fnBlkDrop", fn := fun _ => fun
  | [d] => { results := [.lit (.bool false)], args := [d] }
  | _ => none }
def FnBlkDropWrongFalsely : Prop := fnBlkDropRow.holds Try.pinned (OpenSpec.ofChange fnBlkDropWrong)

/-- 'laws.FnBlkPut': WHATEVER THE INPUT: true; the input reads as it did. -/
def fnBlkPutSpec : ChangeSpec := { name := "fnBlkPut", fn := fun _ => fun
  | [d] => { results := [.lit (.bool true)], args := [d] }
  | _ => none }
def fnBlkPutRow : OpenClaim := { program := "ytdcdaclmicmiaaa", sum := "a8889ef669cf573fcf11620d0c0017686b6b427fea340309446eb63fd3b786c0", func := "loop.example/pannier/laws.FnBlkPut", spec := "fnBlkPut", apart := false }
def FnBlkPutSaid : Prop := fnBlkPutRow.holds Try.pinned (OpenSpec.ofChange fnBlkPutSpec)

/-- ITS FALSE NEIGHBOUR: 'it returns false'. Refute it at one input. -/
def fnBlkPutWrong : ChangeSpec := { name := "fnBlkPut", fn := fun _ => fun
  | [d] => { results := [.lit (.bool false)], args := [d] }
  | _ => none }
def FnBlkPutWrongFalsely : Prop := fnBlkPutRow.holds Try.pinned (OpenSpec.ofChange fnBlkPutWrong)

/-- 'laws.FnBlkOld': WHATEVER THE INPUT: true; the input reads as it did. -/
def fnBlkOldSpec : ChangeSpec := { name := "fnBlkOld", fn := fun _ => fun
  | [d] => { results := [.lit (.bool true)], args := [d] }
  | _ => none }
def fnBlkOldRow : OpenClaim := { program := "ytdcdaclmicmiaaa", sum := "a8889ef669cf573fcf11620d0c0017686b6b427fea340309446eb63fd3b786c0", func := "loop.example/pannier/laws.FnBlkOld", spec := "fnBlkOld", apart := false }
def FnBlkOldSaid : Prop := fnBlkOldRow.holds Try.pinned (OpenSpec.ofChange fnBlkOldSpec)

/-- ITS FALSE NEIGHBOUR: 'it returns false'. Refute it at one input. -/
def fnBlkOldWrong : ChangeSpec := { name := "fnBlkOld", fn := fun _ => fun
  | [d] => { results := [.lit (.bool false)], args := [d] }
  | _ => none }
def FnBlkOldWrongFalsely : Prop := fnBlkOldRow.holds Try.pinned (OpenSpec.ofChange fnBlkOldWrong)

/-- 'laws.FnExactBlkPut': WHATEVER THE INPUT: true; the input reads as it did. -/
def fnExactBlkPutSpec : ChangeSpec := { name := "fnExactBlkPut", fn := fun _ => fun
  | [d1, d2, d3, d4, d5] => { results := [.lit (.bool true)], args := [d1, d2, d3, d4, d5] }
  | _ => none }
def fnExactBlkPutRow : OpenClaim := { program := "ytdcdaclmicmiaaa", sum := "a8889ef669cf573fcf11620d0c0017686b6b427fea340309446eb63fd3b786c0", func := "loop.example/pannier/laws.FnExactBlkPut", spec := "fnExactBlkPut", apart := false }
def FnExactBlkPutSaid : Prop := fnExactBlkPutRow.holds Try.pinned (OpenSpec.ofChange fnExactBlkPutSpec)

/-- ITS FALSE NEIGHBOUR: 'it returns false'. Refute it at one input. -/
def fnExactBlkPutWrong : ChangeSpec := { name := "fnExactBlkPut", fn := fun _ => fun
  | [d1, d2, d3, d4, d5] => { results := [.lit (.bool false)], args := [d1, d2, d3, d4, d5] }
  | _ => none }
def FnExactBlkPutWrongFalsely : Prop := fnExactBlkPutRow.holds Try.pinned (OpenSpec.ofChange fnExactBlkPutWrong)

/- THE SECOND FORM. 'bulk': how many values and letters a reading holds, each counted each time it is reached (what is shared counts as often as it is met; a slice's spare places count too). A statement '..UptoSaid' is the law's where the arguments, and the package variables that the reading takes, are together of bulk at most 1048576: NARROWER than '..Said'. Prove '..Said' where nothing that the law and all that it calls make is longer than what came in: it says more and counts as full. Else prove '..UptoSaid'. A law counts once. -/
mutual
def uptoBulk {H : Type} : DataW H → Nat
  | .lit (.string bytes) => bytes.length + 1
  | .lit _ => 1
  | .nil => 1
  | .ptr d => uptoBulk d + 1
  | .slice elems spare => uptoBulkAll elems + uptoBulkAll spare + 1
  | .agg parts => uptoBulkAll parts + 1
  | .iface _ d => uptoBulk d + 1
  | .map entries => uptoBulkEntries entries + 1
  | .held _ => 1
def uptoBulkAll {H : Type} : List (DataW H) → Nat
  | [] => 0
  | d :: r => uptoBulk d + uptoBulkAll r
def uptoBulkEntries {H : Type} : List (Lit × DataW H) → Nat
  | [] => 0
  | x :: r => uptoBulkEntry x + uptoBulkEntries r
def uptoBulkEntry {H : Type} : Lit × DataW H → Nat
  | (.string bytes, d) => bytes.length + uptoBulk d + 1
  | (_, d) => uptoBulk d + 1
 end
def uptoSmall : (H : Type) → List (DataW H) → Bool := fun _ ds => decide (uptoBulkAll ds ≤ 1048576)
def OpenSpec.upto (s : _root_.Go.ChangeSpec) : _root_.Go.OpenSpec := { _root_.Go.OpenSpec.ofChange s with cond := some uptoSmall }

/-- 'laws.FnExactBlkCall', WHERE WHAT IT READS IS OF BULK AT MOST 1048576: true; the input reads as it did. -/
def fnExactBlkCallUptoRow : OpenClaim := { program := "ytdcdaclmicmiaaa", sum := "a8889ef669cf573fcf11620d0c0017686b6b427fea340309446eb63fd3b786c0", func := "loop.example/pannier/laws.FnExactBlkCall", spec := "fnExactBlkCall", apart := false, narrowed := true }
def FnExactBlkCallUptoSaid : Prop := fnExactBlkCallUptoRow.holds Try.pinned (OpenSpec.upto fnExactBlkCallSpec)

/-- 'laws.FnExactBlkOk', WHERE WHAT IT READS IS OF BULK AT MOST 1048576: true; the input reads as it did. -/
def fnExactBlkOkUptoRow : OpenClaim := { program := "ytdcdaclmicmiaaa", sum := "a8889ef669cf573fcf11620d0c0017686b6b427fea340309446eb63fd3b786c0", func := "loop.example/pannier/laws.FnExactBlkOk", spec := "fnExactBlkOk", apart := false, narrowed := true }
def FnExactBlkOkUptoSaid : Prop := fnExactBlkOkUptoRow.holds Try.pinned (OpenSpec.upto fnExactBlkOkSpec)

/-- 'laws.FnExactBlkGet', WHERE WHAT IT READS IS OF BULK AT MOST 1048576: true; the input reads as it did. -/
def fnExactBlkGetUptoRow : OpenClaim := { program := "ytdcdaclmicmiaaa", sum := "a8889ef669cf573fcf11620d0c0017686b6b427fea340309446eb63fd3b786c0", func := "loop.example/pannier/laws.FnExactBlkGet", spec := "fnExactBlkGet", apart := false, narrowed := true }
def FnExactBlkGetUptoSaid : Prop := fnExactBlkGetUptoRow.holds Try.pinned (OpenSpec.upto fnExactBlkGetSpec)

/-- 'laws.FnBlkMark', WHERE WHAT IT READS IS OF BULK AT MOST 1048576: true; the input reads as it did. -/
def fnBlkMarkUptoRow : OpenClaim := { program := "ytdcdaclmicmiaaa", sum := "a8889ef669cf573fcf11620d0c0017686b6b427fea340309446eb63fd3b786c0", func := "loop.example/pannier/laws.FnBlkMark", spec := "fnBlkMark", apart := false, narrowed := true }
def FnBlkMarkUptoSaid : Prop := fnBlkMarkUptoRow.holds Try.pinned (OpenSpec.upto fnBlkMarkSpec)

/-- 'laws.FnExactBlkMark', WHERE WHAT IT READS IS OF BULK AT MOST 1048576: true; the input reads as it did. -/
def fnExactBlkMarkUptoRow : OpenClaim := { program := "ytdcdaclmicmiaaa", sum := "a8889ef669cf573fcf11620d0c0017686b6b427fea340309446eb63fd3b786c0", func := "loop.example/pannier/laws.FnExactBlkMark", spec := "fnExactBlkMark", apart := false, narrowed := true }
def FnExactBlkMarkUptoSaid : Prop := fnExactBlkMarkUptoRow.holds Try.pinned (OpenSpec.upto fnExactBlkMarkSpec)

/-- 'laws.FnExactBlkDrop', WHERE WHAT IT READS IS OF BULK AT MOST 1048576: true; the input reads as it did. -/
def fnExactBlkDropUptoRow : OpenClaim := { program := "ytdcdaclmicmiaaa", sum := "a8889ef669cf573fcf11620d0c0017686b6b427fea340309446eb63fd3b786c0", func := "loop.example/pannier/laws.FnExactBlkDrop", spec := "fnExactBlkDrop", apart := false, narrowed := true }
def FnExactBlkDropUptoSaid : Prop := fnExactBlkDropUptoRow.holds Try.pinned (OpenSpec.upto fnExactBlkDropSpec)

/-- 'laws.FnBlkSwap', WHERE WHAT IT READS IS OF BULK AT MOST 1048576: true; the input reads as it did. -/
def fnBlkSwapUptoRow : OpenClaim := { program := "ytdcdaclmicmiaaa", sum := "a8889ef669cf573fcf11620d0c0017686b6b427fea340309446eb63fd3b786c0", func := "loop.example/pannier/laws.FnBlkSwap", spec := "fnBlkSwap", apart := false, narrowed := true }
def FnBlkSwapUptoSaid : Prop := fnBlkSwapUptoRow.holds Try.pinned (OpenSpec.upto fnBlkSwapSpec)

/-- 'laws.FnBlkTwice', WHERE WHAT IT READS IS OF BULK AT MOST 1048576: true; the input reads as it did. -/
def fnBlkTwiceUptoRow : OpenClaim := { program := "ytdcdaclmicmiaaa", sum := "a8889ef669cf573fcf11620d0c0017686b6b427fea340309446eb63fd3b786c0", func := "loop.example/pannier/laws.FnBlkTwice", spec := "fnBlkTwice", apart := false, narrowed := true }
def FnBlkTwiceUptoSaid : Prop := fnBlkTwiceUptoRow.holds Try.pinned (OpenSpec.upto fnBlkTwiceSpec)

/-- 'laws.FnBlkDrop', WHERE WHAT IT READS IS OF BULK AT MOST 1048576: true; the input reads as it did. -/
def fnBlkDropUptoRow : OpenClaim := { program := "ytdcdaclmicmiaaa", sum := "a8889ef669cf573fcf11620d0c0017686b6b427fea340309446eb63fd3b786c0", func := "loop.example/pannier/laws.FnBlkDrop", spec := "fnBlkDrop", apart := false, narrowed := true }
def FnBlkDropUptoSaid : Prop := fnBlkDropUptoRow.holds Try.pinned (OpenSpec.upto fnBlkDropSpec)

/-- 'laws.FnBlkPut', WHERE WHAT IT READS IS OF BULK AT MOST 1048576: true; the input reads as it did. -/
def fnBlkPutUptoRow : OpenClaim := { program := "ytdcdaclmicmiaaa", sum := "a8889ef669cf573fcf11620d0c0017686b6b427fea340309446eb63fd3b786c0", func := "loop.example/pannier/laws.FnBlkPut", spec := "fnBlkPut", apart := false, narrowed := true }
def FnBlkPutUptoSaid : Prop := fnBlkPutUptoRow.holds Try.pinned (OpenSpec.upto fnBlkPutSpec)

/-- 'laws.FnBlkOld', WHERE WHAT IT READS IS OF BULK AT MOST 1048576: true; the input reads as it did. -/
def fnBlkOldUptoRow : OpenClaim := { program := "ytdcdaclmicmiaaa", sum := "a8889ef669cf573fcf11620d0c0017686b6b427fea340309446eb63fd3b786c0", func := "loop.example/pannier/laws.FnBlkOld", spec := "fnBlkOld", apart := false, narrowed := true }
def FnBlkOldUptoSaid : Prop := fnBlkOldUptoRow.holds Try.pinned (OpenSpec.upto fnBlkOldSpec)

/-- 'laws.FnExactBlkPut', WHERE WHAT IT READS IS OF BULK AT MOST 1048576: true; the input reads as it did. -/
def fnExactBlkPutUptoRow : OpenClaim := { program := "ytdcdaclmicmiaaa", sum := "a8889ef669cf573fcf11620d0c0017686b6b427fea340309446eb63fd3b786c0", func := "loop.example/pannier/laws.FnExactBlkPut", spec := "fnExactBlkPut", apart := false, narrowed := true }
def FnExactBlkPutUptoSaid : Prop := fnExactBlkPutUptoRow.holds Try.pinned (OpenSpec.upto fnExactBlkPutSpec)

end Rows
end Go.Proofs.Ytdcdaclmicmiaaa
