/-
  No cell of these rows narrows 'for every input' (looked for: loops, veiled, ifaces, maps, wideKeys, modest, calm, conditions, laid).
  DERIVED. THE GIVEN ROWS OF THIS SEAT. 10 by the template 'for every input the law returns true; each argument reads behind the call as it read before'; 0 by the template 'total and deterministic' (their statements: YtoieojmfkkidnaaTotals.lean).
  GIVEN WITH THE SEED: the statements are not yours to turn. If you find one false, say at which input.
  Laid BY PROGRAM, IN A SANDBOX (cutbox-rows.mjs): the forced cells as the released guide's own fill.sh prints them over the translation 1ec4ac5343fc74c0… (all of the seat's roots in one cut). By AI agents, Wed Nov 11 2026. No macro, syntax, notation, axiom, sorry.
-/
import Derived.Test.YtoieojmfkkidnaaChecked
import GoSem.Claim
import GoSem.ClaimJoined
import GoSem.ClaimMapViews
import Derived.JoinedTies
import Derived.KernelRfl
namespace Go.Proofs.Ytoieojmfkkidnaa
/- THE CELL 'sum', in the pinned program and in every row, IS THE sha256 OF THE DUMP (.gsa) THAT YtoieojmfkkidnaaProg.lean LOADS. Nothing in Lean hashes anything: it is a label: what it is worth is what the hold of that sum in a sandbox is worth. -/
noncomputable def Try.pinned : Pinned := { name := "ytoieojmfkkidnaa", sum := "1ec4ac5343fc74c0660dfed7d3629c5287d8388e2879345c9bdc706c6535a86b", checked := Try.checked }
namespace Rows
def none {H : Type} : Left H := { results := [], args := [] }

/-- 'laws.FnWordSize': WHATEVER THE INPUT: true; the input reads as it did. -/
def fnWordSizeSpec : ChangeSpec := { name := "fnWordSize", fn := fun _ => fun
  | [d] => { results := [.lit (.bool true)], args := [d] }
  | _ => none }
def fnWordSizeRow : OpenClaim := { program := "ytoieojmfkkidnaa", sum := "1ec4ac5343fc74c0660dfed7d3629c5287d8388e2879345c9bdc706c6535a86b", func := "loop.example/pannier/laws.FnWordSize", spec := "fnWordSize", apart := false }
def FnWordSizeSaid : Prop := fnWordSizeRow.holds Try.pinned (OpenSpec.ofChange fnWordSizeSpec)

/-- ITS FALSE NEIGHBOUR: 'it returns false'. Refute it at one input. -/
def fnWordSizeWrong : ChangeSpec := { name := "fnWordSize", fn := fun _ => fun
  | [d] => { results := [.lit (.bool false)], args := [d] }
  | _ => none }
def FnWordSizeWrongFalsely : Prop := fnWordSizeRow.holds Try.pinned (OpenSpec.ofChange fnWordSizeWrong)

/-- 'laws.FnExactWordOk': WHATEVER THE INPUT: true; the input reads as it did. -/
def fnExactWordOkSpec : ChangeSpec := { name := "fnExactWordOk", fn := fun _ => fun
  | [d] => { results := [.lit (.bool true)], args := [d] }
  | _ => none }
def fnExactWordOkRow : OpenClaim := { program := "ytoieojmfkkidnaa", sum := "1ec4ac5343fc74c0660dfed7d3629c5287d8388e2879345c9bdc706c6535a86b", func := "loop.example/pannier/laws.FnExactWordOk", spec := "fnExactWordOk", apart := false }
def FnExactWordOkSaid : Prop := fnExactWordOkRow.holds Try.pinned (OpenSpec.ofChange fnExactWordOkSpec)

/-- ITS FALSE NEIGHBOUR: 'it returns false'. Refute it at one input. -/
def fnExactWordOkWrong : ChangeSpec := { name := "fnExactWordOk", fn := fun _ => fun
  | [d] => { results := [.lit (.bool false)], args := [d] }
  | _ => none }
def FnExactWordOkWrongFalsely : Prop := fnExactWordOkRow.holds Try.pinned (OpenSpec.ofChange fnExactWordOkWrong)

/-- 'laws.FnExactWordPack': WHATEVER THE INPUT: true; the input reads as it did. -/
def fnExactWordPackSpec : ChangeSpec := { name := "fnExactWordPack", fn := fun _ => fun
  | [d] => { results := [.lit (.bool true)], args := [d] }
  | _ => none }
def fnExactWordPackRow : OpenClaim := { program := "ytoieojmfkkidnaa", sum := "1ec4ac5343fc74c0660dfed7d3629c5287d8388e2879345c9bdc706c6535a86b", func := "loop.example/pannier/laws.FnExactWordPack", spec := "fnExactWordPack", apart := false }
def FnExactWordPackSaid : Prop := fnExactWordPackRow.holds Try.pinned (OpenSpec.ofChange fnExactWordPackSpec)

/-- ITS FALSE NEIGHBOUR: 'it returns false'. Refute it at one input. -/
def fnExactWordPackWrong : ChangeSpec := { name := "fnExactWordPack", fn := fun _ => fun
  | [d] => { results := [.lit (.bool false)], args := [d] }
  | _ => none }
def FnExactWordPackWrongFalsely : Prop := fnExactWordPackRow.holds Try.pinned (OpenSpec.ofChange fnExactWordPackWrong)

/-- 'laws.FnExactSynVoterOk': WHATEVER THE INPUT: true; the input reads as it did. -/
def fnExactSynVoterOkSpec : ChangeSpec := { name := "fnExactSynVoterOk", fn := fun _ => fun
  | [d] => { results := [.lit (.bool true)], args := [d] }
  | _ => none }
def fnExactSynVoterOkRow : OpenClaim := { program := "ytoieojmfkkidnaa", sum := "1ec4ac5343fc74c0660dfed7d3629c5287d8388e2879345c9bdc706c6535a86b", func := "loop.example/pannier/laws.FnExactSynVoterOk", spec := "fnExactSynVoterOk", apart := false }
def FnExactSynVoterOkSaid : Prop := fnExactSynVoterOkRow.holds Try.pinned (OpenSpec.ofChange fnExactSynVoterOkSpec)

/-- ITS FALSE NEIGHBOUR: 'it returns false'. Refute it at one input. -/
def fnExactSynVoterOkWrong : ChangeSpec := { name := "fnExactSynVoterOk", fn := fun _ => fun
  | [d] => { results := [.lit (.bool false)], args := [d] }
  | _ => none }
def FnExactSynVoterOkWrongFalsely : Prop := fnExactSynVoterOkRow.holds Try.pinned (OpenSpec.ofChange fnExactSynVoterOkWrong)

/-- 'laws.FnExactSynSeekerOk': WHATEVER THE INPUT: true; the input reads as it did. -/
def fnExactSynSeekerOkSpec : ChangeSpec := { name := "fnExactSynSeekerOk", fn := fun _ => fun
  | [d] => { results := [.lit (.bool true)], args := [d] }
  | _ => none }
def fnExactSynSeekerOkRow : OpenClaim := { program := "ytoieojmfkkidnaa", sum := "1ec4ac5343fc74c0660dfed7d3629c5287d8388e2879345c9bdc706c6535a86b", func := "loop.example/pannier/laws.FnExactSynSeekerOk", spec := "fnExactSynSeekerOk", apart := false }
def FnExactSynSeekerOkSaid : Prop := fnExactSynSeekerOkRow.holds Try.pinned (OpenSpec.ofChange fnExactSynSeekerOkSpec)

/-- ITS FALSE NEIGHBOUR: 'it returns false'. Refute it at one input. -/
def fnExactSynSeekerOkWrong : ChangeSpec := { name := "fnExactSynSeekerOk", fn := fun _ => fun
  | [d] => { results := [.lit (.bool false)], args := [d] }
  | _ => none }
def FnExactSynSeekerOkWrongFalsely : Prop := fnExactSynSeekerOkRow.holds Try.pinned (OpenSpec.ofChange fnExactSynSeekerOkWrong)

/-- 'laws.FnExactSynSeek': WHATEVER THE INPUT: true; the input reads as it did. -/
def fnExactSynSeekSpec : ChangeSpec := { name := "fnExactSynSeek", fn := fun _ => fun
  | [d1, d2, d3, d4] => { results := [.lit (.bool true)], args := [d1, d2, d3, d4] }
  | _ => none }
def fnExactSynSeekRow : OpenClaim := { program := "ytoieojmfkkidnaa", sum := "1ec4ac5343fc74c0660dfed7d3629c5287d8388e2879345c9bdc706c6535a86b", func := "loop.example/pannier/laws.FnExactSynSeek", spec := "fnExactSynSeek", apart := false }
def FnExactSynSeekSaid : Prop := fnExactSynSeekRow.holds Try.pinned (OpenSpec.ofChange fnExactSynSeekSpec)

/-- ITS FALSE NEIGHBOUR: 'it returns false'. Refute it at one input. -/
def fnExactSynSeekWrong : ChangeSpec := { name := "fnExactSynSeek", fn := fun _ => fun
  | [d1, d2, d3, d4] => { results := [.lit (.bool false)], args := [d1, d2, d3, d4] }
  | _ => none }
def FnExactSynSeekWrongFalsely : Prop := fnExactSynSeekRow.holds Try.pinned (OpenSpec.ofChange fnExactSynSeekWrong)

/-- 'laws.FnExactSynVote': WHATEVER THE INPUT: true; the input reads as it did. -/
def fnExactSynVoteSpec : ChangeSpec := { name := "fnExactSynVote", fn := fun _ => fun
  | [d1, d2, d3] => { results := [.lit (.bool true)], args := [d1, d2, d3] }
  | _ => none }
def fnExactSynVoteRow : OpenClaim := { program := "ytoieojmfkkidnaa", sum := "1ec4ac5343fc74c0660dfed7d3629c5287d8388e2879345c9bdc706c6535a86b", func := "loop.example/pannier/laws.FnExactSynVote", spec := "fnExactSynVote", apart := false }
def FnExactSynVoteSaid : Prop := fnExactSynVoteRow.holds Try.pinned (OpenSpec.ofChange fnExactSynVoteSpec)

/-- ITS FALSE NEIGHBOUR: 'it returns false'. Refute it at one input. -/
def fnExactSynVoteWrong : ChangeSpec := { name := "fnExactSynVote", fn := fun _ => fun
  | [d1, d2, d3] => { results := [.lit (.bool false)], args := [d1, d2, d3] }
  | _ => none }
def FnExactSynVoteWrongFalsely : Prop := fnExactSynVoteRow.holds Try.pinned (OpenSpec.ofChange fnExactSynVoteWrong)

/-- 'laws.FnSynVote': WHATEVER THE INPUT: true; the input reads as it did. -/
def fnSynVoteSpec : ChangeSpec := { name := "fnSynVote", fn := fun _ => fun
  | [d] => { results := [.lit (.bool true)], args := [d] }
  | _ => none }
def fnSynVoteRow : OpenClaim := { program := "ytoieojmfkkidnaa", sum := "1ec4ac5343fc74c0660dfed7d3629c5287d8388e2879345c9bdc706c6535a86b", func := "loop.example/pannier/laws.FnSynVote", spec := "fnSynVote", apart := false }
def FnSynVoteSaid : Prop := fnSynVoteRow.holds Try.pinned (OpenSpec.ofChange fnSynVoteSpec)

/-- ITS FALSE NEIGHBOUR: 'it returns false'. Refute it at one input. -/
def fnSynVoteWrong : ChangeSpec := { name := "fnSynVote", fn := fun _ => fun
  | [d] => { results := [.lit (.bool false)], args := [d] }
  | _ => none }
def FnSynVoteWrongFalsely : Prop := fnSynVoteRow.holds Try.pinned (OpenSpec.ofChange fnSynVoteWrong)

/-- 'laws.FnSynHear': WHATEVER THE INPUT: true; the input reads as it did. -/
def fnSynHearSpec : ChangeSpec := { name := "fnSynHear", fn := fun _ => fun
  | [d] => { results := [.lit (.bool true)], args := [d] }
  | _ => none }
def fnSynHearRow : OpenClaim := { program := "ytoieojmfkkidnaa", sum := "1ec4ac5343fc74c0660dfed7d3629c5287d8388e2879345c9bdc706c6535a86b", func := "loop.example/pannier/laws.FnSynHear", spec := "fnSynHear", apart := false }
def FnSynHearSaid : Prop := fnSynHearRow.holds Try.pinned (OpenSpec.ofChange fnSynHearSpec)

/-- ITS FALSE NEIGHBOUR: 'it returns false'. Refute it at one input. -/
def fnSynHearWrong : ChangeSpec := { name := "fnSynHear", fn := fun _ => fun
  | [d] => { results := [.lit (.bool false)], args := [d] }
  | _ => none }
def FnSynHearWrongFalsely : Prop := fnSynHearRow.holds Try.pinned (OpenSpec.ofChange fnSynHearWrong)

/-- 'laws.FnExactSynHear': WHATEVER THE INPUT: true; the input reads as it did. -/
def fnExactSynHearSpec : ChangeSpec := { name := "fnExactSynHear", fn := fun _ => fun
  | [d1, d2, d3] => { results := [.lit (.bool true)], args := [d1, d2, d3] }
  | _ => none }
def fnExactSynHearRow : OpenClaim := { program := "ytoieojmfkkidnaa", sum := "1ec4ac5343fc74c0660dfed7d3629c5287d8388e2879345c9bdc706c6535a86b", func := "loop.example/pannier/laws.FnExactSynHear", spec := "fnExactSynHear", apart := false }
def FnExactSynHearSaid : Prop := fnExactSynHearRow.holds Try.pinned (OpenSpec.ofChange fnExactSynHearSpec)

/-- ITS FALSE NEIGHBOUR: 'it returns false'. Refute it at one input. -/
def fnExactSynHearWrong : ChangeSpec := { name := "fnExactSynHear", fn := fun _ => fun
  | [d1, d2, d3] => { results := [.lit (.bool false)], args := [d1, d2, d3] }
  | _ => none }
def FnExactSynHearWrongFalsely : Prop := fnExactSynHearRow.holds Try.pinned (OpenSpec.ofChange fnExactSynHearWrong)

/- THE SECOND FORM. 'bulk': how many values and letters a reading holds, each counted each time it is reached (what is shared counts as often as it is met; a slice's spare places count too). A statement '..UptoSaid' is the law's where the arguments, and the package variables that the reading takes, are together of bulk at most 1048576: NARROWER than '..Said'. Prove '..Said' where nothing that the law and all that it calls make is longer than what came in: it says more and counts as full. Else prove '..UptoSaid'. A law counts once. -/
mutual
def uptoBulk {H : Type} : DataW H → Nat
  | .lit (.string bytes) => bytes.length + 1
  | .lit _ => 1
  | .nil => 1
  | .ptr d => uptoBulk d + 1
  | .slice elems spare => uptoBulkAll elems + uptoBulkAll spare + 1
  | .agg parts => uptoBulkAll parts + 1
  | .iface _ d => uptoBulk d + 1
  | .map entries => uptoBulkEntries entries + 1
  | .held _ => 1
def uptoBulkAll {H : Type} : List (DataW H) → Nat
  | [] => 0
  | d :: r => uptoBulk d + uptoBulkAll r
def uptoBulkEntries {H : Type} : List (Lit × DataW H) → Nat
  | [] => 0
  | x :: r => uptoBulkEntry x + uptoBulkEntries r
def uptoBulkEntry {H : Type} : Lit × DataW H → Nat
  | (.string bytes, d) => bytes.length + uptoBulk d + 1
  | (_, d) => uptoBulk d + 1
 end
def uptoSmall : (H : Type) → List (DataW H) → Bool := fun _ ds => decide (uptoBulkAll ds ≤ 1048576)
def OpenSpec.upto (s : _root_.Go.ChangeSpec) : _root_.Go.OpenSpec := { _root_.Go.OpenSpec.ofChange s with cond := some uptoSmall }

/-- 'laws.FnWordSize', WHERE WHAT IT READS IS OF BULK AT MOST 1048576: true; the input reads as it did. -/
def fnWordSizeUptoRow : OpenClaim := { program := "ytoieojmfkkidnaa", sum := "1ec4ac5343fc74c0660dfed7d3629c5287d8388e2879345c9bdc706c6535a86b", func := "loop.example/pannier/laws.FnWordSize", spec := "fnWordSize", apart := false, narrowed := true }
def FnWordSizeUptoSaid : Prop := fnWordSizeUptoRow.holds Try.pinned (OpenSpec.upto fnWordSizeSpec)

/-- 'laws.FnExactWordOk', WHERE WHAT IT READS IS OF BULK AT MOST 1048576: true; the input reads as it did. -/
def fnExactWordOkUptoRow : OpenClaim := { program := "ytoieojmfkkidnaa", sum := "1ec4ac5343fc74c0660dfed7d3629c5287d8388e2879345c9bdc706c6535a86b", func := "loop.example/pannier/laws.FnExactWordOk", spec := "fnExactWordOk", apart := false, narrowed := true }
def FnExactWordOkUptoSaid : Prop := fnExactWordOkUptoRow.holds Try.pinned (OpenSpec.upto fnExactWordOkSpec)

/-- 'laws.FnExactWordPack', WHERE WHAT IT READS IS OF BULK AT MOST 1048576: true; the input reads as it did. -/
def fnExactWordPackUptoRow : OpenClaim := { program := "ytoieojmfkkidnaa", sum := "1ec4ac5343fc74c0660dfed7d3629c5287d8388e2879345c9bdc706c6535a86b", func := "loop.example/pannier/laws.FnExactWordPack", spec := "fnExactWordPack", apart := false, narrowed := true }
def FnExactWordPackUptoSaid : Prop := fnExactWordPackUptoRow.holds Try.pinned (OpenSpec.upto fnExactWordPackSpec)

/-- 'laws.FnExactSynVoterOk', WHERE WHAT IT READS IS OF BULK AT MOST 1048576: true; the input reads as it did. -/
def fnExactSynVoterOkUptoRow : OpenClaim := { program := "ytoieojmfkkidnaa", sum := "1ec4ac5343fc74c0660dfed7d3629c5287d8388e2879345c9bdc706c6535a86b", func := "loop.example/pannier/laws.FnExactSynVoterOk", spec := "fnExactSynVoterOk", apart := false, narrowed := true }
def FnExactSynVoterOkUptoSaid : Prop := fnExactSynVoterOkUptoRow.holds Try.pinned (OpenSpec.upto fnExactSynVoterOkSpec)

/-- 'laws.FnExactSynSeekerOk', WHERE WHAT IT READS IS OF BULK AT MOST 1048576: true; the input reads as it did. -/
def fnExactSynSeekerOkUptoRow : OpenClaim := { program := "ytoieojmfkkidnaa", sum := "1ec4ac5343fc74c0660dfed7d3629c5287d8388e2879345c9bdc706c6535a86b", func := "loop.example/pannier/laws.FnExactSynSeekerOk", spec := "fnExactSynSeekerOk", apart := false, narrowed := true }
def FnExactSynSeekerOkUptoSaid : Prop := fnExactSynSeekerOkUptoRow.holds Try.pinned (OpenSpec.upto fnExactSynSeekerOkSpec)

/-- 'laws.FnExactSynSeek', WHERE WHAT IT READS IS OF BULK AT MOST 1048576: true; the input reads as it did. -/
def fnExactSynSeekUptoRow : OpenClaim := { program := "ytoieojmfkkidnaa", sum := "1ec4ac5343fc74c0660dfed7d3629c5287d8388e2879345c9bdc706c6535a86b", func := "loop.example/pannier/laws.FnExactSynSeek", spec := "fnExactSynSeek", apart := false, narrowed := true }
def FnExactSynSeekUptoSaid : Prop := fnExactSynSeekUptoRow.holds Try.pinned (OpenSpec.upto fnExactSynSeekSpec)

/-- 'laws.FnExactSynVote', WHERE WHAT IT READS IS OF BULK AT MOST 1048576: true; the input reads as it did. -/
def fnExactSynVoteUptoRow : OpenClaim := { program := "ytoieojmfkkidnaa", sum := "1ec4ac5343fc74c0660dfed7d3629c5287d8388e2879345c9bdc706c6535a86b", func := "loop.example/pannier/laws.FnExactSynVote", spec := "fnExactSynVote", apart := false, narrowed := true }
def FnExactSynVoteUptoSaid : Prop := fnExactSynVoteUptoRow.holds Try.pinned (OpenSpec.upto fnExactSynVoteSpec)

/-- 'laws.FnSynVote', WHERE WHAT IT READS IS OF BULK AT MOST 1048576: true; the input reads as it did. -/
def fnSynVoteUptoRow : OpenClaim := { program := "ytoieojmfkkidnaa", sum := "1ec4ac5343fc74c0660dfed7d3629c5287d8388e2879345c9bdc706c6535a86b", func := "loop.example/pannier/laws.FnSynVote", spec := "fnSynVote", apart := false, narrowed := true }
def FnSynVoteUptoSaid : Prop := fnSynVoteUptoRow.holds Try.pinned (OpenSpec.upto fnSynVoteSpec)

/-- 'laws.FnSynHear', WHERE WHAT IT READS IS OF BULK AT MOST 1048576: true; the input reads as it did. -/
def fnSynHearUptoRow : OpenClaim := { program := "ytoieojmfkkidnaa", sum := "1ec4ac5343fc74c0660dfed7d3629c5287d8388e2879345c9bdc706c6535a86b", func := "loop.example/pannier/laws.FnSynHear", spec := "fnSynHear", apart := false, narrowed := true }
def FnSynHearUptoSaid : Prop := fnSynHearUptoRow.holds Try.pinned (OpenSpec.upto fnSynHearSpec)

/-- 'laws.FnExactSynHear', WHERE WHAT IT READS IS OF BULK AT MOST 1048576: true; the input reads as it did. -/
def fnExactSynHearUptoRow : OpenClaim := { program := "ytoieojmfkkidnaa", sum := "1ec4ac5343fc74c0660dfed7d3629c5287d8388e2879345c9bdc706c6535a86b", func := "loop.example/pannier/laws.FnExactSynHear", spec := "fnExactSynHear", apart := false, narrowed := true }
def FnExactSynHearUptoSaid : Prop := fnExactSynHearUptoRow.holds Try.pinned (OpenSpec.upto fnExactSynHearSpec)

end Rows
end Go.Proofs.Ytoieojmfkkidnaa
