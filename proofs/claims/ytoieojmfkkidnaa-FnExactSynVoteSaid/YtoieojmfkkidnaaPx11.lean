-- printed by pprint.py (this session's program over the kit's printer) out of the translation. Lean checks it.
import Derived.Test.YtoieojmfkkidnaaPx0
import Derived.Test.YtoieojmfkkidnaaPx9
import Derived.Test.YtoieojmfkkidnaaPx10
namespace Go.Proofs.Ytoieojmfkkidnaa.P
open Go.RowKit Go.Proofs.YtoieojmfkkidnaaX Go.Proofs.YtoieojmfkkidnaaW.PrintWords Go.Proofs.YtoieojmfkkidnaaW.PrintLast Go.Proofs.YtoieojmfkkidnaaW.PrintMore
attribute [local go_sem] max2_int min2_int max_two min_two max_three min_three max_four min_four   -- for this text's walks alone
set_option linter.unusedVariables false
set_option linter.unusedSimpArgs false
/-! ### laws_FnExactSynVote: function 9 -/
/-- THE ONE PURE STATEMENT of laws_FnExactSynVote. -/
def laws_FnExactSynVote.Pure : Prop := ∀ (a0_0 : Int) (l0_1 : List (S57)) (a1 a2_0 a2_1 a2_2 a2_3 a2_4 a2_5 a2_6 a2_7 a2_8 a2_9 a2_10 a2_11 a2_12 a2_13 a2_14 a2_15 a2_16 a2_17 a2_18 a2_19 a2_20 a2_21 a2_22 a2_23 : Int) (l2_24 : List (S146)) (l2_25 : List (S148)), wf47 (⟨a0_0, l0_1⟩ : S47) → (Lit.int .i64 a1).wf = true → wf36 (⟨a2_0, a2_1, a2_2, a2_3, a2_4, a2_5, (⟨a2_6, a2_7, a2_8, a2_9, a2_10, a2_11, a2_12, a2_13, a2_14, a2_15⟩ : S32), a2_16, a2_17, a2_18, a2_19, a2_20, a2_21, a2_22, a2_23, l2_24, l2_25⟩ : S36) → ∃ k, laws_FnExactSynVote.f k a0_0 l0_1 a1 a2_0 a2_1 a2_2 a2_3 a2_4 a2_5 a2_6 a2_7 a2_8 a2_9 a2_10 a2_11 a2_12 a2_13 a2_14 a2_15 a2_16 a2_17 a2_18 a2_19 a2_20 a2_21 a2_22 a2_23 l2_24 l2_25 = some true
theorem laws_FnExactSynVote.walk (P : laws_FnExactSynVote.Pure) (a0_0 : Int) (A0_1 : Option Addr) (c0_1 : Nat) (l0_1 : List (S57)) (a1 a2_0 a2_1 a2_2 a2_3 a2_4 a2_5 a2_6 a2_7 a2_8 a2_9 a2_10 a2_11 a2_12 a2_13 a2_14 a2_15 a2_16 a2_17 a2_18 a2_19 a2_20 a2_21 a2_22 a2_23 : Int) (A2_24 : Option Addr) (c2_24 : Nat) (l2_24 : List (S146)) (A2_25 : Option Addr) (c2_25 : Nat) (l2_25 : List (S148)) (w : World) (hw0 : wf47 (⟨a0_0, l0_1⟩ : S47)) (hw1 : (Lit.int .i64 a1).wf = true) (hw2 : wf36 (⟨a2_0, a2_1, a2_2, a2_3, a2_4, a2_5, (⟨a2_6, a2_7, a2_8, a2_9, a2_10, a2_11, a2_12, a2_13, a2_14, a2_15⟩ : S32), a2_16, a2_17, a2_18, a2_19, a2_20, a2_21, a2_22, a2_23, l2_24, l2_25⟩ : S36)) (hr0_1 : Kd.C k57 w A0_1 l0_1.length l0_1) (hc0_1 : l0_1.length ≤ c0_1) (hr2_24 : Kd.C k146 w A2_24 l2_24.length l2_24) (hc2_24 : l2_24.length ≤ c2_24) (hr2_25 : Kd.C k148 w A2_25 l2_25.length l2_25) (hc2_25 : l2_25.length ≤ c2_25) :
  Calls Try.prog 9 #[.agg #[.int .i64 a0_0,.slice A0_1 l0_1.length c0_1],.int .i64 a1,.agg #[.int .i64 a2_0,.int .i64 a2_1,.int .i64 a2_2,.int .i64 a2_3,.int .i64 a2_4,.int .i64 a2_5,.int .i64 a2_6,.int .i64 a2_7,.int .i64 a2_8,.int .i64 a2_9,.int .i64 a2_10,.int .i64 a2_11,.int .i64 a2_12,.int .i64 a2_13,.int .i64 a2_14,.int .i64 a2_15,.int .i64 a2_16,.int .i64 a2_17,.int .i64 a2_18,.int .i64 a2_19,.int .i64 a2_20,.int .i64 a2_21,.int .i64 a2_22,.int .i64 a2_23,.slice A2_24 l2_24.length c2_24,.slice A2_25 l2_25.length c2_25]] w fun e w'=>e=.returned (.bool true)∧Below w.heap.size w w':=by
 obtain ⟨k,h⟩:=P a0_0 l0_1 a1 a2_0 a2_1 a2_2 a2_3 a2_4 a2_5 a2_6 a2_7 a2_8 a2_9 a2_10 a2_11 a2_12 a2_13 a2_14 a2_15 a2_16 a2_17 a2_18 a2_19 a2_20 a2_21 a2_22 a2_23 l2_24 l2_25 hw0 hw1 hw2;refine (laws_FnExactSynVote.calls hr0_1 hc0_1 hr2_24 hc2_24 hr2_25 hc2_25 h rfl).mono ?_;rintro e w' ⟨rfl,hd⟩
 exact ⟨rfl,hd⟩
end Go.Proofs.Ytoieojmfkkidnaa.P
