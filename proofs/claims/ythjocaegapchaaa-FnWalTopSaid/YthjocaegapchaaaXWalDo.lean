/-
  What WalDo comes to, for the program and the reference alike.
  Conditions: lists of at most two millions of elements.
-/
import Derived.Test.YthjocaegapchaaaXSecFew
import Derived.Test.YthjocaegapchaaaXSecPut
import Derived.Test.YthjocaegapchaaaXSecCut
import Derived.Test.YthjocaegapchaaaPx8
import Derived.Test.YthjocaegapchaaaPx7
namespace Go.Proofs.YthjocaegapchaaaX
open Go.RowKit Go.Proofs.Ythjocaegapchaaa.P Go.Proofs.YthjocaegapchaaaW.PrintWords Go.Proofs.YthjocaegapchaaaW.PrintLast Go.Proofs.YthjocaegapchaaaW.PrintMore
set_option linter.unusedVariables false
set_option linter.unusedSimpArgs false

abbrev Stp := S61
theorem rdStp (l : List Stp) (i : Nat) (h : i < l.length) : rd_T61 l (i : Int) = l[i] := getD_nat l i h _
/-- Steps, done from the i-th on. -/
noncomputable def runB (cut : Bool) (after : Int) (keep : List Int) : List Stp → Nat → Bs → List Sw → Bs × List Sw
  | [], _, K, W => if cut = true then cutB K W keep else (K, W)
  | x :: r, i, K, W => if cut = true ∧ (i : Int) ≥ after then cutB K W keep
    else if x.f0 = true then runB cut after keep r (i + 1) (flushB K W).1 (flushB K W).2 else runB cut after keep r (i + 1) (sputB K W x.f1 x.f2).1 (sputB K W x.f1 x.f2).2.1
noncomputable def doB (K : Bs) (W : List Sw) (S : List Stp) (cut : Bool) (after : Int) (keep : List Int) : Bs × List Sw :=
  if sok K W = true ∧ S.length ≤ 600 then runB cut after keep S 0 K W else ([], [])
theorem spec_do_loop (S : List Stp) (hS : S.length ≤ 600) (cut : Bool) (after : Int) (keep : List Int) : ∀ (d i : Nat) (K : Bs) (W : List Sw), Few K W → S.length - i = d → i ≤ S.length →
    T (fun k => spec_WalDo.l0 k S cut after keep (i : Int) K W) (· = runB cut after keep (S.drop i) i K W) := by
  intro d
  induction d with
  | zero =>
    intro i K W hf hd hi
    refine T.succ ?_
    simp only [spec_WalDo.l0]
    refine T.neg (by omega) ?_
    rw [List.drop_of_length_le (by omega)]
    simp only [runB]
    refine T.ite (fun h => ?_) (fun h => by rw [if_neg h]; exact T.ret rfl)
    rw [if_pos h]
    exact T.bind_eq (spec_cut K W keep) (T.ret rfl)
  | succ d ih =>
    intro i K W hf hd hi
    have hlt : i < S.length := by omega
    rw [List.drop_eq_getElem_cons hlt]
    have go : ∀ b : Bool, (b = true ↔ cut = true ∧ (i : Int) ≥ after) → T (fun k => spec_WalDo.j2 k S cut after keep (i : Int) b K W) (· = runB cut after keep (S[i] :: S.drop (i + 1)) i K W) := fun b hb => by
      simp only [runB]
      refine T.succ ?_
      simp only [spec_WalDo.j2, rdStp S i hlt, wrap_succ hlt (show S.length ≤ 4611686018427387904 by omega)]
      refine T.ite (fun h => ?_) (fun h => ?_)
      · rw [if_pos (hb.1 h)]
        exact T.bind_eq (spec_cut K W keep) (T.ret rfl)
      rw [if_neg (fun h1 => h (hb.2 h1))]
      refine T.pos (by omega) (T.pos (by omega) ?_)
      refine T.ite (fun h1 => ?_) (fun h1 => ?_)
      · rw [if_pos h1]
        refine T.bind_eq (spec_flush K W) ?_
        exact ih (i + 1) _ _ (few_flush hf) (by omega) (by omega)
      · rw [if_neg h1]
        refine T.bind_eq (spec_sput K W (by have := hf.1; omega) (by have := hf.2; omega) _ _) ?_
        exact ih (i + 1) _ _ (few_put hf _ _) (by omega) (by omega)
    refine T.succ ?_
    simp only [spec_WalDo.l0]
    refine T.pos (by omega) ?_
    refine T.ite (fun h => go _ (by simp [h])) (fun h => go _ (by simp [h]))
theorem spec_do (K : Bs) (W : List Sw) (S : List Stp) (cut : Bool) (after : Int) (keep : List Int) : T (fun k => spec_WalDo.f k K W S cut after keep) (· = doB K W S cut after keep) := by
  have bad : ¬ (sok K W = true ∧ S.length ≤ 600) → T (fun k => spec_WalDo.j0 k S cut after keep true K W) (· = doB K W S cut after keep) := fun h => by
    refine T.succ ?_
    simp only [spec_WalDo.j0, if_true]
    exact T.ret (by unfold doB; rw [if_neg h])
  simp only [spec_WalDo.f]
  refine T.bind_eq (spec_sok K W) ?_
  refine T.ite (fun h => ?_) (fun h => bad (fun h1 => h h1.1))
  by_cases hl : S.length ≤ 600
  · rw [decide_eq_false (by omega)]
    have hs := ((sok_iff K W).1 h).1
    refine T.succ ?_
    simp only [spec_WalDo.j0]
    refine T.neg (by simp) ?_
    have cp : spec_l1Copy.f K W = some (K, W) := by
      simp only [spec_l1Copy.f, Option.bind_some, List.length_nil, List.nil_append]
      rw [if_pos (by omega), if_pos (by omega)]
    rw [cp]
    simp only [Option.bind_some]
    unfold doB
    rw [if_pos ⟨h, hl⟩]
    exact spec_do_loop S hl cut after keep _ 0 K W ⟨by omega, by omega⟩ rfl (Nat.zero_le _)
  · rw [decide_eq_true (by omega)]
    exact bad (fun h1 => hl h1.2)
theorem impl_do_loop (S : List Stp) (hS : S.length ≤ 600) (cut : Bool) (after : Int) (keep : List Int) : ∀ (d i : Nat) (K : Bs) (W : List Sw), Few K W → S.length - i = d → i ≤ S.length →
    T (fun k => impl_WalDo.l0 k cut after keep S (S.length : Int) (i : Int) K W) (· = runB cut after keep (S.drop i) i K W) := by
  intro d
  induction d with
  | zero =>
    intro i K W hf hd hi
    refine T.succ ?_
    simp only [impl_WalDo.l0]
    refine T.neg (by omega) ?_
    rw [List.drop_of_length_le (by omega)]
    simp only [runB]
    refine T.ite (fun h => ?_) (fun h => by rw [if_neg h]; exact T.ret rfl)
    rw [if_pos h]
    exact T.bind_eq (impl_cut K W (by have := hf.1; omega) (by have := hf.2; omega) keep) (T.ret rfl)
  | succ d ih =>
    intro i K W hf hd hi
    have hlt : i < S.length := by omega
    rw [List.drop_eq_getElem_cons hlt]
    have go : ∀ b : Bool, (b = true ↔ cut = true ∧ (i : Int) ≥ after) → T (fun k => impl_WalDo.j2 k cut after keep S (S.length : Int) (i : Int) b K W S[i].f0 S[i].f1 S[i].f2) (· = runB cut after keep (S[i] :: S.drop (i + 1)) i K W) := fun b hb => by
      simp only [runB]
      refine T.succ ?_
      simp only [impl_WalDo.j2, wrap_succ hlt (show S.length ≤ 4611686018427387904 by omega)]
      refine T.ite (fun h => ?_) (fun h => ?_)
      · rw [if_pos (hb.1 h)]
        refine T.pos (hb.1 h).1 ?_
        exact T.bind_eq (impl_cut K W (by have := hf.1; omega) (by have := hf.2; omega) keep) (T.ret rfl)
      rw [if_neg (fun h1 => h (hb.2 h1))]
      refine T.ite (fun h1 => ?_) (fun h1 => ?_)
      · rw [if_pos h1]
        refine T.bind_eq (impl_flush K W (by have := hf.1; omega) (by have := hf.2; omega)) ?_
        exact ih (i + 1) _ _ (few_flush hf) (by omega) (by omega)
      · rw [if_neg h1]
        refine T.bind_eq (impl_sput K W (by have := hf.1; omega) (by have := hf.2; omega) _ _) ?_
        exact ih (i + 1) _ _ (few_put hf _ _) (by omega) (by omega)
    refine T.succ ?_
    simp only [impl_WalDo.l0, rdStp S i hlt]
    refine T.pos (by omega) (T.pos (by omega) (T.pos (by omega) ?_))
    refine T.ite (fun h => go _ (by simp [h])) (fun h => go _ (by simp [h]))
theorem impl_do (K : Bs) (W : List Sw) (S : List Stp) (hK : K.length ≤ 1048577) (hW : W.length ≤ 1048577) (cut : Bool) (after : Int) (keep : List Int) : T (fun k => impl_WalDo.f k K W S cut after keep) (· = doB K W S cut after keep) := by
  have bad : ¬ (sok K W = true ∧ S.length ≤ 600) → T (fun k => impl_WalDo.j0 k S cut after keep true K W) (· = doB K W S cut after keep) := fun h => by
    refine T.succ ?_
    simp only [impl_WalDo.j0, if_true]
    exact T.ret (by unfold doB; rw [if_neg h])
  simp only [impl_WalDo.f]
  refine T.bind_eq (impl_sok K W (by omega) (by omega)) ?_
  refine T.ite (fun h => ?_) (fun h => bad (fun h1 => h h1.1))
  by_cases hl : S.length ≤ 600
  · rw [decide_eq_false (by omega)]
    have hs := ((sok_iff K W).1 h).1
    refine T.succ ?_
    simp only [impl_WalDo.j0]
    refine T.neg (by simp) ?_
    have cp : impl_secCopy.f K W = some (K, W) := by
      simp only [impl_secCopy.f, impl_copied_string.f, impl_copied_SecWrite.f]
      rw [if_pos (by omega), if_pos (by omega)]; rfl
    rw [cp]
    simp only [Option.bind_some]
    unfold doB
    rw [if_pos ⟨h, hl⟩]
    exact impl_do_loop S hl cut after keep _ 0 K W ⟨by omega, by omega⟩ rfl (Nat.zero_le _)
  · rw [decide_eq_true (by omega)]
    exact bad (fun h1 => hl h1.2)
theorem cutB_few {K : Bs} {W : List Sw} (h : Few K W) (keep : List Int) : Few (cutB K W keep).1 (cutB K W keep).2 := by
  unfold cutB
  split
  · exact ⟨by simp only [wr_length]; exact h.1, by simp⟩
  · exact ⟨by simp, by simp⟩
theorem runB_few (cut : Bool) (after : Int) (keep : List Int) : ∀ (S : List Stp) (i : Nat) (K : Bs) (W : List Sw), Few K W → Few (runB cut after keep S i K W).1 (runB cut after keep S i K W).2
  | [], i, K, W, h => by
    simp only [runB]
    split
    · exact cutB_few h keep
    · exact h
  | x :: r, i, K, W, h => by
    simp only [runB]
    split
    · exact cutB_few h keep
    · split
      · exact runB_few cut after keep r _ _ _ (few_flush h)
      · exact runB_few cut after keep r _ _ _ (few_put h _ _)
theorem doB_few (K : Bs) (W : List Sw) (S : List Stp) (cut : Bool) (after : Int) (keep : List Int) : Few (doB K W S cut after keep).1 (doB K W S cut after keep).2 := by
  unfold doB
  split
  · next h =>
    have hs := ((sok_iff K W).1 h.1).1
    exact runB_few _ _ _ _ _ _ _ ⟨by omega, by omega⟩
  · exact ⟨by simp, by simp⟩
end Go.Proofs.YthjocaegapchaaaX
