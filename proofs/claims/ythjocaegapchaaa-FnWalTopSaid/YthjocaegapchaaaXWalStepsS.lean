/-
  What WalSteps comes to in plain lists, for the reference.
  Conditions: lists of at most two millions of elements.
-/
import Derived.Test.YthjocaegapchaaaXWalRead
import Derived.Test.YthjocaegapchaaaXWalApply
import Derived.Test.YthjocaegapchaaaXSecLook
import Derived.Test.YthjocaegapchaaaPx6
namespace Go.Proofs.YthjocaegapchaaaX
open Go.RowKit Go.Proofs.Ythjocaegapchaaa.P Go.Proofs.YthjocaegapchaaaW.PrintWords Go.Proofs.YthjocaegapchaaaW.PrintLast Go.Proofs.YthjocaegapchaaaW.PrintMore
set_option linter.unusedVariables false
set_option linter.unusedSimpArgs false

theorem texts_eq (a b : ByteArray) : a.toList = b.toList ↔ a = b := by
  constructor
  · intro h
    rw [ByteArray.toList_eq, ByteArray.toList_eq] at h
    exact ByteArray.ext (Array.toList_inj.1 h)
  · intro h; rw [h]
theorem nums_size (l : List Int) : (strOfNums l).size = l.length := by
  simp [strOfNums, ByteArray.size]
/-- Homes that are to change. -/
noncomputable def diffL : Bs → Bs → Nat → Option (List Sw)
  | [], _, _ => some []
  | s :: r, now, i => if (s.size : Int) > 15 then none else open Classical in if s = now.getD i ByteArray.empty then diffL r now (i + 1) else (diffL r now (i + 1)).map fun D => ⟨(i : Int), s⟩ :: D
def logs : Nat → List Sw → List Ss
  | _, [] => []
  | i, x :: r => ⟨false, 1 + (i : Int), strOfNums [x.f0 % 256] ++ x.f1⟩ :: logs (i + 1) r
def signL (n : Nat) : List Ss := [⟨true, 0, ⟨#[]⟩⟩, ⟨false, 0, strOfNums [(n : Int) % 256]⟩, ⟨true, 0, ⟨#[]⟩⟩]
def finL (D : List Sw) : List Ss × Bool := if (D.length : Int) = 0 then ([], true) else (logs 0 D ++ signL D.length ++ applyL D, true)
def Dok (D : List Sw) : Prop := ∀ x ∈ D, x.f1.size ≤ 15 ∧ 0 ≤ x.f0 ∧ x.f0 < 250
theorem Dok.snoc {D : List Sw} (h : Dok D) {i : Nat} {s : ByteArray} (hi : i < 250) (hs : ¬ (s.size : Int) > 15) : Dok (D ++ [⟨(i : Int), s⟩]) := fun x hx => by
  rcases List.mem_append.1 hx with hx | hx
  · exact h x hx
  · rw [List.mem_singleton.1 hx]; exact ⟨by show s.size ≤ 15; omega, by show (0 : Int) ≤ (i : Int); omega, by show (i : Int) < 250; omega⟩
theorem spec_log1 (D : List Sw) (hD : Dok D) (hl : D.length ≤ 250) : ∀ (d i : Nat) (A : List Ss), A.length ≤ i → D.length - i = d → i ≤ D.length →
    T (fun k => spec_WalSteps.l1 k D A (i : Int)) (· = (A ++ logs i (D.drop i) ++ signL D.length ++ applyL D, true)) := by
  intro d
  induction d with
  | zero =>
    intro i A hA hd hi
    have ha := applyL_len D
    refine T.succ ?_
    simp only [spec_WalSteps.l1, spec_l2Put.f, Option.bind_some]
    refine T.neg (by omega) (T.pos (by simp only [List.length_cons, List.length_nil]; omega) ?_)
    refine T.bind_eq (spec_apply_T D hl (fun x hx => (hD x hx).2)) ?_
    refine T.pos (by rw [List.length_append]; simp only [List.length_cons, List.length_nil]; omega) (T.ret ?_)
    rw [List.drop_of_length_le (by omega)]
    simp [logs, signL]
  | succ d ih =>
    intro i A hA hd hi
    have hlt : i < D.length := by omega
    have h1 := hD _ (List.getElem_mem hlt)
    refine T.succ ?_
    simp only [spec_WalSteps.l1, spec_l2Put.f, Option.bind_some, rdSw D i hlt, wrap_succ hlt (show D.length ≤ 4611686018427387904 by omega), nums_size, List.length_cons, List.length_nil]
    refine T.pos (by omega) (T.pos (by omega) (T.pos (by omega) (T.pos (by omega) ?_)))
    rw [wrap64_id (x := 1 + (i : Int)) (by omega) (by omega), List.drop_eq_getElem_cons hlt]
    have := ih (i + 1) (A ++ [⟨false, 1 + (i : Int), strOfNums [D[i].f0 % 256] ++ D[i].f1⟩]) (by simp; omega) (by omega) (by omega)
    simpa [logs, List.append_assoc] using this
def StepP (o : Option (List Sw)) (A : List Sw) (r : List Ss × Bool) : Prop := match o with | some D => r = finL (A ++ D) | none => r = ([], false)
theorem StepP.cons {s : ByteArray} {r now : Bs} {i : Nat} {A : List Sw} {q : List Ss × Bool} (h : ¬ (s.size : Int) > 15) (hn : ¬ s = now.getD i ByteArray.empty) :
    StepP (diffL r now (i + 1)) (A ++ [⟨(i : Int), s⟩]) q → StepP (diffL (s :: r) now i) A q := by
  unfold StepP
  simp only [diffL, if_neg h, if_neg hn]
  cases diffL r now (i + 1) with
  | none => exact id
  | some D => intro h; simpa using h
theorem StepP.same {s : ByteArray} {r now : Bs} {i : Nat} {A : List Sw} {q : List Ss × Bool} (h : ¬ (s.size : Int) > 15) (hn : s = now.getD i ByteArray.empty) :
    StepP (diffL r now (i + 1)) A q → StepP (diffL (s :: r) now i) A q := by
  unfold StepP
  simp only [diffL, if_neg h, if_pos hn]
  exact id
theorem spec_diff_loop (H now : Bs) (hH : H.length = 250) (hN : now.length = 250) : ∀ (d i : Nat) (A : List Sw), A.length ≤ i → Dok A → H.length - i = d → i ≤ H.length →
    T (fun k => spec_WalSteps.l0 k H [] now A (i : Int)) (StepP (diffL (H.drop i) now i) A) := by
  intro d
  induction d with
  | zero =>
    intro i A hA hD hd hi
    refine T.succ ?_
    simp only [spec_WalSteps.l0]
    refine T.neg (by omega) ?_
    rw [List.drop_of_length_le (by omega)]
    refine T.mono (P := (· = finL A)) ?_ (fun r hr => by simpa [StepP, diffL] using hr)
    unfold finL
    refine T.ite (fun h => by rw [if_pos h]; exact T.ret rfl) (fun h => ?_)
    rw [if_neg h]
    simpa using spec_log1 A hD (by omega) _ 0 [] (Nat.le_refl _) rfl (Nat.zero_le _)
  | succ d ih =>
    intro i A hA hD hd hi
    have hlt : i < H.length := by omega
    have hn : now.getD i ByteArray.empty = now[i]'(by omega) := getD_nat now i (by omega) _
    refine T.succ ?_
    simp only [spec_WalSteps.l0, rdB H i hlt, rdB now i (by omega), texts_eq, wrap_succ hlt (show H.length ≤ 4611686018427387904 by omega)]
    refine T.pos (by omega) (T.pos (by omega) ?_)
    rw [List.drop_eq_getElem_cons hlt]
    refine T.ite (fun h => T.ret ?_) (fun h => T.pos (by omega) ?_)
    · unfold StepP; simp only [diffL]; rw [if_pos h]; trivial
    refine T.ite (fun h2 => ?_) (fun h2 => T.pos (by omega) ?_)
    · exact (ih (i + 1) A (by omega) hD (by omega) (by omega)).mono (fun r hr => StepP.same h (by rw [hn]; exact h2) hr)
    · exact (ih (i + 1) _ (by simp; omega) (hD.snoc (by omega) h) (by omega) (by omega)).mono (fun r hr => StepP.cons h (by rw [hn]; exact h2) hr)
noncomputable def stepsB (K : Bs) (W : List Sw) (H : Bs) : List Ss × Bool :=
  if (wreadB K W).2 = true ∧ H.length = 250 ∧ (lookB K W 0).size = 0 then (match diffL H (wreadB K W).1 0 with | some D => finL D | none => ([], false)) else ([], false)
theorem wreadB_250 {K : Bs} {W : List Sw} (h : (wreadB K W).2 = true) : (wreadB K W).1.length = 250 := by
  unfold wreadB at *
  cases hL : logB K W with
  | none => rw [hL] at h; cases h
  | some L =>
    have := (logB_good hL).2.1
    simp only [wr_length, List.length_drop]; omega
theorem stepP_fin {H now : Bs} {r : List Ss × Bool} (h : StepP (diffL H now 0) [] r) : r = (match diffL H now 0 with | some D => finL D | none => ([], false)) := by
  unfold StepP at h
  cases hd : diffL H now 0 with
  | none => rw [hd] at h; exact h
  | some D => rw [hd] at h; simpa using h
theorem spec_steps (K : Bs) (W : List Sw) (H : Bs) (hK : K.length ≤ 1048577) : T (fun k => spec_WalSteps.f k K W H) (· = stepsB K W H) := by
  have bad : ¬ ((wreadB K W).2 = true ∧ H.length = 250 ∧ (lookB K W 0).size = 0) → T (fun k => spec_WalSteps.j0 k H [] (wreadB K W).1 true) (· = stepsB K W H) := fun h => by
    refine T.succ ?_
    simp only [spec_WalSteps.j0, if_true]
    exact T.ret (by unfold stepsB; rw [if_neg h])
  simp only [spec_WalSteps.f, Option.bind_some]
  refine T.bind_eq (spec_wread K W hK) ?_
  refine T.ite (fun h => ?_) (fun h => bad (fun h1 => h h1.1))
  refine T.ite (fun h3 => ?_) (fun h3 => bad (fun h1 => h3 (by omega)))
  refine T.bind_eq (spec_look K W hK 0) ?_
  by_cases h2 : (lookB K W 0).size = 0
  · rw [show ((lookB K W 0).toList != ([] : List UInt8)) = false by rw [(empty_iff _).2 h2]; rfl]
    refine T.succ ?_
    simp only [spec_WalSteps.j0]
    refine T.neg (by simp) ?_
    unfold stepsB
    rw [if_pos ⟨h, by omega, h2⟩]
    exact (spec_diff_loop H _ (by omega) (wreadB_250 h) _ 0 [] (Nat.le_refl _) (fun x hx => by cases hx) rfl (Nat.zero_le _)).mono (fun r hr => stepP_fin hr)
  · rw [show ((lookB K W 0).toList != ([] : List UInt8)) = true by rw [bne_iff_ne]; exact fun h => h2 ((empty_iff _).1 h)]
    exact bad (fun h1 => h2 h1.2.2)
theorem logs_len : ∀ (D : List Sw) (i : Nat), (logs i D).length = D.length
  | [], _ => rfl
  | x :: r, i => by simp [logs, logs_len r (i + 1)]
theorem diffL_len : ∀ (H now : Bs) (i : Nat) (D : List Sw), diffL H now i = some D → D.length ≤ H.length
  | [], now, i, D, h => by simp only [diffL, Option.some.injEq] at h; subst h; simp
  | s :: r, now, i, D, h => by
    simp only [diffL] at h
    split at h
    · cases h
    · split at h
      · have := diffL_len r now (i + 1) D h; simp; omega
      · cases hr : diffL r now (i + 1) with
        | none => rw [hr] at h; cases h
        | some M =>
          rw [hr] at h
          simp only [Option.map_some, Option.some.injEq] at h
          subst h
          have := diffL_len r now (i + 1) M hr
          simp; omega
theorem stepsB_len (K : Bs) (W : List Sw) (H : Bs) : (stepsB K W H).1.length ≤ 1048576 := by
  unfold stepsB
  split
  · next h =>
    cases hd : diffL H (wreadB K W).1 0 with
    | none => simp
    | some D =>
      have h1 := diffL_len _ _ _ _ hd
      have h2 := applyL_len D
      have h3 := logs_len D 0
      simp only [finL]
      split
      · simp
      · simp only [List.length_append, signL, List.length_cons, List.length_nil]; omega
  · simp
end Go.Proofs.YthjocaegapchaaaX
