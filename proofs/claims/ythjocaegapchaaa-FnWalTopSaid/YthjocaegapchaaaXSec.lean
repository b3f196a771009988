/-
  What the functions on sectors come to, in plain lists, for the program and the reference alike.
  Conditions: lists of at most two millions of elements.
-/
import Derived.Test.YthjocaegapchaaaXIn
import Derived.Test.YthjocaegapchaaaPx2
namespace Go.Proofs.YthjocaegapchaaaX
open Go.RowKit Go.Proofs.Ythjocaegapchaaa.P Go.Proofs.YthjocaegapchaaaW.PrintWords Go.Proofs.YthjocaegapchaaaW.PrintLast Go.Proofs.YthjocaegapchaaaW.PrintMore
set_option linter.unusedVariables false
set_option linter.unusedSimpArgs false

abbrev Sw := S75
theorem rdSw (l : List Sw) (i : Nat) (h : i < l.length) : rd_T75 l (i : Int) = l[i] := getD_nat l i h _
theorem rdB (l : List ByteArray) (i : Nat) (h : i < l.length) : rdOf ByteArray.empty l (i : Int) = l[i] := getD_nat l i h _
def small (s : ByteArray) : Prop := (s.size : Int) ≤ 16
def goodW (n : Nat) (x : Sw) : Prop := (0 ≤ x.f0 ∧ x.f0 ≤ (n : Int) - 1) ∧ small x.f1
/-- A disk that is ok. -/
def SOk (K : List ByteArray) (W : List Sw) : Prop := (K.length ≤ 512 ∧ W.length ≤ 600) ∧ (∀ s ∈ K, small s) ∧ ∀ x ∈ W, goodW K.length x
theorem drop_all {α : Type} {l : List α} {P : α → Prop} (i : Nat) (h : i < l.length) : (∀ x ∈ l.drop i, P x) ↔ P l[i] ∧ ∀ x ∈ l.drop (i + 1), P x := by
  rw [List.drop_eq_getElem_cons h]
  exact List.forall_mem_cons
theorem writeOk_f (n : Nat) (hn : n ≤ 4611686018427387904) (a : Int) (s : ByteArray) : ∃ r, spec_l1WriteOk.f (n : Int) a s = some r ∧ (r = true ↔ goodW n ⟨a, s⟩) := by
  unfold spec_l1WriteOk.f
  rw [wrap64_id (x := (n : Int) - 1) (by omega) (by omega), l6In_f, Option.bind_some]
  unfold goodW small
  by_cases h : 0 ≤ a ∧ a ≤ (n : Int) - 1
  · simp [h]
  · simp [h]
theorem impl_sok_loop1 (K : List ByteArray) (W : List Sw) (hK : K.length ≤ 4611686018427387904) (hW : W.length ≤ 4611686018427387904) : ∀ (d i : Nat), W.length - i = d → i ≤ W.length →
    T (fun k => impl_SecOk.l1 k W (W.length : Int) (i : Int) K W) (fun r => r = true ↔ (K.length ≤ 512 ∧ W.length ≤ 600) ∧ ∀ x ∈ W.drop i, goodW K.length x) := by
  intro d
  induction d with
  | zero =>
    intro i hd hi
    refine T.succ ?_
    simp only [impl_SecOk.l1]
    refine T.neg (by omega) ?_
    rw [List.drop_of_length_le (by omega)]
    refine T.ite (fun h => T.ret ?_) (fun h => T.ret ⟨ff, fun h1 => by omega⟩)
    simp only [decide_eq_true_eq]
    exact ⟨fun h1 => ⟨by omega, by simp⟩, fun h1 => by omega⟩
  | succ d ih =>
    intro i hd hi
    have hlt : i < W.length := by omega
    have next := ih (i + 1) (by omega) (by omega)
    refine T.succ ?_
    simp only [impl_SecOk.l1]
    refine T.pos (by omega) (T.pos (by omega) (T.pos (by omega) ?_))
    simp only [rdSw W i hlt, wrap_succ hlt hW, in_f, Option.bind_some, decide_eq_true_eq, wrap64_id (x := (K.length : Int) - 1) (by omega) (by omega)]
    rw [drop_all i hlt]
    refine T.ite (fun h => T.ret ⟨ff, fun h1 => by have := h1.2.1.2; unfold small at this; omega⟩) (fun h => ?_)
    refine T.ite (fun h2 => ?_) (fun h2 => T.ret ⟨ff, fun h1 => absurd h1.2.1.1 h2⟩)
    exact next.mono (fun r hr => hr.trans ⟨fun h1 => ⟨h1.1, ⟨h2, by unfold small; omega⟩, h1.2⟩, fun h1 => ⟨h1.1, h1.2.2⟩⟩)
theorem impl_sok_loop0 (K : List ByteArray) (W : List Sw) (hK : K.length ≤ 4611686018427387904) (hW : W.length ≤ 4611686018427387904) : ∀ (d i : Nat), K.length - i = d → i ≤ K.length →
    T (fun k => impl_SecOk.l0 k K (K.length : Int) (i : Int) K W) (fun r => r = true ↔ (K.length ≤ 512 ∧ W.length ≤ 600) ∧ (∀ s ∈ K.drop i, small s) ∧ ∀ x ∈ W, goodW K.length x) := by
  intro d
  induction d with
  | zero =>
    intro i hd hi
    refine T.succ ?_
    simp only [impl_SecOk.l0]
    refine T.neg (by omega) ?_
    refine (impl_sok_loop1 K W hK hW _ 0 rfl (Nat.zero_le _)).mono (fun r hr => hr.trans ?_)
    rw [List.drop_of_length_le (show K.length ≤ i by omega)]
    simp
  | succ d ih =>
    intro i hd hi
    have hlt : i < K.length := by omega
    have next := ih (i + 1) (by omega) (by omega)
    refine T.succ ?_
    simp only [impl_SecOk.l0]
    refine T.pos (by omega) (T.pos (by omega) (T.pos (by omega) ?_))
    simp only [rdB K i hlt, wrap_succ hlt hK]
    rw [drop_all i hlt]
    refine T.ite (fun h => T.ret ⟨ff, fun h1 => by have := h1.2.1.1; unfold small at this; omega⟩) (fun h => ?_)
    exact next.mono (fun r hr => hr.trans ⟨fun h1 => ⟨h1.1, ⟨by unfold small; omega, h1.2.1⟩, h1.2.2⟩, fun h1 => ⟨h1.1, h1.2.1.2, h1.2.2⟩⟩)
theorem spec_sok_loop1 (K : List ByteArray) (W : List Sw) (hK : K.length ≤ 512) (hW : W.length ≤ 600) : ∀ (d i : Nat), W.length - i = d → i ≤ W.length →
    T (fun k => spec_SecOk.l1 k (i : Int) K W) (fun r => r = true ↔ ∀ x ∈ W.drop i, goodW K.length x) := by
  intro d
  induction d with
  | zero =>
    intro i hd hi
    refine T.succ ?_
    simp only [spec_SecOk.l1]
    refine T.neg (by omega) (T.ret ?_)
    rw [List.drop_of_length_le (by omega)]
    simp
  | succ d ih =>
    intro i hd hi
    have hlt : i < W.length := by omega
    have next := ih (i + 1) (by omega) (by omega)
    refine T.succ ?_
    simp only [spec_SecOk.l1]
    refine T.pos (by omega) (T.pos (by omega) ?_)
    obtain ⟨r, hr, hr2⟩ := writeOk_f K.length (by omega) W[i].f0 W[i].f1
    simp only [rdSw W i hlt, wrap_succ hlt (show W.length ≤ 4611686018427387904 by omega), hr, Option.bind_some]
    rw [drop_all i hlt]
    refine T.ite (fun h => ?_) (fun h => T.ret ⟨ff, fun h1 => absurd (hr2.2 h1.1) h⟩)
    exact next.mono (fun r hr => hr.trans ⟨fun h1 => ⟨hr2.1 h, h1⟩, fun h1 => h1.2⟩)
theorem spec_sok_loop0 (K : List ByteArray) (W : List Sw) (hK : K.length ≤ 512) (hW : W.length ≤ 600) : ∀ (d i : Nat), K.length - i = d → i ≤ K.length →
    T (fun k => spec_SecOk.l0 k (i : Int) K W) (fun r => r = true ↔ (∀ s ∈ K.drop i, small s) ∧ ∀ x ∈ W, goodW K.length x) := by
  intro d
  induction d with
  | zero =>
    intro i hd hi
    refine T.succ ?_
    simp only [spec_SecOk.l0]
    refine T.neg (by omega) ?_
    refine (spec_sok_loop1 K W hK hW _ 0 rfl (Nat.zero_le _)).mono (fun r hr => hr.trans ?_)
    rw [List.drop_of_length_le (show K.length ≤ i by omega)]
    simp
  | succ d ih =>
    intro i hd hi
    have hlt : i < K.length := by omega
    have next := ih (i + 1) (by omega) (by omega)
    refine T.succ ?_
    simp only [spec_SecOk.l0]
    refine T.pos (by omega) (T.pos (by omega) ?_)
    simp only [rdB K i hlt, wrap_succ hlt (show K.length ≤ 4611686018427387904 by omega)]
    rw [drop_all i hlt]
    refine T.ite (fun h => T.ret ⟨ff, fun h1 => by have := h1.1.1; unfold small at this; omega⟩) (fun h => ?_)
    exact next.mono (fun r hr => hr.trans ⟨fun h1 => ⟨⟨by unfold small; omega, h1.1⟩, h1.2⟩, fun h1 => ⟨h1.1.2, h1.2⟩⟩)
open Classical in
noncomputable def sok (K : List ByteArray) (W : List Sw) : Bool := decide (SOk K W)
theorem sok_iff (K : List ByteArray) (W : List Sw) : sok K W = true ↔ SOk K W := by simp [sok]
theorem impl_sok (K : List ByteArray) (W : List Sw) (hK : K.length ≤ 4611686018427387904) (hW : W.length ≤ 4611686018427387904) : T (fun k => impl_SecOk.f k K W) (· = sok K W) :=
  (impl_sok_loop0 K W hK hW _ 0 rfl (Nat.zero_le _)).mono (fun r hr => Bool.eq_iff_iff.2 (hr.trans (sok_iff K W).symm))
theorem spec_sok (K : List ByteArray) (W : List Sw) : T (fun k => spec_SecOk.f k K W) (· = sok K W) := by
  have bad : ¬ (K.length ≤ 512 ∧ W.length ≤ 600) → T (fun k => spec_SecOk.j0 k true K W) (· = sok K W) := fun h => by
    refine T.succ ?_
    simp only [spec_SecOk.j0, if_true]
    exact T.ret (Bool.eq_iff_iff.2 ⟨ff, fun h1 => absurd ((sok_iff K W).1 h1).1 h⟩)
  simp only [spec_SecOk.f]
  refine T.ite (fun h => bad (by omega)) (fun h => ?_)
  by_cases hW : (W.length : Int) > 600
  · rw [decide_eq_true hW]; exact bad (by omega)
  · rw [decide_eq_false hW]
    refine T.succ ?_
    simp only [spec_SecOk.j0]
    refine T.neg (by simp) ?_
    exact (spec_sok_loop0 K W (by omega) (by omega) _ 0 rfl (Nat.zero_le _)).mono (fun r hr => Bool.eq_iff_iff.2 (hr.trans ⟨fun h1 => (sok_iff K W).2 ⟨⟨by omega, by omega⟩, h1⟩, fun h1 => ((sok_iff K W).1 h1).2⟩))
end Go.Proofs.YthjocaegapchaaaX
