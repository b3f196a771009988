/-
  What SecFlush, SecLook, SecPut and SecCut come to, in plain lists, for the program and the reference alike.
  Conditions: lists of at most two millions of elements.
-/
import Derived.Test.YthjocaegapchaaaXSec
import Derived.Test.YthjocaegapchaaaPx2
namespace Go.Proofs.YthjocaegapchaaaX
open Go.RowKit Go.Proofs.Ythjocaegapchaaa.P Go.Proofs.YthjocaegapchaaaW.PrintWords Go.Proofs.YthjocaegapchaaaW.PrintLast Go.Proofs.YthjocaegapchaaaW.PrintMore
set_option linter.unusedVariables false
set_option linter.unusedSimpArgs false

abbrev Bs := List ByteArray
/-- Writes, done in order. -/
def wr (K : Bs) (W : List Sw) : Bs := W.foldl (fun K x => K.set x.f0.toNat x.f1) K
theorem wr_length : ∀ (W : List Sw) (K : Bs), (wr K W).length = K.length
  | [], _ => rfl
  | x :: r, K => by simp only [wr, List.foldl_cons]; exact (wr_length r _).trans (by simp)
theorem wr_cons (K : Bs) (x : Sw) (r : List Sw) : wr K (x :: r) = wr (K.set x.f0.toNat x.f1) r := rfl
noncomputable def flushB (K : Bs) (W : List Sw) : Bs × List Sw := if sok K W = true then (wr K W, []) else ([], [])
theorem impl_flush_loop (n : Nat) (W : List Sw) (hn : n ≤ 512) (hW : W.length ≤ 600) (hg : ∀ x ∈ W, goodW n x) : ∀ (d i : Nat) (K : Bs), K.length = n → W.length - i = d → i ≤ W.length →
    T (fun k => impl_SecFlush.l0 k W (W.length : Int) (i : Int) K) (· = (wr K (W.drop i), [])) := by
  intro d
  induction d with
  | zero =>
    intro i K hK hd hi
    refine T.succ ?_
    simp only [impl_SecFlush.l0]
    refine T.neg (by omega) (T.ret ?_)
    rw [List.drop_of_length_le (by omega)]; rfl
  | succ d ih =>
    intro i K hK hd hi
    have hlt : i < W.length := by omega
    have h1 := (hg _ (List.getElem_mem hlt)).1
    refine T.succ ?_
    simp only [impl_SecFlush.l0]
    refine T.pos (by omega) (T.pos (by omega) (T.pos (by omega) ?_))
    simp only [rdSw W i hlt, wrap_succ hlt (show W.length ≤ 4611686018427387904 by omega)]
    refine T.pos h1.1 (T.pos (by omega) ?_)
    rw [List.drop_eq_getElem_cons hlt, wr_cons]
    exact ih (i + 1) _ (by simpa using hK) (by omega) (by omega)
theorem spec_flush_loop (n : Nat) (K0 : Bs) (W : List Sw) (hn : n ≤ 512) (hW : W.length ≤ 600) (hg : ∀ x ∈ W, goodW n x) : ∀ (d i : Nat) (K : Bs), K.length = n → W.length - i = d → i ≤ W.length →
    T (fun k => spec_SecFlush.l0 k (i : Int) K0 W K) (· = (wr K (W.drop i), [])) := by
  intro d
  induction d with
  | zero =>
    intro i K hK hd hi
    refine T.succ ?_
    simp only [spec_SecFlush.l0]
    refine T.neg (by omega) (T.ret ?_)
    rw [List.drop_of_length_le (by omega)]; rfl
  | succ d ih =>
    intro i K hK hd hi
    have hlt : i < W.length := by omega
    have h1 := (hg _ (List.getElem_mem hlt)).1
    refine T.succ ?_
    simp only [spec_SecFlush.l0]
    refine T.pos (by omega) (T.pos (by omega) ?_)
    simp only [rdSw W i hlt, wrap_succ hlt (show W.length ≤ 4611686018427387904 by omega)]
    refine T.pos h1.1 (T.pos (by omega) ?_)
    rw [List.drop_eq_getElem_cons hlt, wr_cons]
    exact ih (i + 1) _ (by simpa using hK) (by omega) (by omega)
theorem impl_flush (K : Bs) (W : List Sw) (hK : K.length ≤ 1048577) (hW : W.length ≤ 1048577) : T (fun k => impl_SecFlush.f k K W) (· = flushB K W) := by
  simp only [impl_SecFlush.f, impl_copied_string.f]
  refine T.bind_eq (impl_sok K W (by omega) (by omega)) ?_
  unfold flushB
  refine T.ite (fun h => ?_) (fun h => ?_)
  · have hs := (sok_iff K W).1 h
    rw [if_pos h, if_pos (by omega)]
    exact impl_flush_loop K.length W hs.1.1 hs.1.2 hs.2.2 _ 0 K rfl rfl (Nat.zero_le _)
  · rw [if_neg h]; exact T.ret rfl
theorem spec_flush (K : Bs) (W : List Sw) : T (fun k => spec_SecFlush.f k K W) (· = flushB K W) := by
  simp only [spec_SecFlush.f, Option.bind_some, List.length_nil, List.nil_append]
  refine T.bind_eq (spec_sok K W) ?_
  unfold flushB
  refine T.ite (fun h => ?_) (fun h => ?_)
  · have hs := (sok_iff K W).1 h
    rw [if_pos h]
    have := hs.1.1
    refine T.pos (by omega) ?_
    exact spec_flush_loop K.length K W hs.1.1 hs.1.2 hs.2.2 _ 0 K rfl rfl (Nat.zero_le _)
  · rw [if_neg h]; exact T.ret rfl

/-! what was written last -/
def lastW (a : Nat) : ByteArray → List Sw → ByteArray
  | v, [] => v
  | v, x :: r => lastW a (if x.f0.toNat = a then x.f1 else v) r
theorem wr_at (a : Nat) : ∀ (W : List Sw) (K : Bs) (h : a < K.length) (h2 : a < (wr K W).length), (wr K W)[a] = lastW a K[a] W
  | [], _, _, _ => rfl
  | x :: r, K, h, h2 => by
    have := wr_at a r (K.set x.f0.toNat x.f1) (by simpa using h) (by rw [wr_length]; simpa using h)
    simp only [wr_cons, lastW]
    rw [this]
    congr 1
    rw [List.getElem_set]
noncomputable def lookB (K : Bs) (W : List Sw) (a : Int) : ByteArray := if sok K W = true ∧ 0 ≤ a ∧ a ≤ (K.length : Int) - 1 then lastW a.toNat (K.getD a.toNat ByteArray.empty) W else ⟨#[]⟩
end Go.Proofs.YthjocaegapchaaaX
