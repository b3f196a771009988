/-
  Of disks with transactions, in plain lists: a disk that was mended reads as before, and needs no mending.
  Conditions: at most 300 writes wait.
-/
import Derived.Test.YthjocaegapchaaaXWalRead
import Derived.Test.YthjocaegapchaaaXWalMend
import Derived.Test.YthjocaegapchaaaXWalDo
import Derived.Test.YthjocaegapchaaaXSecLaw
namespace Go.Proofs.YthjocaegapchaaaX
open Go.RowKit Go.Proofs.Ythjocaegapchaaa.P Go.Proofs.YthjocaegapchaaaW.PrintWords Go.Proofs.YthjocaegapchaaaW.PrintLast Go.Proofs.YthjocaegapchaaaW.PrintMore
set_option linter.unusedVariables false
set_option linter.unusedSimpArgs false

theorem parse_small : ∀ (l : Bs) (L : List Sw), (∀ s ∈ l, small s) → parse l = some L → ∀ x ∈ L, x.f1.size ≤ 15
  | [], L, _, h => by simp only [parse, Option.some.injEq] at h; subst h; intro x hx; cases hx
  | s :: r, L, hs, h => by
    simp only [parse] at h
    split at h
    · cases h
    · next hz =>
      cases hr : parse r with
      | none => rw [hr] at h; cases h
      | some M =>
        rw [hr] at h
        simp only [Option.map_some, Option.some.injEq] at h
        subst h
        intro x hx
        rcases List.mem_cons.1 hx with rfl | hx
        · have := hs s (by simp)
          unfold small at this
          show (s.extract 1 s.size).size ≤ 15
          rw [ByteArray.size_extract]
          omega
        · exact parse_small r M (fun y hy => hs y (by simp [hy])) hr x hx
theorem logL_small {all : Bs} {L : List Sw} (hs : ∀ s ∈ all, small s) (h : logL all = some L) : ∀ x ∈ L, x.f1.size ≤ 15 := by
  unfold logL at h
  split at h
  · simp only [Option.some.injEq] at h; subst h; intro x hx; cases hx
  · split at h
    · exact parse_small _ _ (fun s hs' => hs s (List.mem_of_mem_drop (List.mem_of_mem_take hs'))) h
    · cases h
def mv (x : Sw) : Sw := ⟨251 + x.f0, x.f1⟩
theorem run_puts (after : Int) (keep : List Int) (K : Bs) (hK : K.length = 501) (S : List Ss) : ∀ (L : List Sw) (i : Nat) (W : List Sw), sok K W = true → W.length + L.length ≤ 600 → (∀ x ∈ L, (0 ≤ x.f0 ∧ x.f0 < 250) ∧ x.f1.size ≤ 15) →
    runB false after keep (L.map home ++ S) i K W = runB false after keep S (i + L.length) K (W ++ L.map mv) ∧ sok K (W ++ L.map mv) = true
  | [], i, W, h, _, _ => by simpa using h
  | x :: r, i, W, h, hl, hg => by
    have hx := hg x (by simp)
    have ok : sok K (W ++ [mv x]) = true := (sok_append K W (mv x) h).2 ⟨by simp at hl; omega, ⟨by show 0 ≤ 251 + x.f0; omega, by show 251 + x.f0 ≤ _; omega⟩, by show ((x.f1.size : Nat) : Int) ≤ 16; omega⟩
    have e : sputB K W (home x).f1 (home x).f2 = (K, W ++ [mv x], true) := by
      unfold sputB
      rw [if_pos h]
      exact if_pos ok
    have := run_puts after keep K hK S r (i + 1) (W ++ [mv x]) ok (by simp at hl ⊢; omega) (fun y hy => hg y (by simp [hy]))
    simp only [List.map_cons, List.cons_append, runB, e]
    rw [if_neg (by simp), if_neg (by show ¬ (false = true); simp)]
    refine ⟨this.1.trans ?_, ?_⟩
    · rw [List.append_assoc, List.length_cons, show i + 1 + r.length = i + (r.length + 1) by omega]; rfl
    · have h2 := this.2
      rw [List.append_assoc] at h2
      exact h2
theorem wr_shift : ∀ (L : List Sw) (A : Bs), (∀ x ∈ L, 0 ≤ x.f0) → (wr A (L.map mv)).drop 251 = wr (A.drop 251) L
  | [], A, _ => rfl
  | x :: r, A, h => by
    have hx := h x (by simp)
    rw [List.map_cons, wr_cons, wr_cons, wr_shift r _ (fun y hy => h y (by simp [hy]))]
    have e : (A.set (mv x).f0.toNat (mv x).f1).drop 251 = (A.drop 251).set x.f0.toNat x.f1 := by
      rw [List.drop_set, if_neg (by show ¬ (251 + x.f0).toNat < 251; omega), show (mv x).f0.toNat - 251 = x.f0.toNat by show (251 + x.f0).toNat - 251 = _; omega]
      rfl
    rw [e]
theorem wr_append' (K : Bs) (A B : List Sw) : wr K (A ++ B) = wr (wr K A) B := by simp [wr]
def blank : Sw := ⟨0, ⟨#[]⟩⟩
/-- Steps that bring a log home, done. -/
theorem do_apply {K : Bs} {W L : List Sw} (h : logB K W = some L) (hW : W.length ≤ 300) (keep : List Int) :
    doB K W (applyL L) false 0 keep = (wr (wr K (W ++ L.map mv)) [blank], []) ∧ sok K (W ++ L.map mv) = true := by
  obtain ⟨h1, h2, h3, h4, h5⟩ := logB_good h
  have hs := (sok_iff K W).1 h1
  have h6 := logL_small (wr_small W K hs.2.1 hs.2.2) h3
  obtain ⟨e, ok⟩ := run_puts 0 keep K h2 tailS L 0 W h1 (by omega) (fun x hx => ⟨h5 x hx, h6 x hx⟩)
  refine ⟨?_, ok⟩
  unfold doB
  rw [if_pos ⟨h1, by have := applyL_len L; omega⟩]
  show runB false 0 keep (L.map home ++ tailS) 0 K W = _
  rw [e]
  have f1 : flushB K (W ++ L.map mv) = (wr K (W ++ L.map mv), []) := by unfold flushB; rw [if_pos ok]
  have ok2 : sok (wr K (W ++ L.map mv)) [] = true := sok_wr ok (fun _ hx => hx)
  have hl : (wr K (W ++ L.map mv)).length = 501 := by rw [wr_length]; exact h2
  have ok3 : sok (wr K (W ++ L.map mv)) ([] ++ [blank]) = true := (sok_append _ _ blank ok2).2 ⟨by simp, ⟨by show (0 : Int) ≤ 0; omega, by show (0 : Int) ≤ _; omega⟩, by show ((ByteArray.size ⟨#[]⟩ : Nat) : Int) ≤ 16; decide⟩
  have e2 : sputB (wr K (W ++ L.map mv)) [] 0 ⟨#[]⟩ = (wr K (W ++ L.map mv), [blank], true) := by
    unfold sputB
    rw [if_pos ok2]
    exact if_pos ok3
  have f3 : flushB (wr K (W ++ L.map mv)) [blank] = (wr (wr K (W ++ L.map mv)) [blank], []) := by
    unfold flushB
    exact if_pos ok3
  simp [tailS, runB, f1, e2, f3]
theorem mended_log {K : Bs} {W L : List Sw} (h : logB K W = some L) (ok : sok K (W ++ L.map mv) = true) : logB (wr (wr K (W ++ L.map mv)) [blank]) [] = some [] ∧ ((wr (wr K (W ++ L.map mv)) [blank]).getD 0 ByteArray.empty).size = 0 := by
  obtain ⟨h1, h2, h3, h4, h5⟩ := logB_good h
  have hl : (wr K (W ++ L.map mv)).length = 501 := by rw [wr_length]; exact h2
  have ok2 : sok (wr K (W ++ L.map mv)) [] = true := sok_wr ok (fun _ hx => hx)
  have ok3 : sok (wr K (W ++ L.map mv)) ([] ++ [blank]) = true := (sok_append _ _ blank ok2).2 ⟨by simp, ⟨by show (0 : Int) ≤ 0; omega, by show (0 : Int) ≤ _; omega⟩, by show ((ByteArray.size ⟨#[]⟩ : Nat) : Int) ≤ 16; decide⟩
  have ok4 : sok (wr (wr K (W ++ L.map mv)) [blank]) [] = true := sok_wr ok3 (fun _ hx => hx)
  have z : ((wr (wr K (W ++ L.map mv)) [blank]).getD 0 ByteArray.empty).size = 0 := by
    generalize wr K (W ++ L.map mv) = A at hl
    cases A with
    | nil => simp at hl
    | cons a r => rfl
  refine ⟨?_, z⟩
  unfold logB
  rw [if_pos ⟨ok4, by rw [wr_length]; exact hl⟩]
  show logL (wr (wr K (W ++ L.map mv)) [blank]) = some []
  unfold logL
  rw [if_pos z]
theorem mended_read {K : Bs} {W L : List Sw} (h : logB K W = some L) (ok : sok K (W ++ L.map mv) = true) : wreadB (wr (wr K (W ++ L.map mv)) [blank]) [] = wreadB K W := by
  obtain ⟨h1, h2, h3, h4, h5⟩ := logB_good h
  unfold wreadB
  rw [h, (mended_log h ok).1]
  show ((wr (wr K (W ++ L.map mv)) [blank]).drop 251, true) = _
  congr 1
  show ((wr K (W ++ L.map mv)).set 0 ⟨#[]⟩).drop 251 = _
  rw [List.drop_set, if_pos (by omega), wr_append', wr_shift L _ (fun x hx => (h5 x hx).1)]
theorem mended_mend {K : Bs} {W L : List Sw} (h : logB K W = some L) (ok : sok K (W ++ L.map mv) = true) : mendB (wr (wr K (W ++ L.map mv)) [blank]) [] = ([], true) := by
  obtain ⟨h1, h2⟩ := mended_log h ok
  unfold mendB
  rw [h1]
  show (if ((wr (wr (wr K (W ++ L.map mv)) [blank]) []).getD 0 ByteArray.empty).size = 0 then _ else _) = _
  exact if_pos h2
end Go.Proofs.YthjocaegapchaaaX
