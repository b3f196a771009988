/-
  Two writes into two sectors may change places.
  Conditions: those of the pure statement, none beside.
-/
import Derived.Test.YthkdhcaojhbfoaaPx27
import Derived.Test.YthkdhcaojhbfoaaXSecPut
import Derived.Test.YthkdhcaojhbfoaaXSecLaw
import Derived.Test.YthkdhcaojhbfoaaXDrawSecPut
import Derived.Test.YthkdhcaojhbfoaaXLpSec
namespace Go.Proofs.Ythkdhcaojhbfoaa.Pure
open Go.RowKit Go.Proofs.Ythkdhcaojhbfoaa.P Go.Proofs.YthkdhcaojhbfoaaX Go.Proofs.YthkdhcaojhbfoaaW.PrintWords Go.Proofs.YthkdhcaojhbfoaaW.PrintLast Go.Proofs.YthkdhcaojhbfoaaW.PrintMore
set_option linter.unusedVariables false
set_option linter.unusedSimpArgs false

theorem wr_snoc (K : Bs) (W : List Sw) (x : Sw) : wr K (W ++ [x]) = (wr K W).set x.f0.toNat x.f1 := by simp [wr]
theorem sput_len (K : Bs) (W : List Sw) (a : Int) (s : ByteArray) : (sputB K W a s).1.length ≤ K.length ∧ (sputB K W a s).2.1.length ≤ W.length + 1 := by
  unfold sputB
  split
  · split
    · simp
    · simp
  · simp
theorem sput_true {K : Bs} {W : List Sw} {a : Int} {s : ByteArray} (h : (sputB K W a s).2.2 = true) : sputB K W a s = (K, W ++ [⟨a, s⟩], true) ∧ sok K (W ++ [⟨a, s⟩]) = true := by
  unfold sputB at *
  split at h
  · next h1 =>
    split at h
    · next h2 => exact ⟨by rw [if_pos h1, if_pos h2], h2⟩
    · cases h
  · cases h
theorem swap_flush {K : Bs} {W : List Sw} {a o : Int} {s t : ByteArray} (hao : ¬ a = o) (h1 : (sputB K W a s).2.2 = true) (h2 : (sputB (sputB K W a s).1 (sputB K W a s).2.1 o t).2.2 = true)
    (h3 : (sputB K W o t).2.2 = true) (h4 : (sputB (sputB K W o t).1 (sputB K W o t).2.1 a s).2.2 = true) :
    flushB (sputB (sputB K W a s).1 (sputB K W a s).2.1 o t).1 (sputB (sputB K W a s).1 (sputB K W a s).2.1 o t).2.1 = flushB (sputB (sputB K W o t).1 (sputB K W o t).2.1 a s).1 (sputB (sputB K W o t).1 (sputB K W o t).2.1 a s).2.1 := by
  obtain ⟨e1, g1⟩ := sput_true h1
  obtain ⟨e3, g3⟩ := sput_true h3
  rw [e1] at h2 ⊢
  rw [e3] at h4 ⊢
  simp only at h2 h4 ⊢
  obtain ⟨e2, g2⟩ := sput_true h2
  obtain ⟨e4, g4⟩ := sput_true h4
  rw [e2, e4]
  simp only
  unfold flushB
  rw [if_pos g2, if_pos g4, wr_snoc, wr_snoc, wr_snoc, wr_snoc]
  have ga := (((sok_iff _ _).1 g1).2.2 ⟨a, s⟩ (by simp)).1.1
  have go := (((sok_iff _ _).1 g3).2.2 ⟨o, t⟩ (by simp)).1.1
  simp only at ga go ⊢
  rw [List.set_comm _ _ (show a.toNat ≠ o.toNat by omega)]
theorem FnSecSwap : laws_FnSecSwap.Pure := by
  intro l m hl _ hw hm _ hv
  refine T.rounds (g := fun k => laws_FnSecSwap.f k l m) ?_
  have bad : T (fun k => laws_FnSecSwap.j0 k l m true) (· = true) := by
    refine T.succ ?_
    simp only [laws_FnSecSwap.j0, if_true]
    exact T.ret rfl
  simp only [laws_FnSecSwap.f]
  refine T.ite (fun _ => bad) (fun _ => ?_)
  by_cases hm2 : (m.length : Int) > 1048576
  · rw [decide_eq_true hm2]; exact bad
  rw [decide_eq_false hm2]
  refine T.succ ?_
  simp only [laws_FnSecSwap.j0]
  refine T.neg (by simp) ?_
  refine T.bind (drawSecPut_T l hw hl) (fun d hd => ?_)
  obtain ⟨K, W, a, s⟩ := d
  have hK : K.length ≤ 1000 := hd.1
  have hW : W.length ≤ 1000 := hd.2
  refine T.bind (drawSecPut_T m hv hm) (fun c _ => ?_)
  obtain ⟨_, _, o, t⟩ := c
  simp only
  refine T.bind_eq (spec_sput K W (by omega) (by omega) a s) ?_
  refine T.bind_eq (impl_sput K W (by omega) (by omega) a s) ?_
  refine T.neg (by simp) ?_
  have g1 := sput_len K W a s
  refine T.bind (lpSec_T _ _ _ _ (by omega) (by omega)) (fun r hr => ?_)
  obtain rfl : r = true := hr.2 ⟨rfl, rfl⟩
  refine T.pos rfl ?_
  refine T.succ ?_
  simp only [laws_FnSecSwap.j1]
  refine T.ite (fun _ => ?_) (fun hao => ?_)
  · refine T.pos (by simp) ?_
    exact T.bind (lpSec_T _ _ _ _ (by omega) (by omega)) (fun r hr => T.ret (hr.2 ⟨rfl, rfl⟩))
  have hao : ¬ a = o := by simpa using hao
  have g3 := sput_len K W o t
  have g2 := sput_len (sputB K W a s).1 (sputB K W a s).2.1 o t
  have g4 := sput_len (sputB K W o t).1 (sputB K W o t).2.1 a s
  refine T.bind_eq (impl_sput _ _ (by omega) (by omega) o t) ?_
  refine T.bind_eq (impl_sput K W (by omega) (by omega) o t) ?_
  refine T.bind_eq (impl_sput _ _ (by omega) (by omega) a s) ?_
  have out : ∀ (b : Bool) (A : Bs) (B : List Sw) (C : Bs) (D : List Sw), A.length ≤ 2000 → B.length ≤ 2000 → C.length ≤ 2000 → D.length ≤ 2000 → (b = true ∨ flushB A B = flushB C D) → T (fun k => laws_FnSecSwap.j2 k b A B C D) (· = true) := by
    intro b A B C D hA hB hC hD h
    refine T.succ ?_
    simp only [laws_FnSecSwap.j2]
    refine T.ite (fun _ => T.ret rfl) (fun hb => ?_)
    have h := h.resolve_left hb
    refine T.bind_eq (impl_flush A B (by omega) (by omega)) ?_
    refine T.bind_eq (impl_flush C D (by omega) (by omega)) ?_
    have hg : (flushB A B).1.length ≤ 2000 ∧ (flushB A B).2.length ≤ 2000 := by
      unfold flushB
      split
      · exact ⟨by simp only [wr_length]; omega, by simp⟩
      · simp
    exact T.bind (lpSec_T _ _ _ _ (by omega) (by omega)) (fun r hr => T.ret (hr.2 ⟨by rw [h], by rw [h]⟩))
  refine T.ite (fun h1 => ?_) (fun h1 => out _ _ _ _ _ (by omega) (by omega) (by omega) (by omega) (.inl rfl))
  refine T.ite (fun h2 => ?_) (fun h2 => out _ _ _ _ _ (by omega) (by omega) (by omega) (by omega) (.inl rfl))
  refine T.ite (fun h3 => ?_) (fun h3 => out _ _ _ _ _ (by omega) (by omega) (by omega) (by omega) (.inl rfl))
  refine out _ _ _ _ _ (by omega) (by omega) (by omega) (by omega) ?_
  by_cases h4 : (sputB (sputB K W o t).1 (sputB K W o t).2.1 a s).2.2 = true
  · exact .inr (swap_flush hao h1 h2 h3 h4)
  · exact .inl (by simpa using h4)
end Go.Proofs.Ythkdhcaojhbfoaa.Pure
