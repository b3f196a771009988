/-
  After a cut each sector holds what was kept or what was written.
  Conditions: those of the pure statement, none beside.
-/
import Derived.Test.YthkdhcaojhbfoaaPx29
import Derived.Test.YthkdhcaojhbfoaaXSecCut
import Derived.Test.YthkdhcaojhbfoaaXSecLaw
import Derived.Test.YthkdhcaojhbfoaaXDrawSecCut
import Derived.Test.YthkdhcaojhbfoaaXLpSec
namespace Go.Proofs.Ythkdhcaojhbfoaa.Pure
open Go.RowKit Go.Proofs.Ythkdhcaojhbfoaa.P Go.Proofs.YthkdhcaojhbfoaaX Go.Proofs.YthkdhcaojhbfoaaW.PrintWords Go.Proofs.YthkdhcaojhbfoaaW.PrintLast Go.Proofs.YthkdhcaojhbfoaaW.PrintMore
set_option linter.unusedVariables false
set_option linter.unusedSimpArgs false

theorem keptW_mem (keep : List Int) : ∀ (W : List Sw) (i : Nat) (x : Sw), x ∈ keptW keep i W → x ∈ W
  | [], _, _, h => by cases h
  | y :: r, i, x, h => by
    simp only [keptW] at h
    split at h
    · rcases List.mem_cons.1 h with h | h
      · simp [h]
      · simp [keptW_mem keep r _ x h]
    · simp [keptW_mem keep r _ x h]
/-- The rows of the law after the first loop, as one thing. -/
theorem cut_inner (K : Bs) (W : List Sw) (X : Bs) (i : Nat) (hX : X.length = K.length) (hi : i < K.length) (hW : W.length ≤ 1000)
    (next : T (fun k => laws_FnSecCut.l0 k ((i + 1 : Nat) : Int) K W X []) (· = true)) (hK : K.length ≤ 1000) : ∀ (n j : Nat) (f : Bool), W.length - j = n → j ≤ W.length →
    (f = true ∨ ∃ x ∈ W.drop j, x.f0 = (i : Int) ∧ x.f1 = X[i]) → T (fun k => laws_FnSecCut.l1 k (i : Int) f (j : Int) K W X []) (· = true) := by
  intro n
  induction n with
  | zero =>
    intro j f hn hj hf
    refine T.succ ?_
    simp only [laws_FnSecCut.l1]
    refine T.neg (by omega) ?_
    rw [wrap_succ hi (by omega)]
    rw [List.drop_of_length_le (by omega)] at hf
    refine T.pos (hf.resolve_right (fun ⟨x, hx, _⟩ => by cases hx)) next
  | succ n ih =>
    intro j f hn hj hf
    have hlt : j < W.length := by omega
    refine T.succ ?_
    simp only [laws_FnSecCut.l1]
    refine T.pos (by omega) ?_
    simp only [rdSw W j hlt, rdB X i (by omega), wrap_succ hlt (show W.length ≤ 4611686018427387904 by omega)]
    refine T.ite (fun h => ih (j + 1) true (by omega) (by omega) (.inl rfl)) (fun h => ?_)
    refine T.pos (by omega) ?_
    obtain ⟨x, hx, h1, h2⟩ := hf.resolve_left h
    rw [List.drop_eq_getElem_cons hlt] at hx
    refine T.ite (fun h3 => ?_) (fun h3 => ?_)
    · refine T.pos (by omega) (T.pos (by omega) ?_)
      refine ih (j + 1) _ (by omega) (by omega) ?_
      rcases List.mem_cons.1 hx with hx | hx
      · exact .inl (by rw [hx] at h2; simp [h2])
      · exact .inr ⟨x, hx, h1, h2⟩
    · refine ih (j + 1) _ (by omega) (by omega) ?_
      rcases List.mem_cons.1 hx with hx | hx
      · exact absurd (by rw [← hx]; exact h1) h3
      · exact .inr ⟨x, hx, h1, h2⟩
theorem cut_outer (K : Bs) (W V : List Sw) (hK : K.length ≤ 1000) (hW : W.length ≤ 1000) (hV : ∀ x ∈ V, x ∈ W) (h : sok K W = true) : ∀ (n i : Nat), K.length - i = n → i ≤ K.length →
    T (fun k => laws_FnSecCut.l0 k (i : Int) K W (wr K V) []) (· = true) := by
  intro n
  induction n with
  | zero =>
    intro i hn hi
    refine T.succ ?_
    simp only [laws_FnSecCut.l0]
    refine T.neg (by omega) ?_
    refine T.bind_eq (impl_sok _ _ (by rw [wr_length]; omega) (by simp)) ?_
    refine T.pos (sok_wr h hV) (T.pos (by simp) (T.ret ?_))
    rw [wr_length]; simp
  | succ n ih =>
    intro i hn hi
    have hlt : i < K.length := by omega
    refine T.succ ?_
    simp only [laws_FnSecCut.l0]
    refine T.pos (by omega) ?_
    refine T.succ ?_
    simp only [laws_FnSecCut.j4]
    have hX : (wr K V).length = K.length := wr_length V K
    refine T.pos (by omega) (T.pos (by omega) (T.pos (by omega) ?_))
    simp only [rdB K i hlt, rdB (wr K V) i (by omega)]
    refine cut_inner K W (wr K V) i hX hlt hW (ih (i + 1) (by omega) (by omega)) hK _ 0 _ rfl (Nat.zero_le _) ?_
    rw [wr_at i V K hlt (by omega)]
    rcases lastW_from i V K[i] with h1 | ⟨x, hx, h1, h2⟩
    · exact .inl (by rw [h1]; simp)
    · have := (((sok_iff K W).1 h).2.2 x (hV x hx)).1
      exact .inr ⟨x, by simpa using hV x hx, by omega, h2.symm⟩
theorem FnSecCut : laws_FnSecCut.Pure := by
  intro l hl _ hw
  refine T.rounds (g := fun k => laws_FnSecCut.f k l) ?_
  simp only [laws_FnSecCut.f]
  refine T.ite (fun _ => T.ret rfl) (fun _ => ?_)
  refine T.succ ?_
  simp only [laws_FnSecCut.j0]
  refine T.bind (drawSecCut_T l hw hl) (fun d hd => ?_)
  obtain ⟨K, W, keep⟩ := d
  have hK : K.length ≤ 1000 := hd.1.1
  have hW : W.length ≤ 1000 := hd.1.2
  refine T.bind_eq (spec_cut K W keep) ?_
  refine T.bind_eq (spec_sok K W) ?_
  refine T.bind_eq (impl_cut K W (by omega) (by omega) keep) ?_
  have hg : (cutB K W keep).1.length ≤ 1000 ∧ (cutB K W keep).2.length ≤ 1000 := by
    unfold cutB
    split
    · exact ⟨by simp only [wr_length]; omega, by simp⟩
    · simp
  refine T.bind (lpSec_T _ _ _ _ (by omega) (by omega)) (fun r hr => ?_)
  obtain rfl : r = true := hr.2 ⟨rfl, rfl⟩
  refine T.pos rfl ?_
  refine T.succ ?_
  simp only [laws_FnSecCut.j1]
  refine T.ite (fun h => ?_) (fun h => ?_)
  · have e : cutB K W keep = (wr K (keptW keep 0 W), []) := by unfold cutB; rw [if_pos h]
    rw [e]
    refine T.succ ?_
    simp only [laws_FnSecCut.j2]
    exact cut_outer K W _ hK hW (fun x hx => keptW_mem keep W 0 x hx) h _ 0 rfl (Nat.zero_le _)
  · have e : cutB K W keep = ([], []) := by unfold cutB; rw [if_neg h]
    rw [e]
    exact T.ret rfl
end Go.Proofs.Ythkdhcaojhbfoaa.Pure
