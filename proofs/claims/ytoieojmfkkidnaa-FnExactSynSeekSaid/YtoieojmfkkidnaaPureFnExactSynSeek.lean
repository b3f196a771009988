/-
  The program's SynSeek answers as the reference's, for all arguments: a ballot of its own and a question to each voter, or nothing.
  Conditions: those of the pure statement, none beside.
-/
import Derived.Test.YtoieojmfkkidnaaPx13
import Derived.Test.YtoieojmfkkidnaaXCmd
import Derived.Tactics
namespace Go.Proofs.Ytoieojmfkkidnaa.Pure
open Go.RowKit Go.Proofs.Ytoieojmfkkidnaa.P Go.Proofs.YtoieojmfkkidnaaX Go.Proofs.YtoieojmfkkidnaaW.PrintWords Go.Proofs.YtoieojmfkkidnaaW.PrintLast Go.Proofs.YtoieojmfkkidnaaW.PrintMore
set_option linter.unusedVariables false
set_option linter.unusedSimpArgs false
theorem T_mono {α : Type} {g : Nat → Option α} (hm : ∀ k, LeO (g k) (g (k + 1))) (K : Nat) {r : α} (h : g K = some r) : T g (· = r) := by
  refine ⟨r, rfl, K, ?_⟩
  intro k hk
  induction k with
  | zero => obtain rfl : K = 0 := by omega
            exact h
  | succ n ih =>
    by_cases e : K = n + 1
    · subst e; exact h
    · exact hm n r (ih (by omega))
theorem all_spec (a0 b a2 : Int) : T (fun k => spec_l22All.f k 1 a0 0 b a2 0 0 0 0 0 0 0 0 0 0 0 0 0 0 0 0 0 0 0 () ()) (· = [(⟨1, a0, 0, b, a2, 0, (⟨0, 0, 0, 0, 0, 0, 0, 0, 0, 0⟩ : S24), 0, 0, 0, 0, 0, 0, 0, 0, (), ()⟩ : S28), (⟨1, a0, 1, b, a2, 0, (⟨0, 0, 0, 0, 0, 0, 0, 0, 0, 0⟩ : S24), 0, 0, 0, 0, 0, 0, 0, 0, (), ()⟩ : S28), (⟨1, a0, 2, b, a2, 0, (⟨0, 0, 0, 0, 0, 0, 0, 0, 0, 0⟩ : S24), 0, 0, 0, 0, 0, 0, 0, 0, (), ()⟩ : S28)]) := T_mono (fun k => spec_l22All.mono _ _ _ _ _ _ _ _ _ _ _ _ _ _ _ _ _ _ _ _ _ _ _ _ _ _ k) 6 (by kernel_rfl)
theorem all_impl (a0 b a2 : Int) : T (fun k => impl_askAll.f k 1 a0 0 b a2 0 0 0 0 0 0 0 0 0 0 0 0 0 0 0 0 0 0 0 () ()) (· = [(⟨1, a0, 0, b, a2, 0, (⟨0, 0, 0, 0, 0, 0, 0, 0, 0, 0⟩ : S24), 0, 0, 0, 0, 0, 0, 0, 0, (), ()⟩ : S28), (⟨1, a0, 1, b, a2, 0, (⟨0, 0, 0, 0, 0, 0, 0, 0, 0, 0⟩ : S24), 0, 0, 0, 0, 0, 0, 0, 0, (), ()⟩ : S28), (⟨1, a0, 2, b, a2, 0, (⟨0, 0, 0, 0, 0, 0, 0, 0, 0, 0⟩ : S24), 0, 0, 0, 0, 0, 0, 0, 0, (), ()⟩ : S28)]) := T_mono (fun k => impl_askAll.mono _ _ _ _ _ _ _ _ _ _ _ _ _ _ _ _ _ _ _ _ _ _ _ _ _ _ k) 6 (by kernel_rfl)
def okS (a0 a1 a2 c0 c1 c2 c3 c4 c5 c6 c7 c8 c9 : Int) : Bool := decide (0 ≤ a0 ∧ a0 ≤ 4) && (decide (1 ≤ a1 ∧ a1 ≤ 12498) && (decide (1 ≤ a2 ∧ a2 ≤ 60) && cmdB c0 c1 c2 c3 c4 c5 c6 c7 c8 c9))
theorem spec_yes (a0 a1 a2 c0 c1 c2 c3 c4 c5 c6 c7 c8 c9 : Int) (h : okS a0 a1 a2 c0 c1 c2 c3 c4 c5 c6 c7 c8 c9 = true) : T (fun k => spec_SynSeek.f k a0 a1 a2 c0 c1 c2 c3 c4 c5 c6 c7 c8 c9) (· = (a2, (wrap64 ((wrap64 (a1 * 8)) + a0)), (1 : Int), c0, c1, c2, c3, c4, c5, c6, c7, c8, c9, (0 : Int), (0 : Int), (0 : Int), (0 : Int), (0 : Int), (0 : Int), (0 : Int), (0 : Int), (0 : Int), (0 : Int), (0 : Int), (0 : Int), ([] : List Int), [(⟨1, a0, 0, wrap64 ((wrap64 (a1 * 8)) + a0), a2, 0, (⟨0, 0, 0, 0, 0, 0, 0, 0, 0, 0⟩ : S24), 0, 0, 0, 0, 0, 0, 0, 0, (), ()⟩ : S28), (⟨1, a0, 1, wrap64 ((wrap64 (a1 * 8)) + a0), a2, 0, (⟨0, 0, 0, 0, 0, 0, 0, 0, 0, 0⟩ : S24), 0, 0, 0, 0, 0, 0, 0, 0, (), ()⟩ : S28), (⟨1, a0, 2, wrap64 ((wrap64 (a1 * 8)) + a0), a2, 0, (⟨0, 0, 0, 0, 0, 0, 0, 0, 0, 0⟩ : S24), 0, 0, 0, 0, 0, 0, 0, 0, (), ()⟩ : S28)])) := by
  simp only [okS, Bool.and_eq_true] at h
  obtain ⟨h1, h2, h3, h4⟩ := h
  simp only [spec_SynSeek.f, l6In_f, spec_cmd, Option.bind_some, h1, h2, h3, h4, if_true]
  exact T.bind_eq (all_spec a0 _ a2) (T.ret rfl)
theorem spec_no (a0 a1 a2 c0 c1 c2 c3 c4 c5 c6 c7 c8 c9 : Int) (h : ¬ okS a0 a1 a2 c0 c1 c2 c3 c4 c5 c6 c7 c8 c9 = true) : T (fun k => spec_SynSeek.f k a0 a1 a2 c0 c1 c2 c3 c4 c5 c6 c7 c8 c9) (· = ((0 : Int), (0 : Int), (0 : Int), (0 : Int), (0 : Int), (0 : Int), (0 : Int), (0 : Int), (0 : Int), (0 : Int), (0 : Int), (0 : Int), (0 : Int), (0 : Int), (0 : Int), (0 : Int), (0 : Int), (0 : Int), (0 : Int), (0 : Int), (0 : Int), (0 : Int), (0 : Int), (0 : Int), (0 : Int), ([] : List Int), ([] : List S28))) := by
  simp only [spec_SynSeek.f, l6In_f, spec_cmd, Option.bind_some]
  refine T.ite (fun e1 => T.ite (fun e2 => T.ite (fun e3 => T.ite (fun e4 => absurd (by simp only [okS, e1, e2, e3, e4, Bool.and_true]) h) (fun _ => T.ret rfl)) (fun _ => T.ret rfl)) (fun _ => T.ret rfl)) (fun _ => T.ret rfl)
theorem impl_yes (a0 a1 a2 c0 c1 c2 c3 c4 c5 c6 c7 c8 c9 : Int) (h : okS a0 a1 a2 c0 c1 c2 c3 c4 c5 c6 c7 c8 c9 = true) : T (fun k => impl_SynSeek.f k a0 a1 a2 c0 c1 c2 c3 c4 c5 c6 c7 c8 c9) (· = (a2, (wrap64 ((wrap64 (a1 * 8)) + a0)), (1 : Int), c0, c1, c2, c3, c4, c5, c6, c7, c8, c9, (0 : Int), (0 : Int), (0 : Int), (0 : Int), (0 : Int), (0 : Int), (0 : Int), (0 : Int), (0 : Int), (0 : Int), (0 : Int), (0 : Int), ([] : List Int), [(⟨1, a0, 0, wrap64 ((wrap64 (a1 * 8)) + a0), a2, 0, (⟨0, 0, 0, 0, 0, 0, 0, 0, 0, 0⟩ : S24), 0, 0, 0, 0, 0, 0, 0, 0, (), ()⟩ : S28), (⟨1, a0, 1, wrap64 ((wrap64 (a1 * 8)) + a0), a2, 0, (⟨0, 0, 0, 0, 0, 0, 0, 0, 0, 0⟩ : S24), 0, 0, 0, 0, 0, 0, 0, 0, (), ()⟩ : S28), (⟨1, a0, 2, wrap64 ((wrap64 (a1 * 8)) + a0), a2, 0, (⟨0, 0, 0, 0, 0, 0, 0, 0, 0, 0⟩ : S24), 0, 0, 0, 0, 0, 0, 0, 0, (), ()⟩ : S28)])) := by
  simp only [okS, Bool.and_eq_true] at h
  obtain ⟨h1, h2, h3, h4⟩ := h
  simp only [impl_SynSeek.f, impl_isServer.f, in_f, Option.bind_some, h1, h2, h3, if_true, Int.mul_comm 8 a1]
  refine T.bind_eq (impl_cmd c0 c1 c2 c3 c4 c5 c6 c7 c8 c9) (T.pos h4 ?_)
  exact T.bind_eq (all_impl a0 _ a2) (T.ret rfl)
theorem impl_no (a0 a1 a2 c0 c1 c2 c3 c4 c5 c6 c7 c8 c9 : Int) (h : ¬ okS a0 a1 a2 c0 c1 c2 c3 c4 c5 c6 c7 c8 c9 = true) : T (fun k => impl_SynSeek.f k a0 a1 a2 c0 c1 c2 c3 c4 c5 c6 c7 c8 c9) (· = ((0 : Int), (0 : Int), (0 : Int), (0 : Int), (0 : Int), (0 : Int), (0 : Int), (0 : Int), (0 : Int), (0 : Int), (0 : Int), (0 : Int), (0 : Int), (0 : Int), (0 : Int), (0 : Int), (0 : Int), (0 : Int), (0 : Int), (0 : Int), (0 : Int), (0 : Int), (0 : Int), (0 : Int), (0 : Int), ([] : List Int), ([] : List S28))) := by
  simp only [impl_SynSeek.f, impl_isServer.f, in_f, Option.bind_some]
  refine T.ite (fun e1 => T.ite (fun e2 => T.ite (fun e3 => T.bind_eq (impl_cmd c0 c1 c2 c3 c4 c5 c6 c7 c8 c9) (T.ite (fun e4 => absurd (by simp only [okS, e1, e2, e3, e4, Bool.and_true]) h) (fun _ => T.ret rfl))) (fun _ => T.ret rfl)) (fun _ => T.ret rfl)) (fun _ => T.ret rfl)
theorem eqSeeker_same (s0 s1 s2 s3 s4 s5 s6 s7 s8 s9 s10 s11 s12 s13 s14 s15 s16 s17 s18 s19 s20 s21 s22 s23 s24 : Int) : T (fun k => laws_eqSynSeeker.f k s0 s1 s2 s3 s4 s5 s6 s7 s8 s9 s10 s11 s12 s13 s14 s15 s16 s17 s18 s19 s20 s21 s22 s23 s24 [] s0 s1 s2 s3 s4 s5 s6 s7 s8 s9 s10 s11 s12 s13 s14 s15 s16 s17 s18 s19 s20 s21 s22 s23 s24 []) (· = true) := by
  simp only [laws_eqSynSeeker.f, laws_eqSynPaper.f, laws_eqCmd.f, if_true, Option.bind_some]
  exact T.bind_eq (T_mono (fun k => laws_eqIntS.mono [] [] k) 3 (by kernel_rfl)) (T.pos rfl (T.ret rfl))
theorem eqWord_same (a0 a1 a2 a3 a4 a5 a6 a7 a8 a9 a10 a11 a12 a13 a14 a15 a16 a17 a18 a19 a20 a21 a22 a23 : Int) (u v u' v' : Unit) : T (fun k => laws_eqWord.f k a0 a1 a2 a3 a4 a5 a6 a7 a8 a9 a10 a11 a12 a13 a14 a15 a16 a17 a18 a19 a20 a21 a22 a23 u v a0 a1 a2 a3 a4 a5 a6 a7 a8 a9 a10 a11 a12 a13 a14 a15 a16 a17 a18 a19 a20 a21 a22 a23 u' v') (· = true) := by
  simp only [laws_eqWord.f, laws_eqCmd.f, if_true, Option.bind_some]
  exact T.bind_eq (T_mono (fun k => laws_eqBlkPieceS.mono [] [] k) 3 (by kernel_rfl)) (T.pos rfl (T.bind_eq (T_mono (fun k => laws_eqBlkLastS.mono [] [] k) 3 (by kernel_rfl)) (T.pos rfl (T.ret rfl))))
theorem eqWordS_loop (L : List S28) (hl : L.length ≤ 1000000) : ∀ (d i : Nat), L.length - i = d → i ≤ L.length → T (fun k => laws_eqWordS.l0 k L L (i : Int)) (· = true) := by
  intro d
  induction d with
  | zero =>
    intro i hd hi
    refine T.succ ?_
    simp only [laws_eqWordS.l0]
    exact T.neg (by omega) (T.ret rfl)
  | succ d ih =>
    intro i hd hi
    refine T.succ ?_
    simp only [laws_eqWordS.l0, wrap_succ (show i < L.length by omega) (show L.length ≤ 4611686018427387904 by omega)]
    refine T.pos (by omega) (T.pos (by omega) (T.pos (by omega) ?_))
    refine T.bind_eq (eqWord_same _ _ _ _ _ _ _ _ _ _ _ _ _ _ _ _ _ _ _ _ _ _ _ _ _ _ _ _) (T.pos rfl ?_)
    exact ih (i + 1) (by omega) (by omega)
theorem eqWordS_same (L : List S28) (hl : L.length ≤ 1000000) : T (fun k => laws_eqWordS.f k L L) (· = true) := by
  simp only [laws_eqWordS.f, if_true]
  exact eqWordS_loop L hl _ 0 rfl (Nat.zero_le _)
def elW (k : Int) : S28 := (⟨k, k + 1, k + 2, k + 3, k + 4, k + 5, (⟨k + 6, k + 7, k + 8, k + 9, k + 10, k + 11, k + 12, k + 13, k + 14, k + 15⟩ : S24), k + 16, k + 17, k + 18, k + 19, k + 20, k + 21, k + 22, k + 23, (), ()⟩ : S28)
theorem mark3 (x y z : S28) : T (fun k => laws_markWordS.f k [x, y, z] 1) (· = (73, [elW 1, elW 25, elW 49])) := T_mono (fun k => laws_markWordS.mono _ _ k) 6 (by kernel_rfl)
theorem held3 : T (fun k => laws_heldWordS.f k [elW 1, elW 25, elW 49] 1) (· = 73) := T_mono (fun k => laws_heldWordS.mono _ _ k) 6 (by kernel_rfl)
theorem mark0 : T (fun k => laws_markWordS.f k [] 1) (· = (1, [])) := T_mono (fun k => laws_markWordS.mono _ _ k) 3 (by kernel_rfl)
theorem held0 : T (fun k => laws_heldWordS.f k [] 1) (· = 1) := T_mono (fun k => laws_heldWordS.mono _ _ k) 3 (by kernel_rfl)
theorem markSk (s0 s1 s2 s3 s4 s5 s6 s7 s8 s9 s10 s11 s12 s13 s14 s15 s16 s17 s18 s19 s20 s21 s22 s23 s24 : Int) : T (fun k => laws_markSynSeeker.f k s0 s1 s2 s3 s4 s5 s6 s7 s8 s9 s10 s11 s12 s13 s14 s15 s16 s17 s18 s19 s20 s21 s22 s23 s24 [] 1) (· = (1, [])) := T_mono (fun k => laws_markSynSeeker.mono _ _ _ _ _ _ _ _ _ _ _ _ _ _ _ _ _ _ _ _ _ _ _ _ _ _ _ k) 3 (by kernel_rfl)
theorem heldSk (s0 s1 s2 s3 s4 s5 s6 s7 s8 s9 s10 s11 s12 s13 s14 s15 s16 s17 s18 s19 s20 s21 s22 s23 s24 : Int) : T (fun k => laws_heldSynSeeker.f k s0 s1 s2 s3 s4 s5 s6 s7 s8 s9 s10 s11 s12 s13 s14 s15 s16 s17 s18 s19 s20 s21 s22 s23 s24 [] 1) (· = 1) := T_mono (fun k => laws_heldSynSeeker.mono _ _ _ _ _ _ _ _ _ _ _ _ _ _ _ _ _ _ _ _ _ _ _ _ _ _ _ k) 3 (by kernel_rfl)
theorem FnExactSynSeek : laws_FnExactSynSeek.Pure := by
  intro a0 a1 a2 c0 c1 c2 c3 c4 c5 c6 c7 c8 c9 _ _ _ _
  refine T.rounds (g := fun k => laws_FnExactSynSeek.f k a0 a1 a2 c0 c1 c2 c3 c4 c5 c6 c7 c8 c9) ?_
  simp only [laws_FnExactSynSeek.f, laws_toCmd.f, Option.bind_some]
  by_cases h : okS a0 a1 a2 c0 c1 c2 c3 c4 c5 c6 c7 c8 c9 = true
  · refine T.bind_eq (spec_yes a0 a1 a2 c0 c1 c2 c3 c4 c5 c6 c7 c8 c9 h) (T.bind_eq (impl_yes a0 a1 a2 c0 c1 c2 c3 c4 c5 c6 c7 c8 c9 h) ?_)
    refine T.bind_eq (eqSeeker_same _ _ _ _ _ _ _ _ _ _ _ _ _ _ _ _ _ _ _ _ _ _ _ _ _) (T.pos rfl (T.bind_eq (eqWordS_same _ (Nat.le_of_ble_eq_true rfl)) (T.pos rfl ?_)))
    refine T.bind_eq (markSk _ _ _ _ _ _ _ _ _ _ _ _ _ _ _ _ _ _ _ _ _ _ _ _ _) (T.bind_eq (mark3 _ _ _) (T.bind_eq (heldSk _ _ _ _ _ _ _ _ _ _ _ _ _ _ _ _ _ _ _ _ _ _ _ _ _) (T.neg (by decide) (T.bind_eq (held3) (T.neg (by decide) (T.pos (by decide) ?_))))))
    refine T.bind_eq (impl_yes a0 a1 a2 c0 c1 c2 c3 c4 c5 c6 c7 c8 c9 h) (T.bind_eq (eqSeeker_same _ _ _ _ _ _ _ _ _ _ _ _ _ _ _ _ _ _ _ _ _ _ _ _ _) (T.pos rfl (T.bind_eq (eqWordS_same _ (Nat.le_of_ble_eq_true rfl)) (T.pos rfl ?_))))
    exact T.bind_eq (heldSk _ _ _ _ _ _ _ _ _ _ _ _ _ _ _ _ _ _ _ _ _ _ _ _ _) (T.neg (by decide) (T.bind_eq (held3) (T.neg (by decide) (T.pos (by decide) (T.ret rfl)))))
  · refine T.bind_eq (spec_no a0 a1 a2 c0 c1 c2 c3 c4 c5 c6 c7 c8 c9 h) (T.bind_eq (impl_no a0 a1 a2 c0 c1 c2 c3 c4 c5 c6 c7 c8 c9 h) ?_)
    refine T.bind_eq (eqSeeker_same _ _ _ _ _ _ _ _ _ _ _ _ _ _ _ _ _ _ _ _ _ _ _ _ _) (T.pos rfl (T.bind_eq (eqWordS_same _ (Nat.le_of_ble_eq_true rfl)) (T.pos rfl ?_)))
    refine T.bind_eq (markSk _ _ _ _ _ _ _ _ _ _ _ _ _ _ _ _ _ _ _ _ _ _ _ _ _) (T.bind_eq (mark0) (T.bind_eq (heldSk _ _ _ _ _ _ _ _ _ _ _ _ _ _ _ _ _ _ _ _ _ _ _ _ _) (T.neg (by decide) (T.bind_eq (held0) (T.neg (by decide) (T.pos (by decide) ?_))))))
    refine T.bind_eq (impl_no a0 a1 a2 c0 c1 c2 c3 c4 c5 c6 c7 c8 c9 h) (T.bind_eq (eqSeeker_same _ _ _ _ _ _ _ _ _ _ _ _ _ _ _ _ _ _ _ _ _ _ _ _ _) (T.pos rfl (T.bind_eq (eqWordS_same _ (Nat.le_of_ble_eq_true rfl)) (T.pos rfl ?_))))
    exact T.bind_eq (heldSk _ _ _ _ _ _ _ _ _ _ _ _ _ _ _ _ _ _ _ _ _ _ _ _ _) (T.neg (by decide) (T.bind_eq (held0) (T.neg (by decide) (T.pos (by decide) (T.ret rfl)))))
end Go.Proofs.Ytoieojmfkkidnaa.Pure
