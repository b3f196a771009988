/-
  What was written is read, and nothing else changes. (P9)
  Conditions: those of the pure statement, none beside.
-/
import Derived.Test.YtdcdaclmicmiaaaPx30
import Derived.Test.YtdcdaclmicmiaaaXBlk3
import Derived.Test.YtdcdaclmicmiaaaXDrawBlk
import Derived.Test.YtdcdaclmicmiaaaXLpPieces
namespace Go.Proofs.Ytdcdaclmicmiaaa.Pure
open Go.RowKit Go.Proofs.Ytdcdaclmicmiaaa.P Go.Proofs.YtdcdaclmicmiaaaX Go.Proofs.YtdcdaclmicmiaaaW.PrintWords Go.Proofs.YtdcdaclmicmiaaaW.PrintLast Go.Proofs.YtdcdaclmicmiaaaW.PrintMore
set_option linter.unusedVariables false
set_option linter.unusedSimpArgs false

theorem put_loop (L : List Pc) (hL : L.length ≤ 1000) (p : Pc) (ok : (putB L p).2 = true) : ∀ (n i : Nat), L.length - i = n → i ≤ L.length →
    T (fun k => laws_FnBlkPut.l0 k L p.f0 p.f1 p.f2 p.f3 (putB L p).1 (i : Int)) (· = true) := by
  have hle := putB_le L p
  intro n
  induction n with
  | zero =>
    intro i hn hi
    refine T.succ ?_
    simp only [laws_FnBlkPut.l0]
    refine T.neg (by omega) ?_
    refine T.bind_eq (impl_ok_eq _ (by omega)) ?_
    obtain ⟨_, h2, h3⟩ := put_true ok
    refine T.pos (by rw [h3]; exact (bok_iff _).2 h2) ?_
    refine T.bind_eq (impl_get _ (by omega) p.f0 p.f1 p.f2) ?_
    refine T.pos (put_reads ok) (T.ret ?_)
    rw [wrap64_id (x := (L.length : Int) + 1) (by omega) (by omega)]
    simp only [decide_eq_true_eq]
    omega
  | succ n ih =>
    intro i hn hi
    have hlt : i < L.length := by omega
    refine T.succ ?_
    simp only [laws_FnBlkPut.l0]
    refine T.pos (by omega) (T.pos (by omega) ?_)
    simp only [rdP L i hlt, wrap_succ hlt (show L.length ≤ 4611686018427387904 by omega)]
    have next := ih (i + 1) (by omega) (by omega)
    have same : (¬ (L[i].f0 = p.f0 ∧ L[i].f1 = p.f1)) → T (fun k => (impl_BlkGet.f k (putB L p).1 L[i].f0 L[i].f1 L[i].f2).bind fun t => (impl_BlkGet.f k L L[i].f0 L[i].f1 L[i].f2).bind fun t' => if t = t' then laws_FnBlkPut.l0 k L p.f0 p.f1 p.f2 p.f3 (putB L p).1 ((i + 1 : Nat) : Int) else some false) (· = true) := fun hn => by
      refine T.bind_eq (impl_get _ (by omega) _ _ _) ?_
      refine T.bind_eq (impl_get L (by omega) _ _ _) ?_
      exact T.pos (put_others ok _ _ _ (fun h => hn (by unfold hit at h; omega))) next
    refine T.ite (fun h1 => T.ite (fun h2 => next) (fun h2 => same (fun h => h2 h.2))) (fun h1 => same (fun h => h1 h.1))
theorem FnBlkPut : laws_FnBlkPut.Pure := by
  intro l hl _ hw
  refine T.rounds (g := fun k => laws_FnBlkPut.f k l) ?_
  simp only [laws_FnBlkPut.f]
  refine T.ite (fun _ => T.ret rfl) (fun _ => ?_)
  refine T.bind (drawPut_T l hw hl) (fun dr hdr => ?_)
  obtain ⟨L, d, b, e, v⟩ := dr
  have hL : L.length ≤ 1000 := hdr
  simp only
  refine T.bind_eq (spec_put L (by omega) ⟨d, b, e, v⟩) ?_
  refine T.bind_eq (spec_ok_eq L) ?_
  refine T.bind_eq (impl_put L (by omega) ⟨d, b, e, v⟩) ?_
  have hle := putB_le L ⟨d, b, e, v⟩
  refine T.neg (by simp) ?_
  refine T.bind (lpP_T _ _ (by omega)) (fun r hr => ?_)
  obtain rfl : r = true := hr.2 rfl
  refine T.succ ?_
  simp only [laws_FnBlkPut.j0]
  refine T.neg (by simp) ?_
  refine T.ite (fun ok => put_loop L hL ⟨d, b, e, v⟩ ok _ 0 rfl (Nat.zero_le _)) (fun no => ?_)
  refine T.ite (fun hok => ?_) (fun hok => ?_)
  · refine T.bind (lpP_T _ _ (by omega)) (fun r hr => ?_)
    obtain rfl : r = true := hr.2 (by
      unfold putB at no ⊢
      rw [if_pos hok] at no ⊢
      split
      · rename_i h; simp [h] at no
      · rfl)
    exact T.ret rfl
  · refine T.pos ?_ (T.ret rfl)
    unfold putB
    rw [if_neg hok]
    rfl
end Go.Proofs.Ytdcdaclmicmiaaa.Pure
