/-
  A flushed disk reads as before, and no cut changes it.
  Conditions: those of the pure statement, none beside.
-/
import Derived.Test.YthkdhcaojhbfoaaPx31
import Derived.Test.YthkdhcaojhbfoaaXSecCut
import Derived.Test.YthkdhcaojhbfoaaXSecLookI
import Derived.Test.YthkdhcaojhbfoaaXSecLaw
import Derived.Test.YthkdhcaojhbfoaaXDrawSecCut
import Derived.Test.YthkdhcaojhbfoaaXLpSec
import Derived.Test.YthkdhcaojhbfoaaPx30
namespace Go.Proofs.Ythkdhcaojhbfoaa.Pure
open Go.RowKit Go.Proofs.Ythkdhcaojhbfoaa.P Go.Proofs.YthkdhcaojhbfoaaX Go.Proofs.YthkdhcaojhbfoaaW.PrintWords Go.Proofs.YthkdhcaojhbfoaaW.PrintLast Go.Proofs.YthkdhcaojhbfoaaW.PrintMore
set_option linter.unusedVariables false
set_option linter.unusedSimpArgs false

theorem sflush_loop (K : Bs) (W : List Sw) (hK : K.length ≤ 1000) (hW : W.length ≤ 1000) : ∀ (n i : Nat), K.length - i = n → i ≤ K.length →
    T (fun k => laws_FnSecFlush.l0 k (i : Int) K W (flushB K W).1 (flushB K W).2) (· = true) := by
  intro n
  induction n with
  | zero =>
    intro i hn hi
    refine T.succ ?_
    simp only [laws_FnSecFlush.l0]
    refine T.neg (by omega) ?_
    refine T.succ ?_
    simp only [laws_FnSecFlush.j3]
    exact T.neg (by simp) (T.ret rfl)
  | succ n ih =>
    intro i hn hi
    have hlt : i < K.length := by omega
    refine T.succ ?_
    simp only [laws_FnSecFlush.l0]
    refine T.pos (by omega) ?_
    refine T.bind_eq (spec_sok K W) ?_
    refine T.succ ?_
    simp only [laws_FnSecFlush.j3]
    refine T.ite (fun h => ?_) (fun h => T.ret rfl)
    have e : flushB K W = (wr K W, []) := by unfold flushB; rw [if_pos h]
    have next := ih (i + 1) (by omega) (by omega)
    rw [e] at next ⊢
    refine T.bind_eq (impl_look (wr K W) [] (by rw [wr_length]; omega) (by simp) _) ?_
    refine T.bind_eq (impl_look K W (by omega) (by omega) _) ?_
    rw [look_flushed h, wrap_succ hlt (by omega)]
    exact T.pos rfl next
theorem FnSecFlush : laws_FnSecFlush.Pure := by
  intro l m hl _ hw hm _ hv
  refine T.rounds (g := fun k => laws_FnSecFlush.f k l m) ?_
  have bad : T (fun k => laws_FnSecFlush.j0 k l m true) (· = true) := by
    refine T.succ ?_
    simp only [laws_FnSecFlush.j0, if_true]
    exact T.ret rfl
  simp only [laws_FnSecFlush.f]
  refine T.ite (fun _ => bad) (fun _ => ?_)
  by_cases hm2 : (m.length : Int) > 1048576
  · rw [decide_eq_true hm2]; exact bad
  rw [decide_eq_false hm2]
  refine T.succ ?_
  simp only [laws_FnSecFlush.j0]
  refine T.neg (by simp) ?_
  refine T.bind (P := fun r : List ByteArray × List Sw => Drawn r.1 r.2) ?_ (fun d hd => ?_)
  · simp only [spec_DrawSecFlush.f]
    obtain ⟨b, hc, hb⟩ := open_code hw hl
    simp only [hb, Option.bind_some]
    exact T.bind (drawAny_T hc (by omega) (by omega)) (fun d hd => T.ret hd.1)
  obtain ⟨K, W⟩ := d
  have hK : K.length ≤ 1000 := hd.1
  have hW : W.length ≤ 1000 := hd.2
  refine T.bind (drawSecCut_T m hv hm) (fun c _ => ?_)
  refine T.bind_eq (spec_flush K W) ?_
  refine T.bind_eq (impl_flush K W (by omega) (by omega)) ?_
  have hg : (flushB K W).1.length ≤ 1000 ∧ (flushB K W).2.length ≤ 1000 := by
    unfold flushB
    split
    · exact ⟨by simp only [wr_length]; omega, by simp⟩
    · simp
  refine T.bind (lpSec_T _ _ _ _ (by omega) (by omega)) (fun r hr => ?_)
  obtain rfl : r = true := hr.2 ⟨rfl, rfl⟩
  refine T.pos rfl ?_
  refine T.bind_eq (impl_cut _ _ (by omega) (by omega) _) ?_
  have ec : cutB (flushB K W).1 (flushB K W).2 c.2.2 = flushB K W := by
    unfold flushB
    split
    · next h => unfold cutB; rw [if_pos (sok_wr h (fun _ hx => hx))]; rfl
    · unfold cutB; split <;> rfl
  rw [ec]
  refine T.bind (lpSec_T _ _ _ _ (by omega) (by omega)) (fun r hr => ?_)
  obtain rfl : r = true := hr.2 ⟨rfl, rfl⟩
  refine T.succ ?_
  simp only [laws_FnSecFlush.j1]
  refine T.neg (by simp) ?_
  exact sflush_loop K W hK hW _ 0 rfl (Nat.zero_le _)
end Go.Proofs.Ythkdhcaojhbfoaa.Pure
