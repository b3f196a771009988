/-
  What was written into a sector is read, and nothing else changes.
  Conditions: those of the pure statement, none beside.
-/
import Derived.Test.YthkdhcaojhbfoaaPx28
import Derived.Test.YthkdhcaojhbfoaaXSecPut
import Derived.Test.YthkdhcaojhbfoaaXSecLookI
import Derived.Test.YthkdhcaojhbfoaaXSecLaw
import Derived.Test.YthkdhcaojhbfoaaXDrawSecPut
import Derived.Test.YthkdhcaojhbfoaaXLpSec
namespace Go.Proofs.Ythkdhcaojhbfoaa.Pure
open Go.RowKit Go.Proofs.Ythkdhcaojhbfoaa.P Go.Proofs.YthkdhcaojhbfoaaX Go.Proofs.YthkdhcaojhbfoaaW.PrintWords Go.Proofs.YthkdhcaojhbfoaaW.PrintLast Go.Proofs.YthkdhcaojhbfoaaW.PrintMore
set_option linter.unusedVariables false
set_option linter.unusedSimpArgs false

theorem sput_loop (K : Bs) (W : List Sw) (hK : K.length ≤ 1000) (hW : W.length ≤ 1000) (a : Int) (s : ByteArray) (h : sok K W = true) (h2 : sok K (W ++ [⟨a, s⟩]) = true) : ∀ (n i : Nat), K.length - i = n → i ≤ K.length →
    T (fun k => laws_FnSecPut.l0 k a s (i : Int) K W K (W ++ [⟨a, s⟩])) (· = true) := by
  have hl : (W ++ [(⟨a, s⟩ : Sw)]).length ≤ 1001 := by simp; omega
  have ha := ((sok_append K W ⟨a, s⟩ h).1 h2).2.1
  simp only at ha
  intro n
  induction n with
  | zero =>
    intro i hn hi
    refine T.succ ?_
    simp only [laws_FnSecPut.l0]
    refine T.neg (by omega) ?_
    exact T.bind_eq (impl_sok _ _ (by omega) (by omega)) (T.ret h2)
  | succ n ih =>
    intro i hn hi
    have hlt : i < K.length := by omega
    refine T.succ ?_
    simp only [laws_FnSecPut.l0]
    refine T.pos (by omega) ?_
    simp only [wrap_succ hlt (show K.length ≤ 4611686018427387904 by omega), lp_bytes_eq]
    have next := ih (i + 1) (by omega) (by omega)
    have e : lookB K (W ++ [⟨a, s⟩]) (i : Int) = if a = (i : Int) then s else lookB K W (i : Int) := by
      have e1 : lookB K (W ++ [⟨a, s⟩]) (i : Int) = if a.toNat = i then s else lastW i (K.getD i ByteArray.empty) W := by
        unfold lookB
        rw [if_pos ⟨h2, by omega, by omega⟩, lastW_append, Int.toNat_natCast]
      have e2 : lookB K W (i : Int) = lastW i (K.getD i ByteArray.empty) W := by
        unfold lookB
        rw [if_pos ⟨h, by omega, by omega⟩, Int.toNat_natCast]
      rw [e1, e2]
      by_cases hai : a = (i : Int)
      · rw [if_pos hai, if_pos (by omega)]
      · rw [if_neg hai, if_neg (by omega)]
    refine T.ite (fun hi => ?_) (fun hi => ?_)
    · refine T.bind_eq (impl_look K _ (by omega) (by omega) _) ?_
      exact T.pos (by rw [e, if_pos hi.symm]) next
    · refine T.bind_eq (impl_look K _ (by omega) (by omega) _) ?_
      refine T.bind_eq (impl_look K W (by omega) (by omega) _) ?_
      exact T.pos (by rw [e, if_neg (fun h => hi h.symm)]) next
theorem FnSecPut : laws_FnSecPut.Pure := by
  intro l hl _ hw
  refine T.rounds (g := fun k => laws_FnSecPut.f k l) ?_
  simp only [laws_FnSecPut.f]
  refine T.ite (fun _ => T.ret rfl) (fun _ => ?_)
  refine T.bind (drawSecPut_T l hw hl) (fun d hd => ?_)
  obtain ⟨K, W, a, s⟩ := d
  have hK : K.length ≤ 1000 := hd.1
  have hW : W.length ≤ 1000 := hd.2
  refine T.bind_eq (spec_sput K W (by omega) (by omega) a s) ?_
  refine T.bind_eq (spec_sok K W) ?_
  refine T.bind_eq (impl_sput K W (by omega) (by omega) a s) ?_
  refine T.neg (by simp) ?_
  have hl2 : (W ++ [(⟨a, s⟩ : Sw)]).length ≤ 1001 := by simp; omega
  have hg : (sputB K W a s).1.length ≤ 1001 ∧ (sputB K W a s).2.1.length ≤ 1001 := by
    unfold sputB
    split
    · split
      · exact ⟨by simp only; omega, by simp only; omega⟩
      · exact ⟨by simp only; omega, by simp only; omega⟩
    · simp
  refine T.bind (lpSec_T _ _ _ _ (by omega) (by omega)) (fun r hr => ?_)
  obtain rfl : r = true := hr.2 ⟨rfl, rfl⟩
  refine T.succ ?_
  simp only [laws_FnSecPut.j0]
  refine T.neg (by simp) ?_
  by_cases h : sok K W = true
  · by_cases h2 : sok K (W ++ [⟨a, s⟩]) = true
    · have e : sputB K W a s = (K, W ++ [⟨a, s⟩], true) := by unfold sputB; rw [if_pos h, if_pos h2]
      rw [e]
      refine T.pos rfl ?_
      exact sput_loop K W hK hW a s h h2 _ 0 rfl (Nat.zero_le _)
    · have e : sputB K W a s = (K, W, false) := by unfold sputB; rw [if_pos h, if_neg h2]
      rw [e]
      refine T.neg (by simp) (T.pos h ?_)
      exact T.bind (lpSec_T _ _ _ _ (by (try simp only); omega) (by (try simp only); omega)) (fun r hr => T.ret (hr.2 ⟨rfl, rfl⟩))
  · have e : sputB K W a s = ([], [], false) := by unfold sputB; rw [if_neg h]
    rw [e]
    refine T.neg (by simp) (T.neg h (T.pos (by simp) (T.ret rfl)))
end Go.Proofs.Ythkdhcaojhbfoaa.Pure
