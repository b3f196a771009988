/-
  A disk that is gone costs no room, and all others stay. (P11)
  Conditions: those of the pure statement, none beside.
-/
import Derived.Test.YtdcdaclmicmiaaaPx30
import Derived.Test.YtdcdaclmicmiaaaXBlk3
import Derived.Test.YtdcdaclmicmiaaaXDrawBlk
import Derived.Test.YtdcdaclmicmiaaaXLpPieces
namespace Go.Proofs.Ytdcdaclmicmiaaa.Pure
open Go.RowKit Go.Proofs.Ytdcdaclmicmiaaa.P Go.Proofs.YtdcdaclmicmiaaaX Go.Proofs.YtdcdaclmicmiaaaW.PrintWords Go.Proofs.YtdcdaclmicmiaaaW.PrintLast Go.Proofs.YtdcdaclmicmiaaaW.PrintMore
set_option linter.unusedVariables false
set_option linter.unusedSimpArgs false

theorem drop_loop1 (x : List Pc) (d : Int) (hx : x.length ≤ 1000) (hn : ∀ q ∈ x, q.f0 ≠ d) (hb : bok x = true) : ∀ (n i : Nat), x.length - i = n → i ≤ x.length →
    T (fun k => laws_FnBlkDrop.l1 k d x (i : Int)) (· = true) := by
  intro n
  induction n with
  | zero =>
    intro i hn hi
    refine T.succ ?_
    simp only [laws_FnBlkDrop.l1]
    refine T.neg (by omega) ?_
    refine T.bind_eq (impl_ok_eq _ (by omega)) ?_
    exact T.ret hb
  | succ n ih =>
    intro i hn2 hi
    have hlt : i < x.length := by omega
    refine T.succ ?_
    simp only [laws_FnBlkDrop.l1]
    refine T.pos (by omega) (T.pos (by omega) ?_)
    simp only [rdP x i hlt, wrap_succ hlt (show x.length ≤ 4611686018427387904 by omega)]
    exact T.neg (hn _ (List.getElem_mem hlt)) (ih (i + 1) (by omega) (by omega))
theorem drop_loop0 (L : List Pc) (d : Int) (hL : L.length ≤ 1000) (hb : BOk L) : ∀ (n i : Nat), L.length - i = n → i ≤ L.length →
    T (fun k => laws_FnBlkDrop.l0 k L d (dropL d L) (i : Int)) (· = true) := by
  have hle := dropL_le d L
  intro n
  induction n with
  | zero =>
    intro i hn hi
    refine T.succ ?_
    simp only [laws_FnBlkDrop.l0]
    refine T.neg (by omega) ?_
    refine drop_loop1 _ d (by omega) (fun q hq => ?_) ((bok_iff _).2 (drop_ok d hb)) _ 0 rfl (Nat.zero_le _)
    have := (List.mem_filter.1 hq).2
    simpa using this
  | succ n ih =>
    intro i hn hi
    have hlt : i < L.length := by omega
    refine T.succ ?_
    simp only [laws_FnBlkDrop.l0]
    refine T.pos (by omega) (T.pos (by omega) ?_)
    simp only [rdP L i hlt, wrap_succ hlt (show L.length ≤ 4611686018427387904 by omega)]
    have next := ih (i + 1) (by omega) (by omega)
    refine T.bind_eq (impl_get _ (by omega) _ _ _) ?_
    have hr := drop_reads (d := d) hb (List.getElem_mem hlt)
    refine T.ite (fun h => ?_) (fun h => ?_)
    · rw [if_pos h] at hr
      exact T.pos hr next
    · rw [if_neg h] at hr
      exact T.pos hr next
theorem FnBlkDrop : laws_FnBlkDrop.Pure := by
  intro l hl _ hw
  refine T.rounds (g := fun k => laws_FnBlkDrop.f k l) ?_
  simp only [laws_FnBlkDrop.f]
  refine T.ite (fun _ => T.ret rfl) (fun _ => ?_)
  refine T.bind (drawDrop_T l hw hl) (fun dr hdr => ?_)
  obtain ⟨L, d⟩ := dr
  have hL : L.length ≤ 1000 := hdr
  simp only
  refine T.bind_eq (spec_drop L (by omega) d) ?_
  refine T.bind_eq (spec_ok_eq L) ?_
  refine T.bind_eq (impl_drop L (by omega) d) ?_
  have hle : (dropB L d).length ≤ 1000 := by
    unfold dropB
    have := dropL_le d L
    split
    · omega
    · simp
  refine T.bind (lpP_T _ _ (by omega)) (fun r hr => ?_)
  obtain rfl : r = true := hr.2 rfl
  refine T.pos rfl ?_
  refine T.succ ?_
  simp only [laws_FnBlkDrop.j0]
  refine T.ite (fun _ => ?_) (fun hb => ?_)
  · refine T.bind (lpP_T _ _ (by omega)) (fun r hr => ?_)
    obtain rfl : r = true := hr.2 rfl
    exact T.ret rfl
  · have hb1 : bok L = true := by simpa using hb
    have e : dropB L d = dropL d L := by unfold dropB; rw [if_pos hb1]
    rw [e]
    exact drop_loop0 L d hL ((bok_iff L).1 hb1) _ 0 rfl (Nat.zero_le _)
end Go.Proofs.Ytdcdaclmicmiaaa.Pure
