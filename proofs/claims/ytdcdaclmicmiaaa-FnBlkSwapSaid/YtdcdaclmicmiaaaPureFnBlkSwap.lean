/-
  Writes of different blocks can change places. (P13)
  Conditions: those of the pure statement, none beside.
-/
import Derived.Test.YtdcdaclmicmiaaaPx28
import Derived.Test.YtdcdaclmicmiaaaXBlk3
import Derived.Test.YtdcdaclmicmiaaaXDrawBlk
import Derived.Test.YtdcdaclmicmiaaaXLpPieces
namespace Go.Proofs.Ytdcdaclmicmiaaa.Pure
open Go.RowKit Go.Proofs.Ytdcdaclmicmiaaa.P Go.Proofs.YtdcdaclmicmiaaaX Go.Proofs.YtdcdaclmicmiaaaW.PrintWords Go.Proofs.YtdcdaclmicmiaaaW.PrintLast Go.Proofs.YtdcdaclmicmiaaaW.PrintMore
set_option linter.unusedVariables false
set_option linter.unusedSimpArgs false

theorem swap_end (L : List Pc) (hL : L.length ≤ 1000) (p q : Pc) (c : Bool) (hc : c = false → ¬ key p q) :
    T (fun k => laws_FnBlkSwap.j1 k L p.f0 p.f1 p.f2 p.f3 q.f0 q.f1 q.f2 q.f3 (putB L p).1 (putB L p).2 (putB L p).1 (putB L p).2 c) (· = true) := by
  have h1 := putB_le L p
  have h2 := putB_le L q
  have h3 := putB_le (putB L p).1 q
  have h4 := putB_le (putB L q).1 p
  refine T.succ ?_
  simp only [laws_FnBlkSwap.j1]
  refine T.ite (fun _ => T.pos (by simp) ?_) (fun hn => ?_)
  · refine T.bind (lpP_T _ _ (by omega)) (fun r hr => ?_)
    obtain rfl : r = true := hr.2 rfl
    exact T.ret rfl
  · refine T.bind_eq (impl_put _ (by omega) q) ?_
    refine T.bind_eq (impl_put _ (by omega) q) ?_
    refine T.bind_eq (impl_put _ (by omega) p) ?_
    refine T.ite (fun a => T.ite (fun b => T.ite (fun c => T.ite (fun d => ?_) (fun _ => T.ret rfl)) (fun _ => T.ret rfl)) (fun _ => T.ret rfl)) (fun _ => T.ret rfl)
    refine T.bind (lpP_T _ _ (by omega)) (fun r hr => ?_)
    obtain rfl : r = true := hr.2 (put_swap (hc (by simpa using hn)) a b c d)
    exact T.ret rfl
theorem FnBlkSwap : laws_FnBlkSwap.Pure := by
  intro l m hl _ hw hm _ hwm
  refine T.rounds (g := fun k => laws_FnBlkSwap.f k l m) ?_
  simp only [laws_FnBlkSwap.f]
  have stop : T (fun k => laws_FnBlkSwap.j0 k l m true) (· = true) := by
    refine T.succ ?_
    simp only [laws_FnBlkSwap.j0, if_true]
    exact T.ret rfl
  refine T.ite (fun _ => stop) (fun _ => ?_)
  refine T.succ ?_
  simp only [laws_FnBlkSwap.j0]
  refine T.ite (fun _ => T.ret rfl) (fun _ => ?_)
  refine T.bind (drawPut_T l hw hl) (fun dr hdr => ?_)
  obtain ⟨L, d, b, e, v⟩ := dr
  have hL : L.length ≤ 1000 := hdr
  refine T.bind (drawPut_T m hwm hm) (fun dr2 hdr2 => ?_)
  obtain ⟨L2, d2, b2, e2, v2⟩ := dr2
  simp only
  refine T.bind_eq (spec_put L (by omega) ⟨d, b, e, v⟩) ?_
  refine T.bind_eq (impl_put L (by omega) ⟨d, b, e, v⟩) ?_
  have hle := putB_le L ⟨d, b, e, v⟩
  refine T.neg (by simp) ?_
  refine T.bind (lpP_T _ _ (by omega)) (fun r hr => ?_)
  obtain rfl : r = true := hr.2 rfl
  refine T.pos rfl ?_
  have fin := fun c hc => swap_end L hL ⟨d, b, e, v⟩ ⟨d2, b2, e2, v2⟩ c hc
  refine T.ite (fun h1 => T.ite (fun h2 => fin _ (fun hc h => ?_)) (fun h2 => fin _ (fun _ h => h2 h.2.1))) (fun h1 => fin _ (fun _ h => h1 h.1))
  have : e = e2 := h.2.2
  simp [this] at hc
end Go.Proofs.Ytdcdaclmicmiaaa.Pure
