/-
  Drawn losses of power: how long what is drawn comes out.
  Conditions: Go's bounds of the drawn bytes.
-/
import Derived.Test.YthjocaegapchaaaXDrawTx
import Derived.Test.YthjocaegapchaaaXDrawSecCut
import Derived.Test.YthjocaegapchaaaPx27
namespace Go.Proofs.YthjocaegapchaaaX
open Go.RowKit Go.Proofs.Ythjocaegapchaaa.P Go.Proofs.YthjocaegapchaaaW.PrintWords Go.Proofs.YthjocaegapchaaaW.PrintLast Go.Proofs.YthjocaegapchaaaW.PrintMore
set_option linter.unusedVariables false
set_option linter.unusedSimpArgs false

theorem bits9_T {b : List Int} (hc : Code b) {p : Int} (h0 : 0 ≤ p) (h1 : p ≤ 10000000) : T (fun k => spec_l72Bits.f k b p 9) (fun r => r.1.length ≤ 2000) := by
  simp only [spec_l72Bits.f, show wrap64 ((9 : Int) + 1) = 10 from wrap64_id (by omega) (by omega)]
  refine T.bind (pick_T hc (by omega) (by omega) 10 (by omega) (by omega)) (fun q ⟨a, b, c⟩ => ?_)
  have := b (by omega)
  exact (bits_loop hc q.1.toNat q.1 [] q.2 (by omega) (by omega) (by simp; omega) (by omega) (by omega))
theorem do_j1 {b : List Int} (hc : Code b) (K : Bs) (W : List Sw) (S : List Ss) (hS : S.length ≤ 2000000) {p : Int} (h0 : 0 ≤ p) (h1 : p ≤ 1000000) : T (fun k => spec_DrawWalDo.j1 k S b p K W) (fun r => r.2.2.2.2.2.length ≤ 2000) := by
  refine T.succ ?_
  simp only [spec_DrawWalDo.j1]
  refine T.bind (pick_T hc h0 (by omega) 2 (by omega) (by omega)) (fun q ⟨a, b, c⟩ => ?_)
  rw [wrap64_id (x := (S.length : Int) + 3) (by omega) (by omega)]
  refine T.bind (pick_T hc (by omega) (by omega) ((S.length : Int) + 3) (by omega) (by omega)) (fun q2 ⟨a2, b2, c2⟩ => ?_)
  exact T.bind (bits9_T hc (by omega) (by omega)) (fun q3 h3 => T.ret h3)
theorem do_j0 {b : List Int} (hc : Code b) (K0 K : Bs) (W : List Sw) (S : List Ss) (hS : S.length ≤ 2000000) {p : Int} (h0 : 0 ≤ p) (h1 : p ≤ 100000) : T (fun k => spec_DrawWalDo.j0 k S b p K W) (fun r => r.2.2.2.2.2.length ≤ 2000) := by
  refine T.succ ?_
  simp only [spec_DrawWalDo.j0]
  refine T.bind (pick_T hc h0 (by omega) 40 (by omega) (by omega)) (fun q ⟨a, b, c⟩ => ?_)
  refine T.ite (fun _ => ?_) (fun _ => do_j1 hc K W S hS (by omega) (by omega))
  refine T.bind (pick_T hc (by omega) (by omega) 2 (by omega) (by omega)) (fun q2 ⟨a2, b2, c2⟩ => ?_)
  have := b2 (by omega)
  rw [wrap64_id (x := 600 + q2.1) (by omega) (by omega)]
  exact T.pos (by omega) (T.pos (by omega) (do_j1 hc K W _ (by rw [List.length_replicate]; omega) (by omega) (by omega)))
theorem drawWalDo_T (l : List Int) (hw : ∀ x ∈ l, (Lit.int .u8 x).wf = true) (hl : l.length ≤ maxLen) : T (fun k => spec_DrawWalDo.f k l) (fun r => r.2.2.2.2.2.length ≤ 2000) := by
  simp only [spec_DrawWalDo.f]
  obtain ⟨b, hc, hb⟩ := open_code hw hl
  simp only [hb, Option.bind_some]
  refine T.bind (walAny_T2 hc (by omega) (by omega)) (fun d ⟨hd, h0, h1⟩ => ?_)
  have k1 : d.1.length ≤ 1000 := hd.1
  refine T.bind_eq (spec_wread d.1 d.2.1 (by omega)) ?_
  refine T.bind (homes_T hc _ (wreadB_le _ _) h0 (by omega)) (fun H ⟨g1, g2, g3, g4⟩ => ?_)
  refine T.bind_eq (spec_steps d.1 d.2.1 H.1 (by omega)) ?_
  have hs := stepsB_len d.1 d.2.1 H.1
  refine T.bind (pick_T hc (by omega) (by omega) 4 (by omega) (by omega)) (fun q ⟨a, b, c⟩ => ?_)
  refine T.ite (fun _ => ?_) (fun _ => do_j0 hc d.1 _ _ _ (by omega) (by omega) (by omega))
  refine T.bind (pick_T hc (by omega) (by omega) 9 (by omega) (by omega)) (fun q2 ⟨a2, b2, c2⟩ => ?_)
  refine T.bind (text_T hc (by omega) (by omega) 17 (by omega) (by omega)) (fun q3 c3 => ?_)
  exact T.pos (by omega) (do_j0 hc d.1 _ _ _ (by rw [List.length_append]; simp only [List.length_cons, List.length_nil]; omega) (by omega) (by omega))
end Go.Proofs.YthjocaegapchaaaX
