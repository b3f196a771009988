/-
  The drawn disks of sectors, some spoilt: they always come, and are short.
  Conditions: bytes.
-/
import Derived.Test.YthjocaegapchaaaXDrawSec0
import Derived.Test.YthjocaegapchaaaPx27
namespace Go.Proofs.YthjocaegapchaaaX
open Go.RowKit Go.Proofs.Ythjocaegapchaaa.P Go.Proofs.YthjocaegapchaaaW.PrintWords Go.Proofs.YthjocaegapchaaaW.PrintLast Go.Proofs.YthjocaegapchaaaW.PrintMore
set_option linter.unusedVariables false
set_option linter.unusedSimpArgs false

/-- A drawn disk is short. -/
def Drawn (K : List ByteArray) (W : List Sw) : Prop := K.length ≤ 1000 ∧ W.length ≤ 1000
theorem drawAny_T {b : List Int} (hc : Code b) {p : Int} (h0 : 0 ≤ p) (h1 : p ≤ 1000000) : T (fun k => spec_l72SecAny.f k b p) (fun r => Drawn r.1 r.2.1 ∧ 0 ≤ r.2.2 ∧ r.2.2 ≤ p + 200) := by
  simp only [spec_l72SecAny.f]
  refine T.bind (drawSec_T hc h0 (by omega)) (fun d ⟨hf, hd0, hd1⟩ => ?_)
  have f1 := hf.1
  have f2 := hf.2
  refine T.bind (pick_T hc hd0 (by omega) 16 (by omega) (by omega)) (fun q ⟨a1, b1, c1⟩ => ?_)
  refine T.ite (fun h => ?_) (fun h => ?_)
  · simp only [Option.bind_some]
    refine T.bind (pick_T hc (by omega) (by omega) 2 (by omega) (by omega)) (fun q2 ⟨a2, b2, c2⟩ => ?_)
    have := b2 (by omega)
    refine T.pos a2 (T.pos (by simp only [List.length_cons, List.length_nil]; omega) (T.pos (by omega) (T.ret ⟨⟨by show d.1.length ≤ _; omega, by simp only [List.length_append, List.length_cons, List.length_nil]; omega⟩, by show 0 ≤ q2.2; omega, by show q2.2 ≤ _; omega⟩)))
  refine T.ite (fun h => ?_) (fun h => ?_)
  · refine T.bind (pick_T hc (by omega) (by omega) 2 (by omega) (by omega)) (fun q2 ⟨a2, b2, c2⟩ => ?_)
    have := b2 (by omega)
    rw [wrap64_id (x := 16 + q2.1) (by omega) (by omega)]
    refine T.bind (many6_T _ _ (by decide) (by omega) (by omega)) (fun s _ => ?_)
    refine T.pos (by omega) (T.ret ⟨⟨by show d.1.length ≤ _; omega, by simp only [List.length_append, List.length_cons, List.length_nil]; omega⟩, by show 0 ≤ q2.2; omega, by show q2.2 ≤ _; omega⟩)
  refine T.ite (fun h => ?_) (fun h => ?_)
  · refine T.bind (pick_T hc (by omega) (by omega) 2 (by omega) (by omega)) (fun q2 ⟨a2, b2, c2⟩ => ?_)
    have := b2 (by omega)
    rw [wrap64_id (x := 16 + q2.1) (by omega) (by omega)]
    refine T.bind (many6_T _ _ (by decide) (by omega) (by omega)) (fun s _ => ?_)
    refine T.pos (by omega) (T.ret ⟨⟨by simp only [List.length_append, List.length_cons, List.length_nil]; omega, by show d.2.1.length ≤ _; omega⟩, by show 0 ≤ q2.2; omega, by show q2.2 ≤ _; omega⟩)
  refine T.ite (fun h => ?_) (fun h => ?_)
  · refine T.bind (pick_T hc (by omega) (by omega) 2 (by omega) (by omega)) (fun q2 ⟨a2, b2, c2⟩ => ?_)
    have := b2 (by omega)
    rw [wrap64_id (x := 512 + q2.1) (by omega) (by omega)]
    refine T.pos (by omega) (T.pos (by omega) (T.ret ⟨⟨by rw [List.length_replicate]; omega, by show d.2.1.length ≤ _; omega⟩, by show 0 ≤ q2.2; omega, by show q2.2 ≤ _; omega⟩))
  · exact T.ret ⟨⟨by show d.1.length ≤ _; omega, by show d.2.1.length ≤ _; omega⟩, by show 0 ≤ q.2; omega, by show q.2 ≤ _; omega⟩
end Go.Proofs.YthjocaegapchaaaX
