/-
  The drawn disks of sectors with a write: they always come, and are short.
  Conditions: bytes.
-/
import Derived.Test.YthkdhcaojhbfoaaXDrawSec
import Derived.Test.YthkdhcaojhbfoaaPx19
namespace Go.Proofs.YthkdhcaojhbfoaaX
open Go.RowKit Go.Proofs.Ythkdhcaojhbfoaa.P Go.Proofs.YthkdhcaojhbfoaaW.PrintWords Go.Proofs.YthkdhcaojhbfoaaW.PrintLast Go.Proofs.YthkdhcaojhbfoaaW.PrintMore
set_option linter.unusedVariables false
set_option linter.unusedSimpArgs false

theorem drawSecPut_T (l : List Int) (hw : ∀ x ∈ l, (Lit.int .u8 x).wf = true) (hl : l.length ≤ maxLen) : T (fun k => spec_DrawSecPut.f k l) (fun r => Drawn r.1 r.2.1) := by
  simp only [spec_DrawSecPut.f]
  obtain ⟨b, hc, hb⟩ := open_code hw hl
  simp only [hb, Option.bind_some]
  refine T.bind (drawAny_T hc (by omega) (by omega)) (fun d ⟨hd, h0, h1⟩ => ?_)
  have d1 := hd.1
  rw [wrap64_id (x := (d.1.length : Int) + 2) (by omega) (by omega)]
  refine T.bind (pick_T hc (by omega) (by omega) ((d.1.length : Int) + 2) (by omega) (by omega)) (fun q1 ⟨a1, b1, c1⟩ => ?_)
  refine T.bind (pick_T hc (by omega) (by omega) 2 (by omega) (by omega)) (fun q2 ⟨a2, b2, c2⟩ => ?_)
  refine T.bind (text_T hc (by omega) (by omega) 17 (by omega) (by omega)) (fun q3 h3 => ?_)
  exact T.ret hd
end Go.Proofs.YthkdhcaojhbfoaaX
