-- printed by pprint.py (this session's program over the kit's printer) out of the translation. Lean checks it.
import Derived.Test.YthkdhcaojhbfoaaPx0
import Derived.Test.YthkdhcaojhbfoaaPx3
import Derived.Test.YthkdhcaojhbfoaaPx13
import Derived.Test.YthkdhcaojhbfoaaPx17
import Derived.Test.YthkdhcaojhbfoaaPx20
import Derived.Test.YthkdhcaojhbfoaaPx21
namespace Go.Proofs.Ythkdhcaojhbfoaa.P
open Go.RowKit Go.Proofs.YthkdhcaojhbfoaaX Go.Proofs.YthkdhcaojhbfoaaW.PrintWords Go.Proofs.YthkdhcaojhbfoaaW.PrintLast Go.Proofs.YthkdhcaojhbfoaaW.PrintMore
attribute [local go_sem] max2_int min2_int max_two min_two max_three min_three max_four min_four   -- for this text's walks alone
set_option linter.unusedVariables false
set_option linter.unusedSimpArgs false

/-! ### laws_FnSecCut: function 10 -/
mutual
def laws_FnSecCut.j0 : Nat → List Int → Option (Bool)
 | 0, _ => none
 | k + 1, x0 => (spec_DrawSecCut.f k x0).bind fun bt674 => ((spec_SecCut.f k bt674.1 bt674.2.1 bt674.2.2).bind fun bt684 => ((spec_SecOk.f k bt674.1 bt674.2.1).bind fun t691 => ((impl_SecCut.f k bt674.1 bt674.2.1 bt674.2.2).bind fun bt692 => ((laws_lpSec.f k bt692.1 bt692.2 bt684.1 bt684.2).bind fun t699 => (if t699 = true then (laws_FnSecCut.j1 k t691 bt674.1 bt674.2.1 bt692.1 bt692.2) else (some false))))))
def laws_FnSecCut.j1 : Nat → Bool → List ByteArray → List (S54) → List ByteArray → List (S54) → Option (Bool)
 | 0, _, _, _, _, _ => none
 | k + 1, x6, x684000, x684001, x699000, x699001 => if x6 = true then (laws_FnSecCut.j2 k x684000 x684001 x699000 x699001) else (some ((x699000.length : Int) == 0))
def laws_FnSecCut.j2 : Nat → List ByteArray → List (S54) → List ByteArray → List (S54) → Option (Bool)
 | 0, _, _, _, _ => none
 | k + 1, x684000, x684001, x699000, x699001 => laws_FnSecCut.l0 k 0 x684000 x684001 x699000 x699001
def laws_FnSecCut.l0 : Nat → Int → List ByteArray → List (S54) → List ByteArray → List (S54) → Option (Bool)
 | 0, _, _, _, _, _ => none
 | k + 1, x8, x684000, x684001, x699000, x699001 => if x8 < (x684000.length : Int) then (laws_FnSecCut.j4 k x8 x684000 x684001 x699000 x699001) else ((impl_SecOk.f k x699000 x699001).bind fun t700 => (if t700 = true then (if (x699001.length : Int) = 0 then (some ((x699000.length : Int) == (x684000.length : Int))) else (some false)) else (some false)))
def laws_FnSecCut.j4 : Nat → Int → List ByteArray → List (S54) → List ByteArray → List (S54) → Option (Bool)
 | 0, _, _, _, _, _ => none
 | k + 1, x8, x684000, x684001, x699000, x699001 => if 0 ≤ x8 then (if x8 < (x699000.length : Int) then (if x8 < (x684000.length : Int) then (laws_FnSecCut.l1 k x8 ((rdOf ByteArray.empty x699000 x8).toList == (rdOf ByteArray.empty x684000 x8).toList) 0 x684000 x684001 x699000 x699001) else (none)) else (none)) else (none)
def laws_FnSecCut.l1 : Nat → Int → Bool → Int → List ByteArray → List (S54) → List ByteArray → List (S54) → Option (Bool)
 | 0, _, _, _, _, _, _, _ => none
 | k + 1, x8, x9, x10, x684000, x684001, x699000, x699001 => if x10 < (x684001.length : Int) then (if x9 = true then (laws_FnSecCut.l1 k x8 true (wrap64 (x10 + 1)) x684000 x684001 x699000 x699001) else (if 0 ≤ x10 then (if ((rd_T54 x684001 x10).f0) = x8 then (if 0 ≤ x8 then (if x8 < (x699000.length : Int) then (laws_FnSecCut.l1 k x8 (((rd_T54 x684001 x10).f1).toList == (rdOf ByteArray.empty x699000 x8).toList) (wrap64 (x10 + 1)) x684000 x684001 x699000 x699001) else (none)) else (none)) else (laws_FnSecCut.l1 k x8 false (wrap64 (x10 + 1)) x684000 x684001 x699000 x699001)) else (none))) else (if x9 = true then (laws_FnSecCut.l0 k (wrap64 (x8 + 1)) x684000 x684001 x699000 x699001) else (some false))
end
def laws_FnSecCut.f (k : Nat) (l0 : List Int) : Option (Bool) := if (l0.length : Int) > 1048576 then (some true) else (laws_FnSecCut.j0 k l0)
theorem laws_FnSecCut.mono_l : ∀ k, (∀ y0, LeO (laws_FnSecCut.j0 k y0) (laws_FnSecCut.j0 (k + 1) y0)) ∧ (∀ y0 y1 y2 y3 y4, LeO (laws_FnSecCut.j1 k y0 y1 y2 y3 y4) (laws_FnSecCut.j1 (k + 1) y0 y1 y2 y3 y4)) ∧ (∀ y0 y1 y2 y3, LeO (laws_FnSecCut.j2 k y0 y1 y2 y3) (laws_FnSecCut.j2 (k + 1) y0 y1 y2 y3)) ∧ (∀ y0 y1 y2 y3 y4, LeO (laws_FnSecCut.l0 k y0 y1 y2 y3 y4) (laws_FnSecCut.l0 (k + 1) y0 y1 y2 y3 y4)) ∧ (∀ y0 y1 y2 y3 y4, LeO (laws_FnSecCut.j4 k y0 y1 y2 y3 y4) (laws_FnSecCut.j4 (k + 1) y0 y1 y2 y3 y4)) ∧ (∀ y0 y1 y2 y3 y4 y5 y6, LeO (laws_FnSecCut.l1 k y0 y1 y2 y3 y4 y5 y6) (laws_FnSecCut.l1 (k + 1) y0 y1 y2 y3 y4 y5 y6))
 | 0 => ⟨fun _ r h => by simp [laws_FnSecCut.j0] at h, fun _ _ _ _ _ r h => by simp [laws_FnSecCut.j1] at h, fun _ _ _ _ r h => by simp [laws_FnSecCut.j2] at h, fun _ _ _ _ _ r h => by simp [laws_FnSecCut.l0] at h, fun _ _ _ _ _ r h => by simp [laws_FnSecCut.j4] at h, fun _ _ _ _ _ _ _ r h => by simp [laws_FnSecCut.l1] at h⟩
 | k + 1 => by
  obtain ⟨ih0, ih1, ih2, ih3, ih4, ih5⟩ := laws_FnSecCut.mono_l k
  refine ⟨?_, ?_, ?_, ?_, ?_, ?_⟩
  ·intro y0
   unfold laws_FnSecCut.j0
   repeat' first
   | (with_reducible exact ih0 _)
   | (with_reducible exact ih1 _ _ _ _ _)
   | (with_reducible exact ih2 _ _ _ _)
   | (with_reducible exact ih3 _ _ _ _ _)
   | (with_reducible exact ih4 _ _ _ _ _)
   | (with_reducible exact ih5 _ _ _ _ _ _ _)
   | (with_reducible exact impl_SecCut.mono _ _ _ _)
   | (with_reducible exact impl_SecOk.mono _ _ _)
   | (with_reducible exact laws_lpSec.mono _ _ _ _ _)
   | (with_reducible exact spec_DrawSecCut.mono _ _)
   | (with_reducible exact spec_SecCut.mono _ _ _ _)
   | (with_reducible exact spec_SecOk.mono _ _ _)
   | (with_reducible exact LeO.refl _)
   | (with_reducible exact LeO.none _)
   | (with_reducible refine LeO.ite ?_ ?_)
   | (with_reducible refine LeO.bind ?_ (fun _ => ?_))
   | exact ih0 _
   | exact ih1 _ _ _ _ _
   | exact ih2 _ _ _ _
   | exact ih3 _ _ _ _ _
   | exact ih4 _ _ _ _ _
   | exact ih5 _ _ _ _ _ _ _
   | exact impl_SecCut.mono _ _ _ _
   | exact impl_SecOk.mono _ _ _
   | exact laws_lpSec.mono _ _ _ _ _
   | exact spec_DrawSecCut.mono _ _
   | exact spec_SecCut.mono _ _ _ _
   | exact spec_SecOk.mono _ _ _
   | exact LeO.none _
   | refine LeO.ite ?_ ?_
   | refine LeO.bind ?_ (fun _ => ?_)
  ·intro y0 y1 y2 y3 y4
   unfold laws_FnSecCut.j1
   repeat' first
   | (with_reducible exact ih0 _)
   | (with_reducible exact ih1 _ _ _ _ _)
   | (with_reducible exact ih2 _ _ _ _)
   | (with_reducible exact ih3 _ _ _ _ _)
   | (with_reducible exact ih4 _ _ _ _ _)
   | (with_reducible exact ih5 _ _ _ _ _ _ _)
   | (with_reducible exact impl_SecCut.mono _ _ _ _)
   | (with_reducible exact impl_SecOk.mono _ _ _)
   | (with_reducible exact laws_lpSec.mono _ _ _ _ _)
   | (with_reducible exact spec_DrawSecCut.mono _ _)
   | (with_reducible exact spec_SecCut.mono _ _ _ _)
   | (with_reducible exact spec_SecOk.mono _ _ _)
   | (with_reducible exact LeO.refl _)
   | (with_reducible exact LeO.none _)
   | (with_reducible refine LeO.ite ?_ ?_)
   | (with_reducible refine LeO.bind ?_ (fun _ => ?_))
   | exact ih0 _
   | exact ih1 _ _ _ _ _
   | exact ih2 _ _ _ _
   | exact ih3 _ _ _ _ _
   | exact ih4 _ _ _ _ _
   | exact ih5 _ _ _ _ _ _ _
   | exact impl_SecCut.mono _ _ _ _
   | exact impl_SecOk.mono _ _ _
   | exact laws_lpSec.mono _ _ _ _ _
   | exact spec_DrawSecCut.mono _ _
   | exact spec_SecCut.mono _ _ _ _
   | exact spec_SecOk.mono _ _ _
   | exact LeO.none _
   | refine LeO.ite ?_ ?_
   | refine LeO.bind ?_ (fun _ => ?_)
  ·intro y0 y1 y2 y3
   unfold laws_FnSecCut.j2
   repeat' first
   | (with_reducible exact ih0 _)
   | (with_reducible exact ih1 _ _ _ _ _)
   | (with_reducible exact ih2 _ _ _ _)
   | (with_reducible exact ih3 _ _ _ _ _)
   | (with_reducible exact ih4 _ _ _ _ _)
   | (with_reducible exact ih5 _ _ _ _ _ _ _)
   | (with_reducible exact impl_SecCut.mono _ _ _ _)
   | (with_reducible exact impl_SecOk.mono _ _ _)
   | (with_reducible exact laws_lpSec.mono _ _ _ _ _)
   | (with_reducible exact spec_DrawSecCut.mono _ _)
   | (with_reducible exact spec_SecCut.mono _ _ _ _)
   | (with_reducible exact spec_SecOk.mono _ _ _)
   | (with_reducible exact LeO.refl _)
   | (with_reducible exact LeO.none _)
   | (with_reducible refine LeO.ite ?_ ?_)
   | (with_reducible refine LeO.bind ?_ (fun _ => ?_))
   | exact ih0 _
   | exact ih1 _ _ _ _ _
   | exact ih2 _ _ _ _
   | exact ih3 _ _ _ _ _
   | exact ih4 _ _ _ _ _
   | exact ih5 _ _ _ _ _ _ _
   | exact impl_SecCut.mono _ _ _ _
   | exact impl_SecOk.mono _ _ _
   | exact laws_lpSec.mono _ _ _ _ _
   | exact spec_DrawSecCut.mono _ _
   | exact spec_SecCut.mono _ _ _ _
   | exact spec_SecOk.mono _ _ _
   | exact LeO.none _
   | refine LeO.ite ?_ ?_
   | refine LeO.bind ?_ (fun _ => ?_)
  ·intro y0 y1 y2 y3 y4
   unfold laws_FnSecCut.l0
   repeat' first
   | (with_reducible exact ih0 _)
   | (with_reducible exact ih1 _ _ _ _ _)
   | (with_reducible exact ih2 _ _ _ _)
   | (with_reducible exact ih3 _ _ _ _ _)
   | (with_reducible exact ih4 _ _ _ _ _)
   | (with_reducible exact ih5 _ _ _ _ _ _ _)
   | (with_reducible exact impl_SecCut.mono _ _ _ _)
   | (with_reducible exact impl_SecOk.mono _ _ _)
   | (with_reducible exact laws_lpSec.mono _ _ _ _ _)
   | (with_reducible exact spec_DrawSecCut.mono _ _)
   | (with_reducible exact spec_SecCut.mono _ _ _ _)
   | (with_reducible exact spec_SecOk.mono _ _ _)
   | (with_reducible exact LeO.refl _)
   | (with_reducible exact LeO.none _)
   | (with_reducible refine LeO.ite ?_ ?_)
   | (with_reducible refine LeO.bind ?_ (fun _ => ?_))
   | exact ih0 _
   | exact ih1 _ _ _ _ _
   | exact ih2 _ _ _ _
   | exact ih3 _ _ _ _ _
   | exact ih4 _ _ _ _ _
   | exact ih5 _ _ _ _ _ _ _
   | exact impl_SecCut.mono _ _ _ _
   | exact impl_SecOk.mono _ _ _
   | exact laws_lpSec.mono _ _ _ _ _
   | exact spec_DrawSecCut.mono _ _
   | exact spec_SecCut.mono _ _ _ _
   | exact spec_SecOk.mono _ _ _
   | exact LeO.none _
   | refine LeO.ite ?_ ?_
   | refine LeO.bind ?_ (fun _ => ?_)
  ·intro y0 y1 y2 y3 y4
   unfold laws_FnSecCut.j4
   repeat' first
   | (with_reducible exact ih0 _)
   | (with_reducible exact ih1 _ _ _ _ _)
   | (with_reducible exact ih2 _ _ _ _)
   | (with_reducible exact ih3 _ _ _ _ _)
   | (with_reducible exact ih4 _ _ _ _ _)
   | (with_reducible exact ih5 _ _ _ _ _ _ _)
   | (with_reducible exact impl_SecCut.mono _ _ _ _)
   | (with_reducible exact impl_SecOk.mono _ _ _)
   | (with_reducible exact laws_lpSec.mono _ _ _ _ _)
   | (with_reducible exact spec_DrawSecCut.mono _ _)
   | (with_reducible exact spec_SecCut.mono _ _ _ _)
   | (with_reducible exact spec_SecOk.mono _ _ _)
   | (with_reducible exact LeO.refl _)
   | (with_reducible exact LeO.none _)
   | (with_reducible refine LeO.ite ?_ ?_)
   | (with_reducible refine LeO.bind ?_ (fun _ => ?_))
   | exact ih0 _
   | exact ih1 _ _ _ _ _
   | exact ih2 _ _ _ _
   | exact ih3 _ _ _ _ _
   | exact ih4 _ _ _ _ _
   | exact ih5 _ _ _ _ _ _ _
   | exact impl_SecCut.mono _ _ _ _
   | exact impl_SecOk.mono _ _ _
   | exact laws_lpSec.mono _ _ _ _ _
   | exact spec_DrawSecCut.mono _ _
   | exact spec_SecCut.mono _ _ _ _
   | exact spec_SecOk.mono _ _ _
   | exact LeO.none _
   | refine LeO.ite ?_ ?_
   | refine LeO.bind ?_ (fun _ => ?_)
  ·intro y0 y1 y2 y3 y4 y5 y6
   unfold laws_FnSecCut.l1
   repeat' first
   | (with_reducible exact ih0 _)
   | (with_reducible exact ih1 _ _ _ _ _)
   | (with_reducible exact ih2 _ _ _ _)
   | (with_reducible exact ih3 _ _ _ _ _)
   | (with_reducible exact ih4 _ _ _ _ _)
   | (with_reducible exact ih5 _ _ _ _ _ _ _)
   | (with_reducible exact impl_SecCut.mono _ _ _ _)
   | (with_reducible exact impl_SecOk.mono _ _ _)
   | (with_reducible exact laws_lpSec.mono _ _ _ _ _)
   | (with_reducible exact spec_DrawSecCut.mono _ _)
   | (with_reducible exact spec_SecCut.mono _ _ _ _)
   | (with_reducible exact spec_SecOk.mono _ _ _)
   | (with_reducible exact LeO.refl _)
   | (with_reducible exact LeO.none _)
   | (with_reducible refine LeO.ite ?_ ?_)
   | (with_reducible refine LeO.bind ?_ (fun _ => ?_))
   | exact ih0 _
   | exact ih1 _ _ _ _ _
   | exact ih2 _ _ _ _
   | exact ih3 _ _ _ _ _
   | exact ih4 _ _ _ _ _
   | exact ih5 _ _ _ _ _ _ _
   | exact impl_SecCut.mono _ _ _ _
   | exact impl_SecOk.mono _ _ _
   | exact laws_lpSec.mono _ _ _ _ _
   | exact spec_DrawSecCut.mono _ _
   | exact spec_SecCut.mono _ _ _ _
   | exact spec_SecOk.mono _ _ _
   | exact LeO.none _
   | refine LeO.ite ?_ ?_
   | refine LeO.bind ?_ (fun _ => ?_)
theorem laws_FnSecCut.mono : ∀ a0 k, LeO (laws_FnSecCut.f k a0) (laws_FnSecCut.f (k + 1) a0) := by
 intro a0 k
 obtain ⟨ih0, ih1, ih2, ih3, ih4, ih5⟩ := laws_FnSecCut.mono_l k
 unfold laws_FnSecCut.f
 repeat' first
   | (with_reducible exact ih0 _)
   | (with_reducible exact ih1 _ _ _ _ _)
   | (with_reducible exact ih2 _ _ _ _)
   | (with_reducible exact ih3 _ _ _ _ _)
   | (with_reducible exact ih4 _ _ _ _ _)
   | (with_reducible exact ih5 _ _ _ _ _ _ _)
   | (with_reducible exact impl_SecCut.mono _ _ _ _)
   | (with_reducible exact impl_SecOk.mono _ _ _)
   | (with_reducible exact laws_lpSec.mono _ _ _ _ _)
   | (with_reducible exact spec_DrawSecCut.mono _ _)
   | (with_reducible exact spec_SecCut.mono _ _ _ _)
   | (with_reducible exact spec_SecOk.mono _ _ _)
   | (with_reducible exact LeO.refl _)
   | (with_reducible exact LeO.none _)
   | (with_reducible refine LeO.ite ?_ ?_)
   | (with_reducible refine LeO.bind ?_ (fun _ => ?_))
   | exact ih0 _
   | exact ih1 _ _ _ _ _
   | exact ih2 _ _ _ _
   | exact ih3 _ _ _ _ _
   | exact ih4 _ _ _ _ _
   | exact ih5 _ _ _ _ _ _ _
   | exact impl_SecCut.mono _ _ _ _
   | exact impl_SecOk.mono _ _ _
   | exact laws_lpSec.mono _ _ _ _ _
   | exact spec_DrawSecCut.mono _ _
   | exact spec_SecCut.mono _ _ _ _
   | exact spec_SecOk.mono _ _ _
   | exact LeO.none _
   | refine LeO.ite ?_ ?_
   | refine LeO.bind ?_ (fun _ => ?_)
set_option maxHeartbeats 8000000 in
set_option maxRecDepth 100000 in
theorem laws_FnSecCut.calls (k : Nat) (A0 : Option Addr) (c0 : Nat) (l0 : List Int) (r : Bool) (w : World) (hr0 : Kd.C (Kd.int .u8) w A0 l0.length l0) (hc0 : l0.length ≤ c0) (h : laws_FnSecCut.f k l0 = some r) :
  Calls Try.prog 10 #[.slice A0 l0.length c0] w fun e w' => e = .returned (.bool r) ∧ Below w.heap.size w w' := by
 have hu26 := Try.underlying26
 have HR0 := Aside0.mk hr0
 have HC0 := Aside0.mk hc0
 clear hr0 hc0
 have HB := Aside0.mk (Below.refl w.heap.size w)
 have H : (if (l0.length : Int) > 1048576 then (some true) else (laws_FnSecCut.j0 k l0)) = some r := h
 clear h
 have HC2 := Aside0.mk H
 clear H
 go_enter Try.func10, Try.ntmps10
 go_upto_if 13 with (fail)
 repeat (go_quiet (fail); go_upto_if 13 with (fail))
 go_cut [] (fun wc => ∃ (kq : Nat), Aside0 (laws_FnSecCut.j0 kq l0 = some r) ∧ Aside0 (kq ≤ k) ∧ Aside0 (Below w.heap.size w wc))
 case first =>
  have H := HC2.out
  clear HC2
  by_cases c3 : (l0.length : Int) > 1048576
  ·rw [if_pos c3] at H
   have c3b0 : decide (1048576 < (l0.length : Int)) = true := decide_eq_true c3
   have c3b1 : decide (1048576 < l0.length) = true := decide_eq_true (by omega)
   clear c3
   (first | rw [c3b0] | (simp only [i64_w, i32_w]; rw [c3b0]) | skip)
   obtain rfl := Option.some.inj H
   go_wp2
   repeat (go_quiet (fail); try go_wp2)
   go_ret
   exact ⟨by first | rfl | (simp [errW_none, errW_some] <;> rfl) | (simp [*, errW_none, errW_some] <;> rfl), pB HB.out⟩
  ·rw [if_neg c3] at H
   have c3b0 : decide (1048576 < (l0.length : Int)) = false := decide_eq_false c3
   have c3b1 : decide (1048576 < l0.length) = false := decide_eq_false (by omega)
   clear c3
   (first | rw [c3b0] | (simp only [i64_w, i32_w]; rw [c3b0]) | skip)
   have H' := Aside0.mk H
   clear H
   go_wp2
   repeat (go_quiet (fail); try go_wp2)
   go_meet
   case rel => exact ⟨_, H', ⟨by first | omega | exact Nat.le_refl _⟩, ⟨pB HB.out⟩⟩
 case rest =>
  clear HC2
  try clear c1
  try clear p2
  try clear c3
  try clear c3b0
  try clear c3b1
  obtain ⟨kq, HA, HJ1, HB⟩ := hcut
  cases kq with
  | zero => exact absurd HA.out (by simp [laws_FnSecCut.j0])
  | succ kj1 =>
   have H := HA.out
   clear HA
   simp only [laws_FnSecCut.j0] at H
   replace H := Option.bind_eq_some_iff.mp H
   obtain ⟨⟨t674, t677, t680⟩, A40, H⟩ := H
   replace H : ((spec_SecCut.f kj1 t674 t677 t680).bind fun bt684 => ((spec_SecOk.f kj1 t674 t677).bind fun t691 => ((impl_SecCut.f kj1 t674 t677 t680).bind fun bt692 => ((laws_lpSec.f kj1 bt692.1 bt692.2 bt684.1 bt684.2).bind fun t699 => (if t699 = true then (laws_FnSecCut.j1 kj1 t691 t674 t677 bt692.1 bt692.2) else (some false)))))) = some r := H
   have A4 := Aside0.mk A40
   clear A40
   replace H := Option.bind_eq_some_iff.mp H
   obtain ⟨⟨t684, t687⟩, A50, H⟩ := H
   replace H : ((spec_SecOk.f kj1 t674 t677).bind fun t691 => ((impl_SecCut.f kj1 t674 t677 t680).bind fun bt692 => ((laws_lpSec.f kj1 bt692.1 bt692.2 t684 t687).bind fun t699 => (if t699 = true then (laws_FnSecCut.j1 kj1 t691 t674 t677 bt692.1 bt692.2) else (some false))))) = some r := H
   have A5 := Aside0.mk A50
   clear A50
   replace H := Option.bind_eq_some_iff.mp H
   obtain ⟨t691, A60, H⟩ := H
   replace H : ((impl_SecCut.f kj1 t674 t677 t680).bind fun bt692 => ((laws_lpSec.f kj1 bt692.1 bt692.2 t684 t687).bind fun t699 => (if t699 = true then (laws_FnSecCut.j1 kj1 t691 t674 t677 bt692.1 bt692.2) else (some false)))) = some r := H
   have A6 := Aside0.mk A60
   clear A60
   replace H := Option.bind_eq_some_iff.mp H
   obtain ⟨⟨t692, t695⟩, A70, H⟩ := H
   replace H : ((laws_lpSec.f kj1 t692 t695 t684 t687).bind fun t699 => (if t699 = true then (laws_FnSecCut.j1 kj1 t691 t674 t677 t692 t695) else (some false))) = some r := H
   have A7 := Aside0.mk A70
   clear A70
   replace H := Option.bind_eq_some_iff.mp H
   obtain ⟨t699, A80, H⟩ := H
   replace H : (if t699 = true then (laws_FnSecCut.j1 kj1 t691 t674 t677 t692 t695) else (some false)) = some r := H
   have A8 := Aside0.mk A80
   clear A80
   have HC9 := Aside0.mk H
   clear H
   go_upto_if 30 with (first | (go_at_call 33; (with_reducible refine (spec_DrawSecCut.calls kj1 _ _ l0 t674 t677 t680 _ ?side1 ?side2 A4.out).mono ?_); (case side1 => repeat (first | exact (Kd.C_below HR0.out HB.out) | (with_reducible refine Kd.C_alloc ?_ _) | (with_reducible refine Kd.C_drewN ?_ _) | (with_reducible refine Kd.C_drew ?_))); (case side2 => exact HC0.out); rintro e w10 ⟨v675, v678, v681, rfl, ho0, ho1, ho2, hb⟩; have n0_ := Aside0.mk (Kd.R_lower ho0 (below_size (pB HB.out))); have n1_ := Aside0.mk (Kd.R_lower ho1 (below_size (pB HB.out))); have n2_ := Aside0.mk (Kd.R_lower ho2 (below_size (pB HB.out))); have n3_ := Aside0.mk (below_step (pB HB.out) hb); clear HB; have HO676 := n0_; have HO679 := n1_; have HO682 := n2_; have HB := n3_; clear n0_ n1_ n2_ n3_; (try clear hb); (try clear hb2); (try clear hk); (try clear hi); (try clear ho0); (try clear ho1); (try clear ho2)) | ((with_reducible refine gate_dst (N := 3) rfl ?_); (try (refine gate_guard (by rfl) ?_; dsimp only)); refine box_event ?hg (N := 3) ?hd (cs := #[.slice none 0 0, .slice none 0 0]) (t := 26) ?hr ?_; (case hd => rfl); (case hg => rfl); (case hr => first | (go_simp; done) | (go_simp; rfl)); intro gb683 hg w11 hbox hb; have n0_ := Aside0.mk (Kd.R_below (pR HO676.out) hb); have n1_ := Aside0.mk (Kd.R_below (pR HO679.out) hb); have n2_ := Aside0.mk (Kd.R_below (pR HO682.out) hb); have n3_ := Aside0.mk (below_step (pB HB.out) hb); have n4_ := Aside0.mk (hbox); have n5_ := Aside0.mk ((by rw [hg]; exact (below_size (pB HB.out)) : w.heap.size ≤ gb683)); have n6_ := Aside0.mk ((by rw [hg]; exact (below_size (pB HB.out)) : w.heap.size ≤ gb683)); clear HO676; clear HO679; clear HO682; clear HB; have HO676 := n0_; have HO679 := n1_; have HO682 := n2_; have HB := n3_; have BK683 := n4_; have GW683 := n5_; have GE683 := n6_; clear n0_ n1_ n2_ n3_ n4_ n5_ n6_; clear hb hbox hg; obtain ⟨Ao12, co12, eo12⟩ := Kd.R_slice HO676.out; subst eo12; have hcz13_0 : w11.cell? ⟨gb683, 0, none⟩ = some (.slice none 0 0) := (blk_cell BK683.out 0).trans rfl; have hcz13_1 : w11.cell? ⟨gb683, 1, none⟩ = some (.slice none 0 0) := (blk_cell BK683.out 1).trans rfl; have hfz13_0 := blk_frozen BK683.out 0; have hfz13_1 := blk_frozen BK683.out 1; obtain ⟨Ao14, co14, eo14⟩ := Kd.R_slice HO679.out; subst eo14; obtain ⟨Ao15, co15, eo15⟩ := Kd.R_slice HO682.out; subst eo15) | (go_at_call 34; (with_reducible refine (spec_SecCut.calls kj1 _ _ t674 _ _ t677 _ _ t680 t684 t687 _ ?side1 ?side2 ?side3 ?side4 ?side5 ?side6 A5.out).mono ?_); (case side1 => refine (Kd.R_reads' (e := 9) (base := w.heap.size) (ok := fun k_ => True) (n := t674.length) (c := co12) ?_).2.2; exact (pR (Kd.R_mono (Kd.R_far (p := ⟨gb683, 1, none⟩) (Kd.R_far (p := ⟨gb683, 0, none⟩) (Kd.R_types HO676.out BK683.out (by decide)) (fun _ hk => hk.2) (.slice Ao12 t674.length co12)) (fun _ hk => hk.2) (.slice Ao14 t677.length co14)) (fun _ h_ => h_.1)))); (case side2 => exact (Kd.R_reads' HO676.out).2.1); (case side3 => refine (Kd.R_reads' (e := 54) (base := w.heap.size) (ok := fun k_ => True) (n := t677.length) (c := co14) ?_).2.2; exact (pR (Kd.R_mono (Kd.R_far (p := ⟨gb683, 1, none⟩) (Kd.R_far (p := ⟨gb683, 0, none⟩) (Kd.R_types HO679.out BK683.out (by decide)) (fun _ hk => hk.2) (.slice Ao12 t674.length co12)) (fun _ hk => hk.2) (.slice Ao14 t677.length co14)) (fun _ h_ => h_.1)))); (case side4 => exact (Kd.R_reads' HO679.out).2.1); (case side5 => refine (Kd.R_reads' (e := 3) (base := w.heap.size) (ok := fun k_ => True) (n := t680.length) (c := co15) ?_).2.2; exact (pR (Kd.R_mono (Kd.R_far (p := ⟨gb683, 1, none⟩) (Kd.R_far (p := ⟨gb683, 0, none⟩) (Kd.R_types HO682.out BK683.out (by decide)) (fun _ hk => hk.2) (.slice Ao12 t674.length co12)) (fun _ hk => hk.2) (.slice Ao14 t677.length co14)) (fun _ h_ => h_.1)))); (case side6 => exact (Kd.R_reads' HO682.out).2.1); rintro e w16 ⟨v685, v688, rfl, ho0, ho1, hb⟩; have n0_ := Aside0.mk (Kd.R_elder' (pR (Kd.R_mono (Kd.R_far (p := ⟨gb683, 1, none⟩) (Kd.R_far (p := ⟨gb683, 0, none⟩) (Kd.R_types HO676.out BK683.out (by decide)) (fun _ hk => hk.2) (.slice Ao12 t674.length co12)) (fun _ hk => hk.2) (.slice Ao14 t677.length co14)) (fun _ h_ => h_.1))) (Kd.R_base ho0) hb); have n1_ := Aside0.mk (Kd.R_elder' (pR (Kd.R_mono (Kd.R_far (p := ⟨gb683, 1, none⟩) (Kd.R_far (p := ⟨gb683, 0, none⟩) (Kd.R_types HO679.out BK683.out (by decide)) (fun _ hk => hk.2) (.slice Ao12 t674.length co12)) (fun _ hk => hk.2) (.slice Ao14 t677.length co14)) (fun _ h_ => h_.1))) (Kd.R_base ho1) hb); have n2_ := Aside0.mk (Kd.R_below (pR (Kd.R_mono (Kd.R_far (p := ⟨gb683, 1, none⟩) (Kd.R_far (p := ⟨gb683, 0, none⟩) (Kd.R_types HO682.out BK683.out (by decide)) (fun _ hk => hk.2) (.slice Ao12 t674.length co12)) (fun _ hk => hk.2) (.slice Ao14 t677.length co14)) (fun _ h_ => h_.1))) hb); have n3_ := Aside0.mk (Kd.R_lower (Kd.R_new' ho0 (Kd.R_lt (pR (Kd.R_mono (Kd.R_far (p := ⟨gb683, 1, none⟩) (Kd.R_far (p := ⟨gb683, 0, none⟩) (Kd.R_types HO676.out BK683.out (by decide)) (fun _ hk => hk.2) (.slice Ao12 t674.length co12)) (fun _ hk => hk.2) (.slice Ao14 t677.length co14)) (fun _ h_ => h_.1))))) (below_size (by repeat (first | (with_reducible first | exact HB.out | apply below_alloc | apply pw_below_drewN | apply below_drew1 | refine below_set ?_ GE683.out) | exact HB.out)))); have n4_ := Aside0.mk (Kd.R_lower (Kd.R_new' ho1 (Kd.R_lt (pR (Kd.R_mono (Kd.R_far (p := ⟨gb683, 1, none⟩) (Kd.R_far (p := ⟨gb683, 0, none⟩) (Kd.R_types HO679.out BK683.out (by decide)) (fun _ hk => hk.2) (.slice Ao12 t674.length co12)) (fun _ hk => hk.2) (.slice Ao14 t677.length co14)) (fun _ h_ => h_.1))))) (below_size (by repeat (first | (with_reducible first | exact HB.out | apply below_alloc | apply pw_below_drewN | apply below_drew1 | refine below_set ?_ GE683.out) | exact HB.out)))); have n5_ := Aside0.mk (blk_below (g := gb683) (o := .cells #[.slice Ao12 t674.length co12, .slice Ao14 t677.length co14] 26 (0, 0)) (by (with_reducible repeat (first | refine blk_drewN ?_ _ | refine blk_drew ?_ | refine blk_alloc ?_ _)); refine blk_put (cs := #[.slice Ao12 t674.length co12, .slice none 0 0]) ?_ 1 _ rfl; (with_reducible repeat (first | refine blk_drewN ?_ _ | refine blk_drew ?_ | refine blk_alloc ?_ _)); refine blk_put (cs := #[.slice none 0 0, .slice none 0 0]) ?_ 0 _ rfl; (with_reducible repeat (first | refine blk_drewN ?_ _ | refine blk_drew ?_ | refine blk_alloc ?_ _)); exact BK683.out) hb); have n6_ := Aside0.mk (below_step (by repeat (first | (with_reducible first | exact HB.out | apply below_alloc | apply pw_below_drewN | apply below_drew1 | refine below_set ?_ GE683.out) | exact HB.out)) hb); clear HO676; clear HO679; clear HO682; clear BK683; clear HB; have HO676 := n0_; have HO679 := n1_; have HO682 := n2_; have HO686 := n3_; have HO689 := n4_; have BK683 := n5_; have HB := n6_; clear n0_ n1_ n2_ n3_ n4_ n5_ n6_; (try clear hb); (try clear hb2); (try clear hk); (try clear hi); (try clear ho0); (try clear ho1)) | ((with_reducible refine gate_dst (N := 5) rfl ?_); (try (refine gate_guard (by rfl) ?_; dsimp only)); refine box_event ?hg (N := 5) ?hd (cs := #[.slice none 0 0, .slice none 0 0]) (t := 26) ?hr ?_; (case hd => rfl); (case hg => rfl); (case hr => first | (go_simp; done) | (go_simp; rfl)); intro gb690 hg w17 hbox hb; have n0_ := Aside0.mk (Kd.R_below (pR HO676.out) hb); have n1_ := Aside0.mk (Kd.R_below (pR HO679.out) hb); have n2_ := Aside0.mk (Kd.R_below (pR HO682.out) hb); have n3_ := Aside0.mk (Kd.R_below (pR HO686.out) hb); have n4_ := Aside0.mk (Kd.R_below (pR HO689.out) hb); have n5_ := Aside0.mk (blk_below (g := gb683) (o := .cells #[.slice Ao12 t674.length co12, .slice Ao14 t677.length co14] 26 (0, 0)) (pK BK683.out) hb); have n6_ := Aside0.mk (below_step (by repeat (first | (with_reducible first | exact HB.out | apply below_alloc | apply pw_below_drewN | apply below_drew1 | refine below_set ?_ GE683.out) | exact HB.out)) hb); have n7_ := Aside0.mk (hbox); have n8_ := Aside0.mk ((by rw [hg]; exact (below_size (by repeat (first | (with_reducible first | exact HB.out | apply below_alloc | apply pw_below_drewN | apply below_drew1 | refine below_set ?_ GE683.out) | exact HB.out))) : w.heap.size ≤ gb690)); have n9_ := Aside0.mk ((by rw [hg]; exact (below_size (by repeat (first | (with_reducible first | exact HB.out | apply below_alloc | apply pw_below_drewN | apply below_drew1 | refine below_set ?_ GE683.out) | exact HB.out))) : w.heap.size ≤ gb690)); have n10_ := Aside0.mk ((by rw [hg]; exact Nat.ne_of_lt (blk_lt (g := gb683) (o := .cells #[.slice Ao12 t674.length co12, .slice Ao14 t677.length co14] 26 (0, 0)) (pK BK683.out)) : gb683 ≠ gb690)); have n11_ := Aside0.mk ((by rw [hg]; exact Nat.ne_of_gt (blk_lt (g := gb683) (o := .cells #[.slice Ao12 t674.length co12, .slice Ao14 t677.length co14] 26 (0, 0)) (pK BK683.out)) : gb690 ≠ gb683)); clear HO676; clear HO679; clear HO682; clear HO686; clear HO689; clear BK683; clear HB; have HO676 := n0_; have HO679 := n1_; have HO682 := n2_; have HO686 := n3_; have HO689 := n4_; have BK683 := n5_; have HB := n6_; have BK690 := n7_; have GW690 := n8_; have GE690 := n9_; have NB683_690 := n10_; have NB690_683 := n11_; clear n0_ n1_ n2_ n3_ n4_ n5_ n6_ n7_ n8_ n9_ n10_ n11_; clear hb hbox hg; obtain ⟨Ao18, co18, eo18⟩ := Kd.R_slice HO686.out; subst eo18; have hnb19 := NB690_683.out; have hnc19 := NB683_690.out; have hcz20_0 : w17.cell? ⟨gb690, 0, none⟩ = some (.slice none 0 0) := (blk_cell BK690.out 0).trans rfl; have hcz20_1 : w17.cell? ⟨gb690, 1, none⟩ = some (.slice none 0 0) := (blk_cell BK690.out 1).trans rfl; have hfz20_0 := blk_frozen BK690.out 0; have hfz20_1 := blk_frozen BK690.out 1; obtain ⟨Ao21, co21, eo21⟩ := Kd.R_slice HO689.out; subst eo21; have hcz22_0 : w17.cell? ⟨gb683, 0, none⟩ = some (.slice Ao12 t674.length co12) := (blk_cell BK683.out 0).trans rfl; have hcz22_1 : w17.cell? ⟨gb683, 1, none⟩ = some (.slice Ao14 t677.length co14) := (blk_cell BK683.out 1).trans rfl; have hfz22_0 := blk_frozen BK683.out 0; have hfz22_1 := blk_frozen BK683.out 1) | (go_at_call 23; (with_reducible refine (spec_SecOk.calls kj1 _ _ t674 _ _ t677 t691 _ ?side1 ?side2 ?side3 ?side4 A6.out).mono ?_); (case side1 => refine (Kd.R_reads' (e := 9) (base := w.heap.size) (ok := fun k_ => (True ∧ some k_ ≠ (.slice Ao18 t684.length co18 : Value).ownBlock)) (n := t674.length) (c := co12) ?_).2.2; exact (pR (Kd.R_mono (Kd.R_far (p := ⟨gb690, 1, none⟩) (Kd.R_far (p := ⟨gb690, 0, none⟩) (Kd.R_types HO676.out BK690.out (by decide)) (fun _ hk => hk.2) (.slice Ao18 t684.length co18)) (fun _ hk => hk.2) (.slice Ao21 t687.length co21)) (fun _ h_ => h_.1)))); (case side2 => exact (Kd.R_reads' HO676.out).2.1); (case side3 => refine (Kd.R_reads' (e := 54) (base := w.heap.size) (ok := fun k_ => (True ∧ some k_ ≠ (.slice Ao21 t687.length co21 : Value).ownBlock)) (n := t677.length) (c := co14) ?_).2.2; exact (pR (Kd.R_mono (Kd.R_far (p := ⟨gb690, 1, none⟩) (Kd.R_far (p := ⟨gb690, 0, none⟩) (Kd.R_types HO679.out BK690.out (by decide)) (fun _ hk => hk.2) (.slice Ao18 t684.length co18)) (fun _ hk => hk.2) (.slice Ao21 t687.length co21)) (fun _ h_ => h_.1)))); (case side4 => exact (Kd.R_reads' HO679.out).2.1); rintro e w23 ⟨rfl, hb⟩; have n0_ := Aside0.mk (Kd.R_below (pR (Kd.R_mono (Kd.R_far (p := ⟨gb690, 1, none⟩) (Kd.R_far (p := ⟨gb690, 0, none⟩) (Kd.R_types HO676.out BK690.out (by decide)) (fun _ hk => hk.2) (.slice Ao18 t684.length co18)) (fun _ hk => hk.2) (.slice Ao21 t687.length co21)) (fun _ h_ => h_.1))) hb); have n1_ := Aside0.mk (Kd.R_below (pR (Kd.R_mono (Kd.R_far (p := ⟨gb690, 1, none⟩) (Kd.R_far (p := ⟨gb690, 0, none⟩) (Kd.R_types HO679.out BK690.out (by decide)) (fun _ hk => hk.2) (.slice Ao18 t684.length co18)) (fun _ hk => hk.2) (.slice Ao21 t687.length co21)) (fun _ h_ => h_.1))) hb); have n2_ := Aside0.mk (Kd.R_below (pR (Kd.R_mono (Kd.R_far (p := ⟨gb690, 1, none⟩) (Kd.R_far (p := ⟨gb690, 0, none⟩) (Kd.R_types HO682.out BK690.out (by decide)) (fun _ hk => hk.2) (.slice Ao18 t684.length co18)) (fun _ hk => hk.2) (.slice Ao21 t687.length co21)) (fun _ h_ => h_.1))) hb); have n3_ := Aside0.mk (Kd.R_below (pR (Kd.R_mono (Kd.R_far (p := ⟨gb690, 1, none⟩) (Kd.R_far (p := ⟨gb690, 0, none⟩) (Kd.R_types HO686.out BK690.out (by decide)) (fun _ hk => hk.2) (.slice Ao18 t684.length co18)) (fun _ hk => hk.2) (.slice Ao21 t687.length co21)) (fun _ h_ => h_.1))) hb); have n4_ := Aside0.mk (Kd.R_below (pR (Kd.R_mono (Kd.R_far (p := ⟨gb690, 1, none⟩) (Kd.R_far (p := ⟨gb690, 0, none⟩) (Kd.R_types HO689.out BK690.out (by decide)) (fun _ hk => hk.2) (.slice Ao18 t684.length co18)) (fun _ hk => hk.2) (.slice Ao21 t687.length co21)) (fun _ h_ => h_.1))) hb); have n5_ := Aside0.mk (blk_below (g := gb683) (o := .cells #[.slice Ao12 t674.length co12, .slice Ao14 t677.length co14] 26 (0, 0)) (by (with_reducible repeat (first | refine blk_drewN ?_ _ | refine blk_drew ?_ | refine blk_alloc ?_ _)); refine blk_far ?_ NB683_690.out _; (with_reducible repeat (first | refine blk_drewN ?_ _ | refine blk_drew ?_ | refine blk_alloc ?_ _)); refine blk_far ?_ NB683_690.out _; (with_reducible repeat (first | refine blk_drewN ?_ _ | refine blk_drew ?_ | refine blk_alloc ?_ _)); exact BK683.out) hb); have n6_ := Aside0.mk (blk_below (g := gb690) (o := .cells #[.slice Ao18 t684.length co18, .slice Ao21 t687.length co21] 26 (0, 0)) (by (with_reducible repeat (first | refine blk_drewN ?_ _ | refine blk_drew ?_ | refine blk_alloc ?_ _)); refine blk_put (cs := #[.slice Ao18 t684.length co18, .slice none 0 0]) ?_ 1 _ rfl; (with_reducible repeat (first | refine blk_drewN ?_ _ | refine blk_drew ?_ | refine blk_alloc ?_ _)); refine blk_put (cs := #[.slice none 0 0, .slice none 0 0]) ?_ 0 _ rfl; (with_reducible repeat (first | refine blk_drewN ?_ _ | refine blk_drew ?_ | refine blk_alloc ?_ _)); exact BK690.out) hb); have n7_ := Aside0.mk (below_step (by repeat (first | (with_reducible first | exact HB.out | apply below_alloc | apply pw_below_drewN | apply below_drew1 | refine below_set ?_ GE683.out | refine below_set ?_ GE690.out) | exact HB.out)) hb); clear HO676; clear HO679; clear HO682; clear HO686; clear HO689; clear BK683; clear BK690; clear HB; have HO676 := n0_; have HO679 := n1_; have HO682 := n2_; have HO686 := n3_; have HO689 := n4_; have BK683 := n5_; have BK690 := n6_; have HB := n7_; clear n0_ n1_ n2_ n3_ n4_ n5_ n6_ n7_; (try clear hb); (try clear hb2); (try clear hk); (try clear hi); have hcz24_0 : w23.cell? ⟨gb683, 0, none⟩ = some (.slice Ao12 t674.length co12) := (blk_cell BK683.out 0).trans rfl; have hcz24_1 : w23.cell? ⟨gb683, 1, none⟩ = some (.slice Ao14 t677.length co14) := (blk_cell BK683.out 1).trans rfl; have hfz24_0 := blk_frozen BK683.out 0; have hfz24_1 := blk_frozen BK683.out 1) | (go_at_call 35; (with_reducible refine (impl_SecCut.calls kj1 _ _ t674 _ _ t677 _ _ t680 t692 t695 _ ?side1 ?side2 ?side3 ?side4 ?side5 ?side6 A7.out).mono ?_); (case side1 => exact pC (Kd.R_reads' HO676.out).2.2); (case side2 => exact (Kd.R_reads' HO676.out).2.1); (case side3 => exact pC (Kd.R_reads' HO679.out).2.2); (case side4 => exact (Kd.R_reads' HO679.out).2.1); (case side5 => exact pC (Kd.R_reads' HO682.out).2.2); (case side6 => exact (Kd.R_reads' HO682.out).2.1); rintro e w25 ⟨v693, v696, rfl, ho0, ho1, hb⟩; have n0_ := Aside0.mk (Kd.R_elder' (pR HO676.out) (Kd.R_base ho0) hb); have n1_ := Aside0.mk (Kd.R_elder' (pR HO679.out) (Kd.R_base ho1) hb); have n2_ := Aside0.mk (Kd.R_below (pR HO682.out) hb); have n3_ := Aside0.mk (Kd.R_elder' (pR HO686.out) (Kd.R_base ho0) hb); have n4_ := Aside0.mk (Kd.R_elder' (pR HO689.out) (Kd.R_base ho1) hb); have n5_ := Aside0.mk (Kd.R_lower (Kd.R_new' (Kd.R_new' ho0 (Kd.R_lt (pR HO676.out))) (Kd.R_lt (pR HO686.out))) (below_size (by repeat (first | (with_reducible first | exact HB.out | apply below_alloc | apply pw_below_drewN | apply below_drew1 | refine below_set ?_ GE683.out | refine below_set ?_ GE690.out) | exact HB.out)))); have n6_ := Aside0.mk (Kd.R_lower (Kd.R_new' (Kd.R_new' ho1 (Kd.R_lt (pR HO679.out))) (Kd.R_lt (pR HO689.out))) (below_size (by repeat (first | (with_reducible first | exact HB.out | apply below_alloc | apply pw_below_drewN | apply below_drew1 | refine below_set ?_ GE683.out | refine below_set ?_ GE690.out) | exact HB.out)))); have n7_ := Aside0.mk (blk_below (g := gb683) (o := .cells #[.slice Ao12 t674.length co12, .slice Ao14 t677.length co14] 26 (0, 0)) (pK BK683.out) hb); have n8_ := Aside0.mk (blk_below (g := gb690) (o := .cells #[.slice Ao18 t684.length co18, .slice Ao21 t687.length co21] 26 (0, 0)) (pK BK690.out) hb); have n9_ := Aside0.mk (below_step (by repeat (first | (with_reducible first | exact HB.out | apply below_alloc | apply pw_below_drewN | apply below_drew1 | refine below_set ?_ GE683.out | refine below_set ?_ GE690.out) | exact HB.out)) hb); clear HO676; clear HO679; clear HO682; clear HO686; clear HO689; clear BK683; clear BK690; clear HB; have HO676 := n0_; have HO679 := n1_; have HO682 := n2_; have HO686 := n3_; have HO689 := n4_; have HO694 := n5_; have HO697 := n6_; have BK683 := n7_; have BK690 := n8_; have HB := n9_; clear n0_ n1_ n2_ n3_ n4_ n5_ n6_ n7_ n8_ n9_; (try clear hb); (try clear hb2); (try clear hk); (try clear hi); (try clear ho0); (try clear ho1)) | ((with_reducible refine gate_dst (N := 7) rfl ?_); (try (refine gate_guard (by rfl) ?_; dsimp only)); refine box_event ?hg (N := 7) ?hd (cs := #[.slice none 0 0, .slice none 0 0]) (t := 26) ?hr ?_; (case hd => rfl); (case hg => rfl); (case hr => first | (go_simp; done) | (go_simp; rfl)); intro gb698 hg w26 hbox hb; have n0_ := Aside0.mk (Kd.R_below (pR HO676.out) hb); have n1_ := Aside0.mk (Kd.R_below (pR HO679.out) hb); have n2_ := Aside0.mk (Kd.R_below (pR HO682.out) hb); have n3_ := Aside0.mk (Kd.R_below (pR HO686.out) hb); have n4_ := Aside0.mk (Kd.R_below (pR HO689.out) hb); have n5_ := Aside0.mk (Kd.R_below (pR HO694.out) hb); have n6_ := Aside0.mk (Kd.R_below (pR HO697.out) hb); have n7_ := Aside0.mk (blk_below (g := gb683) (o := .cells #[.slice Ao12 t674.length co12, .slice Ao14 t677.length co14] 26 (0, 0)) (pK BK683.out) hb); have n8_ := Aside0.mk (blk_below (g := gb690) (o := .cells #[.slice Ao18 t684.length co18, .slice Ao21 t687.length co21] 26 (0, 0)) (pK BK690.out) hb); have n9_ := Aside0.mk (below_step (by repeat (first | (with_reducible first | exact HB.out | apply below_alloc | apply pw_below_drewN | apply below_drew1 | refine below_set ?_ GE683.out | refine below_set ?_ GE690.out) | exact HB.out)) hb); have n10_ := Aside0.mk (hbox); have n11_ := Aside0.mk ((by rw [hg]; exact (below_size (by repeat (first | (with_reducible first | exact HB.out | apply below_alloc | apply pw_below_drewN | apply below_drew1 | refine below_set ?_ GE683.out | refine below_set ?_ GE690.out) | exact HB.out))) : w.heap.size ≤ gb698)); have n12_ := Aside0.mk ((by rw [hg]; exact (below_size (by repeat (first | (with_reducible first | exact HB.out | apply below_alloc | apply pw_below_drewN | apply below_drew1 | refine below_set ?_ GE683.out | refine below_set ?_ GE690.out) | exact HB.out))) : w.heap.size ≤ gb698)); have n13_ := Aside0.mk ((by rw [hg]; exact Nat.ne_of_lt (blk_lt (g := gb683) (o := .cells #[.slice Ao12 t674.length co12, .slice Ao14 t677.length co14] 26 (0, 0)) (pK BK683.out)) : gb683 ≠ gb698)); have n14_ := Aside0.mk ((by rw [hg]; exact Nat.ne_of_gt (blk_lt (g := gb683) (o := .cells #[.slice Ao12 t674.length co12, .slice Ao14 t677.length co14] 26 (0, 0)) (pK BK683.out)) : gb698 ≠ gb683)); have n15_ := Aside0.mk ((by rw [hg]; exact Nat.ne_of_lt (blk_lt (g := gb690) (o := .cells #[.slice Ao18 t684.length co18, .slice Ao21 t687.length co21] 26 (0, 0)) (pK BK690.out)) : gb690 ≠ gb698)); have n16_ := Aside0.mk ((by rw [hg]; exact Nat.ne_of_gt (blk_lt (g := gb690) (o := .cells #[.slice Ao18 t684.length co18, .slice Ao21 t687.length co21] 26 (0, 0)) (pK BK690.out)) : gb698 ≠ gb690)); clear HO676; clear HO679; clear HO682; clear HO686; clear HO689; clear HO694; clear HO697; clear BK683; clear BK690; clear HB; have HO676 := n0_; have HO679 := n1_; have HO682 := n2_; have HO686 := n3_; have HO689 := n4_; have HO694 := n5_; have HO697 := n6_; have BK683 := n7_; have BK690 := n8_; have HB := n9_; have BK698 := n10_; have GW698 := n11_; have GE698 := n12_; have NB683_698 := n13_; have NB698_683 := n14_; have NB690_698 := n15_; have NB698_690 := n16_; clear n0_ n1_ n2_ n3_ n4_ n5_ n6_ n7_ n8_ n9_ n10_ n11_ n12_ n13_ n14_ n15_ n16_; clear hb hbox hg; obtain ⟨Ao27, co27, eo27⟩ := Kd.R_slice HO694.out; subst eo27; have hnb28 := NB698_683.out; have hnc28 := NB683_698.out; have hnb29 := NB698_690.out; have hnc29 := NB690_698.out; have hcz30_0 : w26.cell? ⟨gb698, 0, none⟩ = some (.slice none 0 0) := (blk_cell BK698.out 0).trans rfl; have hcz30_1 : w26.cell? ⟨gb698, 1, none⟩ = some (.slice none 0 0) := (blk_cell BK698.out 1).trans rfl; have hfz30_0 := blk_frozen BK698.out 0; have hfz30_1 := blk_frozen BK698.out 1; obtain ⟨Ao31, co31, eo31⟩ := Kd.R_slice HO697.out; subst eo31; have hcz32_0 : w26.cell? ⟨gb690, 0, none⟩ = some (.slice Ao18 t684.length co18) := (blk_cell BK690.out 0).trans rfl; have hcz32_1 : w26.cell? ⟨gb690, 1, none⟩ = some (.slice Ao21 t687.length co21) := (blk_cell BK690.out 1).trans rfl; have hfz32_0 := blk_frozen BK690.out 0; have hfz32_1 := blk_frozen BK690.out 1) | (go_at_call 31; (with_reducible refine (laws_lpSec.calls kj1 _ _ t692 _ _ t695 _ _ t684 _ _ t687 t699 _ ?side1 ?side2 ?side3 ?side4 ?side5 ?side6 ?side7 ?side8 A8.out).mono ?_); (case side1 => refine (Kd.R_reads' (e := 9) (base := w.heap.size) (ok := fun k_ => ((True ∧ some k_ ≠ (.slice Ao12 t674.length co12 : Value).ownBlock) ∧ some k_ ≠ (.slice Ao18 t684.length co18 : Value).ownBlock)) (n := t692.length) (c := co27) ?_).2.2; exact (pR (Kd.R_mono (Kd.R_far (p := ⟨gb698, 1, none⟩) (Kd.R_far (p := ⟨gb698, 0, none⟩) (Kd.R_types HO694.out BK698.out (by decide)) (fun _ hk => hk.2) (.slice Ao27 t692.length co27)) (fun _ hk => hk.2) (.slice Ao31 t695.length co31)) (fun _ h_ => h_.1)))); (case side2 => exact (Kd.R_reads' HO694.out).2.1); (case side3 => refine (Kd.R_reads' (e := 54) (base := w.heap.size) (ok := fun k_ => ((True ∧ some k_ ≠ (.slice Ao14 t677.length co14 : Value).ownBlock) ∧ some k_ ≠ (.slice Ao21 t687.length co21 : Value).ownBlock)) (n := t695.length) (c := co31) ?_).2.2; exact (pR (Kd.R_mono (Kd.R_far (p := ⟨gb698, 1, none⟩) (Kd.R_far (p := ⟨gb698, 0, none⟩) (Kd.R_types HO697.out BK698.out (by decide)) (fun _ hk => hk.2) (.slice Ao27 t692.length co27)) (fun _ hk => hk.2) (.slice Ao31 t695.length co31)) (fun _ h_ => h_.1)))); (case side4 => exact (Kd.R_reads' HO697.out).2.1); (case side5 => refine (Kd.R_reads' (e := 9) (base := w.heap.size) (ok := fun k_ => ((True ∧ some k_ ≠ (.slice Ao12 t674.length co12 : Value).ownBlock) ∧ some k_ ≠ (.slice Ao27 t692.length co27 : Value).ownBlock)) (n := t684.length) (c := co18) ?_).2.2; exact (pR (Kd.R_mono (Kd.R_far (p := ⟨gb698, 1, none⟩) (Kd.R_far (p := ⟨gb698, 0, none⟩) (Kd.R_types HO686.out BK698.out (by decide)) (fun _ hk => hk.2) (.slice Ao27 t692.length co27)) (fun _ hk => hk.2) (.slice Ao31 t695.length co31)) (fun _ h_ => h_.1)))); (case side6 => exact (Kd.R_reads' HO686.out).2.1); (case side7 => refine (Kd.R_reads' (e := 54) (base := w.heap.size) (ok := fun k_ => ((True ∧ some k_ ≠ (.slice Ao14 t677.length co14 : Value).ownBlock) ∧ some k_ ≠ (.slice Ao31 t695.length co31 : Value).ownBlock)) (n := t687.length) (c := co21) ?_).2.2; exact (pR (Kd.R_mono (Kd.R_far (p := ⟨gb698, 1, none⟩) (Kd.R_far (p := ⟨gb698, 0, none⟩) (Kd.R_types HO689.out BK698.out (by decide)) (fun _ hk => hk.2) (.slice Ao27 t692.length co27)) (fun _ hk => hk.2) (.slice Ao31 t695.length co31)) (fun _ h_ => h_.1)))); (case side8 => exact (Kd.R_reads' HO689.out).2.1); rintro e w33 ⟨rfl, hb⟩; have n0_ := Aside0.mk (Kd.R_below (pR (Kd.R_mono (Kd.R_far (p := ⟨gb698, 1, none⟩) (Kd.R_far (p := ⟨gb698, 0, none⟩) (Kd.R_types HO676.out BK698.out (by decide)) (fun _ hk => hk.2) (.slice Ao27 t692.length co27)) (fun _ hk => hk.2) (.slice Ao31 t695.length co31)) (fun _ h_ => h_.1))) hb); have n1_ := Aside0.mk (Kd.R_below (pR (Kd.R_mono (Kd.R_far (p := ⟨gb698, 1, none⟩) (Kd.R_far (p := ⟨gb698, 0, none⟩) (Kd.R_types HO679.out BK698.out (by decide)) (fun _ hk => hk.2) (.slice Ao27 t692.length co27)) (fun _ hk => hk.2) (.slice Ao31 t695.length co31)) (fun _ h_ => h_.1))) hb); have n2_ := Aside0.mk (Kd.R_below (pR (Kd.R_mono (Kd.R_far (p := ⟨gb698, 1, none⟩) (Kd.R_far (p := ⟨gb698, 0, none⟩) (Kd.R_types HO682.out BK698.out (by decide)) (fun _ hk => hk.2) (.slice Ao27 t692.length co27)) (fun _ hk => hk.2) (.slice Ao31 t695.length co31)) (fun _ h_ => h_.1))) hb); have n3_ := Aside0.mk (Kd.R_below (pR (Kd.R_mono (Kd.R_far (p := ⟨gb698, 1, none⟩) (Kd.R_far (p := ⟨gb698, 0, none⟩) (Kd.R_types HO686.out BK698.out (by decide)) (fun _ hk => hk.2) (.slice Ao27 t692.length co27)) (fun _ hk => hk.2) (.slice Ao31 t695.length co31)) (fun _ h_ => h_.1))) hb); have n4_ := Aside0.mk (Kd.R_below (pR (Kd.R_mono (Kd.R_far (p := ⟨gb698, 1, none⟩) (Kd.R_far (p := ⟨gb698, 0, none⟩) (Kd.R_types HO689.out BK698.out (by decide)) (fun _ hk => hk.2) (.slice Ao27 t692.length co27)) (fun _ hk => hk.2) (.slice Ao31 t695.length co31)) (fun _ h_ => h_.1))) hb); have n5_ := Aside0.mk (Kd.R_below (pR (Kd.R_mono (Kd.R_far (p := ⟨gb698, 1, none⟩) (Kd.R_far (p := ⟨gb698, 0, none⟩) (Kd.R_types HO694.out BK698.out (by decide)) (fun _ hk => hk.2) (.slice Ao27 t692.length co27)) (fun _ hk => hk.2) (.slice Ao31 t695.length co31)) (fun _ h_ => h_.1))) hb); have n6_ := Aside0.mk (Kd.R_below (pR (Kd.R_mono (Kd.R_far (p := ⟨gb698, 1, none⟩) (Kd.R_far (p := ⟨gb698, 0, none⟩) (Kd.R_types HO697.out BK698.out (by decide)) (fun _ hk => hk.2) (.slice Ao27 t692.length co27)) (fun _ hk => hk.2) (.slice Ao31 t695.length co31)) (fun _ h_ => h_.1))) hb); have n7_ := Aside0.mk (blk_below (g := gb683) (o := .cells #[.slice Ao12 t674.length co12, .slice Ao14 t677.length co14] 26 (0, 0)) (by (with_reducible repeat (first | refine blk_drewN ?_ _ | refine blk_drew ?_ | refine blk_alloc ?_ _)); refine blk_far ?_ NB683_698.out _; (with_reducible repeat (first | refine blk_drewN ?_ _ | refine blk_drew ?_ | refine blk_alloc ?_ _)); refine blk_far ?_ NB683_698.out _; (with_reducible repeat (first | refine blk_drewN ?_ _ | refine blk_drew ?_ | refine blk_alloc ?_ _)); exact BK683.out) hb); have n8_ := Aside0.mk (blk_below (g := gb690) (o := .cells #[.slice Ao18 t684.length co18, .slice Ao21 t687.length co21] 26 (0, 0)) (by (with_reducible repeat (first | refine blk_drewN ?_ _ | refine blk_drew ?_ | refine blk_alloc ?_ _)); refine blk_far ?_ NB690_698.out _; (with_reducible repeat (first | refine blk_drewN ?_ _ | refine blk_drew ?_ | refine blk_alloc ?_ _)); refine blk_far ?_ NB690_698.out _; (with_reducible repeat (first | refine blk_drewN ?_ _ | refine blk_drew ?_ | refine blk_alloc ?_ _)); exact BK690.out) hb); have n9_ := Aside0.mk (blk_below (g := gb698) (o := .cells #[.slice Ao27 t692.length co27, .slice Ao31 t695.length co31] 26 (0, 0)) (by (with_reducible repeat (first | refine blk_drewN ?_ _ | refine blk_drew ?_ | refine blk_alloc ?_ _)); refine blk_put (cs := #[.slice Ao27 t692.length co27, .slice none 0 0]) ?_ 1 _ rfl; (with_reducible repeat (first | refine blk_drewN ?_ _ | refine blk_drew ?_ | refine blk_alloc ?_ _)); refine blk_put (cs := #[.slice none 0 0, .slice none 0 0]) ?_ 0 _ rfl; (with_reducible repeat (first | refine blk_drewN ?_ _ | refine blk_drew ?_ | refine blk_alloc ?_ _)); exact BK698.out) hb); have n10_ := Aside0.mk (below_step (by repeat (first | (with_reducible first | exact HB.out | apply below_alloc | apply pw_below_drewN | apply below_drew1 | refine below_set ?_ GE683.out | refine below_set ?_ GE690.out | refine below_set ?_ GE698.out) | exact HB.out)) hb); clear HO676; clear HO679; clear HO682; clear HO686; clear HO689; clear HO694; clear HO697; clear BK683; clear BK690; clear BK698; clear HB; have HO676 := n0_; have HO679 := n1_; have HO682 := n2_; have HO686 := n3_; have HO689 := n4_; have HO694 := n5_; have HO697 := n6_; have BK683 := n7_; have BK690 := n8_; have BK698 := n9_; have HB := n10_; clear n0_ n1_ n2_ n3_ n4_ n5_ n6_ n7_ n8_ n9_ n10_; (try clear hb); (try clear hb2); (try clear hk); (try clear hi)))
   repeat (go_quiet (first | (go_at_call 33; (with_reducible refine (spec_DrawSecCut.calls kj1 _ _ l0 t674 t677 t680 _ ?side1 ?side2 A4.out).mono ?_); (case side1 => repeat (first | exact (Kd.C_below HR0.out HB.out) | (with_reducible refine Kd.C_alloc ?_ _) | (with_reducible refine Kd.C_drewN ?_ _) | (with_reducible refine Kd.C_drew ?_))); (case side2 => exact HC0.out); rintro e w10 ⟨v675, v678, v681, rfl, ho0, ho1, ho2, hb⟩; have n0_ := Aside0.mk (Kd.R_lower ho0 (below_size (pB HB.out))); have n1_ := Aside0.mk (Kd.R_lower ho1 (below_size (pB HB.out))); have n2_ := Aside0.mk (Kd.R_lower ho2 (below_size (pB HB.out))); have n3_ := Aside0.mk (below_step (pB HB.out) hb); clear HB; have HO676 := n0_; have HO679 := n1_; have HO682 := n2_; have HB := n3_; clear n0_ n1_ n2_ n3_; (try clear hb); (try clear hb2); (try clear hk); (try clear hi); (try clear ho0); (try clear ho1); (try clear ho2)) | ((with_reducible refine gate_dst (N := 3) rfl ?_); (try (refine gate_guard (by rfl) ?_; dsimp only)); refine box_event ?hg (N := 3) ?hd (cs := #[.slice none 0 0, .slice none 0 0]) (t := 26) ?hr ?_; (case hd => rfl); (case hg => rfl); (case hr => first | (go_simp; done) | (go_simp; rfl)); intro gb683 hg w11 hbox hb; have n0_ := Aside0.mk (Kd.R_below (pR HO676.out) hb); have n1_ := Aside0.mk (Kd.R_below (pR HO679.out) hb); have n2_ := Aside0.mk (Kd.R_below (pR HO682.out) hb); have n3_ := Aside0.mk (below_step (pB HB.out) hb); have n4_ := Aside0.mk (hbox); have n5_ := Aside0.mk ((by rw [hg]; exact (below_size (pB HB.out)) : w.heap.size ≤ gb683)); have n6_ := Aside0.mk ((by rw [hg]; exact (below_size (pB HB.out)) : w.heap.size ≤ gb683)); clear HO676; clear HO679; clear HO682; clear HB; have HO676 := n0_; have HO679 := n1_; have HO682 := n2_; have HB := n3_; have BK683 := n4_; have GW683 := n5_; have GE683 := n6_; clear n0_ n1_ n2_ n3_ n4_ n5_ n6_; clear hb hbox hg; obtain ⟨Ao12, co12, eo12⟩ := Kd.R_slice HO676.out; subst eo12; have hcz13_0 : w11.cell? ⟨gb683, 0, none⟩ = some (.slice none 0 0) := (blk_cell BK683.out 0).trans rfl; have hcz13_1 : w11.cell? ⟨gb683, 1, none⟩ = some (.slice none 0 0) := (blk_cell BK683.out 1).trans rfl; have hfz13_0 := blk_frozen BK683.out 0; have hfz13_1 := blk_frozen BK683.out 1; obtain ⟨Ao14, co14, eo14⟩ := Kd.R_slice HO679.out; subst eo14; obtain ⟨Ao15, co15, eo15⟩ := Kd.R_slice HO682.out; subst eo15) | (go_at_call 34; (with_reducible refine (spec_SecCut.calls kj1 _ _ t674 _ _ t677 _ _ t680 t684 t687 _ ?side1 ?side2 ?side3 ?side4 ?side5 ?side6 A5.out).mono ?_); (case side1 => refine (Kd.R_reads' (e := 9) (base := w.heap.size) (ok := fun k_ => True) (n := t674.length) (c := co12) ?_).2.2; exact (pR (Kd.R_mono (Kd.R_far (p := ⟨gb683, 1, none⟩) (Kd.R_far (p := ⟨gb683, 0, none⟩) (Kd.R_types HO676.out BK683.out (by decide)) (fun _ hk => hk.2) (.slice Ao12 t674.length co12)) (fun _ hk => hk.2) (.slice Ao14 t677.length co14)) (fun _ h_ => h_.1)))); (case side2 => exact (Kd.R_reads' HO676.out).2.1); (case side3 => refine (Kd.R_reads' (e := 54) (base := w.heap.size) (ok := fun k_ => True) (n := t677.length) (c := co14) ?_).2.2; exact (pR (Kd.R_mono (Kd.R_far (p := ⟨gb683, 1, none⟩) (Kd.R_far (p := ⟨gb683, 0, none⟩) (Kd.R_types HO679.out BK683.out (by decide)) (fun _ hk => hk.2) (.slice Ao12 t674.length co12)) (fun _ hk => hk.2) (.slice Ao14 t677.length co14)) (fun _ h_ => h_.1)))); (case side4 => exact (Kd.R_reads' HO679.out).2.1); (case side5 => refine (Kd.R_reads' (e := 3) (base := w.heap.size) (ok := fun k_ => True) (n := t680.length) (c := co15) ?_).2.2; exact (pR (Kd.R_mono (Kd.R_far (p := ⟨gb683, 1, none⟩) (Kd.R_far (p := ⟨gb683, 0, none⟩) (Kd.R_types HO682.out BK683.out (by decide)) (fun _ hk => hk.2) (.slice Ao12 t674.length co12)) (fun _ hk => hk.2) (.slice Ao14 t677.length co14)) (fun _ h_ => h_.1)))); (case side6 => exact (Kd.R_reads' HO682.out).2.1); rintro e w16 ⟨v685, v688, rfl, ho0, ho1, hb⟩; have n0_ := Aside0.mk (Kd.R_elder' (pR (Kd.R_mono (Kd.R_far (p := ⟨gb683, 1, none⟩) (Kd.R_far (p := ⟨gb683, 0, none⟩) (Kd.R_types HO676.out BK683.out (by decide)) (fun _ hk => hk.2) (.slice Ao12 t674.length co12)) (fun _ hk => hk.2) (.slice Ao14 t677.length co14)) (fun _ h_ => h_.1))) (Kd.R_base ho0) hb); have n1_ := Aside0.mk (Kd.R_elder' (pR (Kd.R_mono (Kd.R_far (p := ⟨gb683, 1, none⟩) (Kd.R_far (p := ⟨gb683, 0, none⟩) (Kd.R_types HO679.out BK683.out (by decide)) (fun _ hk => hk.2) (.slice Ao12 t674.length co12)) (fun _ hk => hk.2) (.slice Ao14 t677.length co14)) (fun _ h_ => h_.1))) (Kd.R_base ho1) hb); have n2_ := Aside0.mk (Kd.R_below (pR (Kd.R_mono (Kd.R_far (p := ⟨gb683, 1, none⟩) (Kd.R_far (p := ⟨gb683, 0, none⟩) (Kd.R_types HO682.out BK683.out (by decide)) (fun _ hk => hk.2) (.slice Ao12 t674.length co12)) (fun _ hk => hk.2) (.slice Ao14 t677.length co14)) (fun _ h_ => h_.1))) hb); have n3_ := Aside0.mk (Kd.R_lower (Kd.R_new' ho0 (Kd.R_lt (pR (Kd.R_mono (Kd.R_far (p := ⟨gb683, 1, none⟩) (Kd.R_far (p := ⟨gb683, 0, none⟩) (Kd.R_types HO676.out BK683.out (by decide)) (fun _ hk => hk.2) (.slice Ao12 t674.length co12)) (fun _ hk => hk.2) (.slice Ao14 t677.length co14)) (fun _ h_ => h_.1))))) (below_size (by repeat (first | (with_reducible first | exact HB.out | apply below_alloc | apply pw_below_drewN | apply below_drew1 | refine below_set ?_ GE683.out) | exact HB.out)))); have n4_ := Aside0.mk (Kd.R_lower (Kd.R_new' ho1 (Kd.R_lt (pR (Kd.R_mono (Kd.R_far (p := ⟨gb683, 1, none⟩) (Kd.R_far (p := ⟨gb683, 0, none⟩) (Kd.R_types HO679.out BK683.out (by decide)) (fun _ hk => hk.2) (.slice Ao12 t674.length co12)) (fun _ hk => hk.2) (.slice Ao14 t677.length co14)) (fun _ h_ => h_.1))))) (below_size (by repeat (first | (with_reducible first | exact HB.out | apply below_alloc | apply pw_below_drewN | apply below_drew1 | refine below_set ?_ GE683.out) | exact HB.out)))); have n5_ := Aside0.mk (blk_below (g := gb683) (o := .cells #[.slice Ao12 t674.length co12, .slice Ao14 t677.length co14] 26 (0, 0)) (by (with_reducible repeat (first | refine blk_drewN ?_ _ | refine blk_drew ?_ | refine blk_alloc ?_ _)); refine blk_put (cs := #[.slice Ao12 t674.length co12, .slice none 0 0]) ?_ 1 _ rfl; (with_reducible repeat (first | refine blk_drewN ?_ _ | refine blk_drew ?_ | refine blk_alloc ?_ _)); refine blk_put (cs := #[.slice none 0 0, .slice none 0 0]) ?_ 0 _ rfl; (with_reducible repeat (first | refine blk_drewN ?_ _ | refine blk_drew ?_ | refine blk_alloc ?_ _)); exact BK683.out) hb); have n6_ := Aside0.mk (below_step (by repeat (first | (with_reducible first | exact HB.out | apply below_alloc | apply pw_below_drewN | apply below_drew1 | refine below_set ?_ GE683.out) | exact HB.out)) hb); clear HO676; clear HO679; clear HO682; clear BK683; clear HB; have HO676 := n0_; have HO679 := n1_; have HO682 := n2_; have HO686 := n3_; have HO689 := n4_; have BK683 := n5_; have HB := n6_; clear n0_ n1_ n2_ n3_ n4_ n5_ n6_; (try clear hb); (try clear hb2); (try clear hk); (try clear hi); (try clear ho0); (try clear ho1)) | ((with_reducible refine gate_dst (N := 5) rfl ?_); (try (refine gate_guard (by rfl) ?_; dsimp only)); refine box_event ?hg (N := 5) ?hd (cs := #[.slice none 0 0, .slice none 0 0]) (t := 26) ?hr ?_; (case hd => rfl); (case hg => rfl); (case hr => first | (go_simp; done) | (go_simp; rfl)); intro gb690 hg w17 hbox hb; have n0_ := Aside0.mk (Kd.R_below (pR HO676.out) hb); have n1_ := Aside0.mk (Kd.R_below (pR HO679.out) hb); have n2_ := Aside0.mk (Kd.R_below (pR HO682.out) hb); have n3_ := Aside0.mk (Kd.R_below (pR HO686.out) hb); have n4_ := Aside0.mk (Kd.R_below (pR HO689.out) hb); have n5_ := Aside0.mk (blk_below (g := gb683) (o := .cells #[.slice Ao12 t674.length co12, .slice Ao14 t677.length co14] 26 (0, 0)) (pK BK683.out) hb); have n6_ := Aside0.mk (below_step (by repeat (first | (with_reducible first | exact HB.out | apply below_alloc | apply pw_below_drewN | apply below_drew1 | refine below_set ?_ GE683.out) | exact HB.out)) hb); have n7_ := Aside0.mk (hbox); have n8_ := Aside0.mk ((by rw [hg]; exact (below_size (by repeat (first | (with_reducible first | exact HB.out | apply below_alloc | apply pw_below_drewN | apply below_drew1 | refine below_set ?_ GE683.out) | exact HB.out))) : w.heap.size ≤ gb690)); have n9_ := Aside0.mk ((by rw [hg]; exact (below_size (by repeat (first | (with_reducible first | exact HB.out | apply below_alloc | apply pw_below_drewN | apply below_drew1 | refine below_set ?_ GE683.out) | exact HB.out))) : w.heap.size ≤ gb690)); have n10_ := Aside0.mk ((by rw [hg]; exact Nat.ne_of_lt (blk_lt (g := gb683) (o := .cells #[.slice Ao12 t674.length co12, .slice Ao14 t677.length co14] 26 (0, 0)) (pK BK683.out)) : gb683 ≠ gb690)); have n11_ := Aside0.mk ((by rw [hg]; exact Nat.ne_of_gt (blk_lt (g := gb683) (o := .cells #[.slice Ao12 t674.length co12, .slice Ao14 t677.length co14] 26 (0, 0)) (pK BK683.out)) : gb690 ≠ gb683)); clear HO676; clear HO679; clear HO682; clear HO686; clear HO689; clear BK683; clear HB; have HO676 := n0_; have HO679 := n1_; have HO682 := n2_; have HO686 := n3_; have HO689 := n4_; have BK683 := n5_; have HB := n6_; have BK690 := n7_; have GW690 := n8_; have GE690 := n9_; have NB683_690 := n10_; have NB690_683 := n11_; clear n0_ n1_ n2_ n3_ n4_ n5_ n6_ n7_ n8_ n9_ n10_ n11_; clear hb hbox hg; obtain ⟨Ao18, co18, eo18⟩ := Kd.R_slice HO686.out; subst eo18; have hnb19 := NB690_683.out; have hnc19 := NB683_690.out; have hcz20_0 : w17.cell? ⟨gb690, 0, none⟩ = some (.slice none 0 0) := (blk_cell BK690.out 0).trans rfl; have hcz20_1 : w17.cell? ⟨gb690, 1, none⟩ = some (.slice none 0 0) := (blk_cell BK690.out 1).trans rfl; have hfz20_0 := blk_frozen BK690.out 0; have hfz20_1 := blk_frozen BK690.out 1; obtain ⟨Ao21, co21, eo21⟩ := Kd.R_slice HO689.out; subst eo21; have hcz22_0 : w17.cell? ⟨gb683, 0, none⟩ = some (.slice Ao12 t674.length co12) := (blk_cell BK683.out 0).trans rfl; have hcz22_1 : w17.cell? ⟨gb683, 1, none⟩ = some (.slice Ao14 t677.length co14) := (blk_cell BK683.out 1).trans rfl; have hfz22_0 := blk_frozen BK683.out 0; have hfz22_1 := blk_frozen BK683.out 1) | (go_at_call 23; (with_reducible refine (spec_SecOk.calls kj1 _ _ t674 _ _ t677 t691 _ ?side1 ?side2 ?side3 ?side4 A6.out).mono ?_); (case side1 => refine (Kd.R_reads' (e := 9) (base := w.heap.size) (ok := fun k_ => (True ∧ some k_ ≠ (.slice Ao18 t684.length co18 : Value).ownBlock)) (n := t674.length) (c := co12) ?_).2.2; exact (pR (Kd.R_mono (Kd.R_far (p := ⟨gb690, 1, none⟩) (Kd.R_far (p := ⟨gb690, 0, none⟩) (Kd.R_types HO676.out BK690.out (by decide)) (fun _ hk => hk.2) (.slice Ao18 t684.length co18)) (fun _ hk => hk.2) (.slice Ao21 t687.length co21)) (fun _ h_ => h_.1)))); (case side2 => exact (Kd.R_reads' HO676.out).2.1); (case side3 => refine (Kd.R_reads' (e := 54) (base := w.heap.size) (ok := fun k_ => (True ∧ some k_ ≠ (.slice Ao21 t687.length co21 : Value).ownBlock)) (n := t677.length) (c := co14) ?_).2.2; exact (pR (Kd.R_mono (Kd.R_far (p := ⟨gb690, 1, none⟩) (Kd.R_far (p := ⟨gb690, 0, none⟩) (Kd.R_types HO679.out BK690.out (by decide)) (fun _ hk => hk.2) (.slice Ao18 t684.length co18)) (fun _ hk => hk.2) (.slice Ao21 t687.length co21)) (fun _ h_ => h_.1)))); (case side4 => exact (Kd.R_reads' HO679.out).2.1); rintro e w23 ⟨rfl, hb⟩; have n0_ := Aside0.mk (Kd.R_below (pR (Kd.R_mono (Kd.R_far (p := ⟨gb690, 1, none⟩) (Kd.R_far (p := ⟨gb690, 0, none⟩) (Kd.R_types HO676.out BK690.out (by decide)) (fun _ hk => hk.2) (.slice Ao18 t684.length co18)) (fun _ hk => hk.2) (.slice Ao21 t687.length co21)) (fun _ h_ => h_.1))) hb); have n1_ := Aside0.mk (Kd.R_below (pR (Kd.R_mono (Kd.R_far (p := ⟨gb690, 1, none⟩) (Kd.R_far (p := ⟨gb690, 0, none⟩) (Kd.R_types HO679.out BK690.out (by decide)) (fun _ hk => hk.2) (.slice Ao18 t684.length co18)) (fun _ hk => hk.2) (.slice Ao21 t687.length co21)) (fun _ h_ => h_.1))) hb); have n2_ := Aside0.mk (Kd.R_below (pR (Kd.R_mono (Kd.R_far (p := ⟨gb690, 1, none⟩) (Kd.R_far (p := ⟨gb690, 0, none⟩) (Kd.R_types HO682.out BK690.out (by decide)) (fun _ hk => hk.2) (.slice Ao18 t684.length co18)) (fun _ hk => hk.2) (.slice Ao21 t687.length co21)) (fun _ h_ => h_.1))) hb); have n3_ := Aside0.mk (Kd.R_below (pR (Kd.R_mono (Kd.R_far (p := ⟨gb690, 1, none⟩) (Kd.R_far (p := ⟨gb690, 0, none⟩) (Kd.R_types HO686.out BK690.out (by decide)) (fun _ hk => hk.2) (.slice Ao18 t684.length co18)) (fun _ hk => hk.2) (.slice Ao21 t687.length co21)) (fun _ h_ => h_.1))) hb); have n4_ := Aside0.mk (Kd.R_below (pR (Kd.R_mono (Kd.R_far (p := ⟨gb690, 1, none⟩) (Kd.R_far (p := ⟨gb690, 0, none⟩) (Kd.R_types HO689.out BK690.out (by decide)) (fun _ hk => hk.2) (.slice Ao18 t684.length co18)) (fun _ hk => hk.2) (.slice Ao21 t687.length co21)) (fun _ h_ => h_.1))) hb); have n5_ := Aside0.mk (blk_below (g := gb683) (o := .cells #[.slice Ao12 t674.length co12, .slice Ao14 t677.length co14] 26 (0, 0)) (by (with_reducible repeat (first | refine blk_drewN ?_ _ | refine blk_drew ?_ | refine blk_alloc ?_ _)); refine blk_far ?_ NB683_690.out _; (with_reducible repeat (first | refine blk_drewN ?_ _ | refine blk_drew ?_ | refine blk_alloc ?_ _)); refine blk_far ?_ NB683_690.out _; (with_reducible repeat (first | refine blk_drewN ?_ _ | refine blk_drew ?_ | refine blk_alloc ?_ _)); exact BK683.out) hb); have n6_ := Aside0.mk (blk_below (g := gb690) (o := .cells #[.slice Ao18 t684.length co18, .slice Ao21 t687.length co21] 26 (0, 0)) (by (with_reducible repeat (first | refine blk_drewN ?_ _ | refine blk_drew ?_ | refine blk_alloc ?_ _)); refine blk_put (cs := #[.slice Ao18 t684.length co18, .slice none 0 0]) ?_ 1 _ rfl; (with_reducible repeat (first | refine blk_drewN ?_ _ | refine blk_drew ?_ | refine blk_alloc ?_ _)); refine blk_put (cs := #[.slice none 0 0, .slice none 0 0]) ?_ 0 _ rfl; (with_reducible repeat (first | refine blk_drewN ?_ _ | refine blk_drew ?_ | refine blk_alloc ?_ _)); exact BK690.out) hb); have n7_ := Aside0.mk (below_step (by repeat (first | (with_reducible first | exact HB.out | apply below_alloc | apply pw_below_drewN | apply below_drew1 | refine below_set ?_ GE683.out | refine below_set ?_ GE690.out) | exact HB.out)) hb); clear HO676; clear HO679; clear HO682; clear HO686; clear HO689; clear BK683; clear BK690; clear HB; have HO676 := n0_; have HO679 := n1_; have HO682 := n2_; have HO686 := n3_; have HO689 := n4_; have BK683 := n5_; have BK690 := n6_; have HB := n7_; clear n0_ n1_ n2_ n3_ n4_ n5_ n6_ n7_; (try clear hb); (try clear hb2); (try clear hk); (try clear hi); have hcz24_0 : w23.cell? ⟨gb683, 0, none⟩ = some (.slice Ao12 t674.length co12) := (blk_cell BK683.out 0).trans rfl; have hcz24_1 : w23.cell? ⟨gb683, 1, none⟩ = some (.slice Ao14 t677.length co14) := (blk_cell BK683.out 1).trans rfl; have hfz24_0 := blk_frozen BK683.out 0; have hfz24_1 := blk_frozen BK683.out 1) | (go_at_call 35; (with_reducible refine (impl_SecCut.calls kj1 _ _ t674 _ _ t677 _ _ t680 t692 t695 _ ?side1 ?side2 ?side3 ?side4 ?side5 ?side6 A7.out).mono ?_); (case side1 => exact pC (Kd.R_reads' HO676.out).2.2); (case side2 => exact (Kd.R_reads' HO676.out).2.1); (case side3 => exact pC (Kd.R_reads' HO679.out).2.2); (case side4 => exact (Kd.R_reads' HO679.out).2.1); (case side5 => exact pC (Kd.R_reads' HO682.out).2.2); (case side6 => exact (Kd.R_reads' HO682.out).2.1); rintro e w25 ⟨v693, v696, rfl, ho0, ho1, hb⟩; have n0_ := Aside0.mk (Kd.R_elder' (pR HO676.out) (Kd.R_base ho0) hb); have n1_ := Aside0.mk (Kd.R_elder' (pR HO679.out) (Kd.R_base ho1) hb); have n2_ := Aside0.mk (Kd.R_below (pR HO682.out) hb); have n3_ := Aside0.mk (Kd.R_elder' (pR HO686.out) (Kd.R_base ho0) hb); have n4_ := Aside0.mk (Kd.R_elder' (pR HO689.out) (Kd.R_base ho1) hb); have n5_ := Aside0.mk (Kd.R_lower (Kd.R_new' (Kd.R_new' ho0 (Kd.R_lt (pR HO676.out))) (Kd.R_lt (pR HO686.out))) (below_size (by repeat (first | (with_reducible first | exact HB.out | apply below_alloc | apply pw_below_drewN | apply below_drew1 | refine below_set ?_ GE683.out | refine below_set ?_ GE690.out) | exact HB.out)))); have n6_ := Aside0.mk (Kd.R_lower (Kd.R_new' (Kd.R_new' ho1 (Kd.R_lt (pR HO679.out))) (Kd.R_lt (pR HO689.out))) (below_size (by repeat (first | (with_reducible first | exact HB.out | apply below_alloc | apply pw_below_drewN | apply below_drew1 | refine below_set ?_ GE683.out | refine below_set ?_ GE690.out) | exact HB.out)))); have n7_ := Aside0.mk (blk_below (g := gb683) (o := .cells #[.slice Ao12 t674.length co12, .slice Ao14 t677.length co14] 26 (0, 0)) (pK BK683.out) hb); have n8_ := Aside0.mk (blk_below (g := gb690) (o := .cells #[.slice Ao18 t684.length co18, .slice Ao21 t687.length co21] 26 (0, 0)) (pK BK690.out) hb); have n9_ := Aside0.mk (below_step (by repeat (first | (with_reducible first | exact HB.out | apply below_alloc | apply pw_below_drewN | apply below_drew1 | refine below_set ?_ GE683.out | refine below_set ?_ GE690.out) | exact HB.out)) hb); clear HO676; clear HO679; clear HO682; clear HO686; clear HO689; clear BK683; clear BK690; clear HB; have HO676 := n0_; have HO679 := n1_; have HO682 := n2_; have HO686 := n3_; have HO689 := n4_; have HO694 := n5_; have HO697 := n6_; have BK683 := n7_; have BK690 := n8_; have HB := n9_; clear n0_ n1_ n2_ n3_ n4_ n5_ n6_ n7_ n8_ n9_; (try clear hb); (try clear hb2); (try clear hk); (try clear hi); (try clear ho0); (try clear ho1)) | ((with_reducible refine gate_dst (N := 7) rfl ?_); (try (refine gate_guard (by rfl) ?_; dsimp only)); refine box_event ?hg (N := 7) ?hd (cs := #[.slice none 0 0, .slice none 0 0]) (t := 26) ?hr ?_; (case hd => rfl); (case hg => rfl); (case hr => first | (go_simp; done) | (go_simp; rfl)); intro gb698 hg w26 hbox hb; have n0_ := Aside0.mk (Kd.R_below (pR HO676.out) hb); have n1_ := Aside0.mk (Kd.R_below (pR HO679.out) hb); have n2_ := Aside0.mk (Kd.R_below (pR HO682.out) hb); have n3_ := Aside0.mk (Kd.R_below (pR HO686.out) hb); have n4_ := Aside0.mk (Kd.R_below (pR HO689.out) hb); have n5_ := Aside0.mk (Kd.R_below (pR HO694.out) hb); have n6_ := Aside0.mk (Kd.R_below (pR HO697.out) hb); have n7_ := Aside0.mk (blk_below (g := gb683) (o := .cells #[.slice Ao12 t674.length co12, .slice Ao14 t677.length co14] 26 (0, 0)) (pK BK683.out) hb); have n8_ := Aside0.mk (blk_below (g := gb690) (o := .cells #[.slice Ao18 t684.length co18, .slice Ao21 t687.length co21] 26 (0, 0)) (pK BK690.out) hb); have n9_ := Aside0.mk (below_step (by repeat (first | (with_reducible first | exact HB.out | apply below_alloc | apply pw_below_drewN | apply below_drew1 | refine below_set ?_ GE683.out | refine below_set ?_ GE690.out) | exact HB.out)) hb); have n10_ := Aside0.mk (hbox); have n11_ := Aside0.mk ((by rw [hg]; exact (below_size (by repeat (first | (with_reducible first | exact HB.out | apply below_alloc | apply pw_below_drewN | apply below_drew1 | refine below_set ?_ GE683.out | refine below_set ?_ GE690.out) | exact HB.out))) : w.heap.size ≤ gb698)); have n12_ := Aside0.mk ((by rw [hg]; exact (below_size (by repeat (first | (with_reducible first | exact HB.out | apply below_alloc | apply pw_below_drewN | apply below_drew1 | refine below_set ?_ GE683.out | refine below_set ?_ GE690.out) | exact HB.out))) : w.heap.size ≤ gb698)); have n13_ := Aside0.mk ((by rw [hg]; exact Nat.ne_of_lt (blk_lt (g := gb683) (o := .cells #[.slice Ao12 t674.length co12, .slice Ao14 t677.length co14] 26 (0, 0)) (pK BK683.out)) : gb683 ≠ gb698)); have n14_ := Aside0.mk ((by rw [hg]; exact Nat.ne_of_gt (blk_lt (g := gb683) (o := .cells #[.slice Ao12 t674.length co12, .slice Ao14 t677.length co14] 26 (0, 0)) (pK BK683.out)) : gb698 ≠ gb683)); have n15_ := Aside0.mk ((by rw [hg]; exact Nat.ne_of_lt (blk_lt (g := gb690) (o := .cells #[.slice Ao18 t684.length co18, .slice Ao21 t687.length co21] 26 (0, 0)) (pK BK690.out)) : gb690 ≠ gb698)); have n16_ := Aside0.mk ((by rw [hg]; exact Nat.ne_of_gt (blk_lt (g := gb690) (o := .cells #[.slice Ao18 t684.length co18, .slice Ao21 t687.length co21] 26 (0, 0)) (pK BK690.out)) : gb698 ≠ gb690)); clear HO676; clear HO679; clear HO682; clear HO686; clear HO689; clear HO694; clear HO697; clear BK683; clear BK690; clear HB; have HO676 := n0_; have HO679 := n1_; have HO682 := n2_; have HO686 := n3_; have HO689 := n4_; have HO694 := n5_; have HO697 := n6_; have BK683 := n7_; have BK690 := n8_; have HB := n9_; have BK698 := n10_; have GW698 := n11_; have GE698 := n12_; have NB683_698 := n13_; have NB698_683 := n14_; have NB690_698 := n15_; have NB698_690 := n16_; clear n0_ n1_ n2_ n3_ n4_ n5_ n6_ n7_ n8_ n9_ n10_ n11_ n12_ n13_ n14_ n15_ n16_; clear hb hbox hg; obtain ⟨Ao27, co27, eo27⟩ := Kd.R_slice HO694.out; subst eo27; have hnb28 := NB698_683.out; have hnc28 := NB683_698.out; have hnb29 := NB698_690.out; have hnc29 := NB690_698.out; have hcz30_0 : w26.cell? ⟨gb698, 0, none⟩ = some (.slice none 0 0) := (blk_cell BK698.out 0).trans rfl; have hcz30_1 : w26.cell? ⟨gb698, 1, none⟩ = some (.slice none 0 0) := (blk_cell BK698.out 1).trans rfl; have hfz30_0 := blk_frozen BK698.out 0; have hfz30_1 := blk_frozen BK698.out 1; obtain ⟨Ao31, co31, eo31⟩ := Kd.R_slice HO697.out; subst eo31; have hcz32_0 : w26.cell? ⟨gb690, 0, none⟩ = some (.slice Ao18 t684.length co18) := (blk_cell BK690.out 0).trans rfl; have hcz32_1 : w26.cell? ⟨gb690, 1, none⟩ = some (.slice Ao21 t687.length co21) := (blk_cell BK690.out 1).trans rfl; have hfz32_0 := blk_frozen BK690.out 0; have hfz32_1 := blk_frozen BK690.out 1) | (go_at_call 31; (with_reducible refine (laws_lpSec.calls kj1 _ _ t692 _ _ t695 _ _ t684 _ _ t687 t699 _ ?side1 ?side2 ?side3 ?side4 ?side5 ?side6 ?side7 ?side8 A8.out).mono ?_); (case side1 => refine (Kd.R_reads' (e := 9) (base := w.heap.size) (ok := fun k_ => ((True ∧ some k_ ≠ (.slice Ao12 t674.length co12 : Value).ownBlock) ∧ some k_ ≠ (.slice Ao18 t684.length co18 : Value).ownBlock)) (n := t692.length) (c := co27) ?_).2.2; exact (pR (Kd.R_mono (Kd.R_far (p := ⟨gb698, 1, none⟩) (Kd.R_far (p := ⟨gb698, 0, none⟩) (Kd.R_types HO694.out BK698.out (by decide)) (fun _ hk => hk.2) (.slice Ao27 t692.length co27)) (fun _ hk => hk.2) (.slice Ao31 t695.length co31)) (fun _ h_ => h_.1)))); (case side2 => exact (Kd.R_reads' HO694.out).2.1); (case side3 => refine (Kd.R_reads' (e := 54) (base := w.heap.size) (ok := fun k_ => ((True ∧ some k_ ≠ (.slice Ao14 t677.length co14 : Value).ownBlock) ∧ some k_ ≠ (.slice Ao21 t687.length co21 : Value).ownBlock)) (n := t695.length) (c := co31) ?_).2.2; exact (pR (Kd.R_mono (Kd.R_far (p := ⟨gb698, 1, none⟩) (Kd.R_far (p := ⟨gb698, 0, none⟩) (Kd.R_types HO697.out BK698.out (by decide)) (fun _ hk => hk.2) (.slice Ao27 t692.length co27)) (fun _ hk => hk.2) (.slice Ao31 t695.length co31)) (fun _ h_ => h_.1)))); (case side4 => exact (Kd.R_reads' HO697.out).2.1); (case side5 => refine (Kd.R_reads' (e := 9) (base := w.heap.size) (ok := fun k_ => ((True ∧ some k_ ≠ (.slice Ao12 t674.length co12 : Value).ownBlock) ∧ some k_ ≠ (.slice Ao27 t692.length co27 : Value).ownBlock)) (n := t684.length) (c := co18) ?_).2.2; exact (pR (Kd.R_mono (Kd.R_far (p := ⟨gb698, 1, none⟩) (Kd.R_far (p := ⟨gb698, 0, none⟩) (Kd.R_types HO686.out BK698.out (by decide)) (fun _ hk => hk.2) (.slice Ao27 t692.length co27)) (fun _ hk => hk.2) (.slice Ao31 t695.length co31)) (fun _ h_ => h_.1)))); (case side6 => exact (Kd.R_reads' HO686.out).2.1); (case side7 => refine (Kd.R_reads' (e := 54) (base := w.heap.size) (ok := fun k_ => ((True ∧ some k_ ≠ (.slice Ao14 t677.length co14 : Value).ownBlock) ∧ some k_ ≠ (.slice Ao31 t695.length co31 : Value).ownBlock)) (n := t687.length) (c := co21) ?_).2.2; exact (pR (Kd.R_mono (Kd.R_far (p := ⟨gb698, 1, none⟩) (Kd.R_far (p := ⟨gb698, 0, none⟩) (Kd.R_types HO689.out BK698.out (by decide)) (fun _ hk => hk.2) (.slice Ao27 t692.length co27)) (fun _ hk => hk.2) (.slice Ao31 t695.length co31)) (fun _ h_ => h_.1)))); (case side8 => exact (Kd.R_reads' HO689.out).2.1); rintro e w33 ⟨rfl, hb⟩; have n0_ := Aside0.mk (Kd.R_below (pR (Kd.R_mono (Kd.R_far (p := ⟨gb698, 1, none⟩) (Kd.R_far (p := ⟨gb698, 0, none⟩) (Kd.R_types HO676.out BK698.out (by decide)) (fun _ hk => hk.2) (.slice Ao27 t692.length co27)) (fun _ hk => hk.2) (.slice Ao31 t695.length co31)) (fun _ h_ => h_.1))) hb); have n1_ := Aside0.mk (Kd.R_below (pR (Kd.R_mono (Kd.R_far (p := ⟨gb698, 1, none⟩) (Kd.R_far (p := ⟨gb698, 0, none⟩) (Kd.R_types HO679.out BK698.out (by decide)) (fun _ hk => hk.2) (.slice Ao27 t692.length co27)) (fun _ hk => hk.2) (.slice Ao31 t695.length co31)) (fun _ h_ => h_.1))) hb); have n2_ := Aside0.mk (Kd.R_below (pR (Kd.R_mono (Kd.R_far (p := ⟨gb698, 1, none⟩) (Kd.R_far (p := ⟨gb698, 0, none⟩) (Kd.R_types HO682.out BK698.out (by decide)) (fun _ hk => hk.2) (.slice Ao27 t692.length co27)) (fun _ hk => hk.2) (.slice Ao31 t695.length co31)) (fun _ h_ => h_.1))) hb); have n3_ := Aside0.mk (Kd.R_below (pR (Kd.R_mono (Kd.R_far (p := ⟨gb698, 1, none⟩) (Kd.R_far (p := ⟨gb698, 0, none⟩) (Kd.R_types HO686.out BK698.out (by decide)) (fun _ hk => hk.2) (.slice Ao27 t692.length co27)) (fun _ hk => hk.2) (.slice Ao31 t695.length co31)) (fun _ h_ => h_.1))) hb); have n4_ := Aside0.mk (Kd.R_below (pR (Kd.R_mono (Kd.R_far (p := ⟨gb698, 1, none⟩) (Kd.R_far (p := ⟨gb698, 0, none⟩) (Kd.R_types HO689.out BK698.out (by decide)) (fun _ hk => hk.2) (.slice Ao27 t692.length co27)) (fun _ hk => hk.2) (.slice Ao31 t695.length co31)) (fun _ h_ => h_.1))) hb); have n5_ := Aside0.mk (Kd.R_below (pR (Kd.R_mono (Kd.R_far (p := ⟨gb698, 1, none⟩) (Kd.R_far (p := ⟨gb698, 0, none⟩) (Kd.R_types HO694.out BK698.out (by decide)) (fun _ hk => hk.2) (.slice Ao27 t692.length co27)) (fun _ hk => hk.2) (.slice Ao31 t695.length co31)) (fun _ h_ => h_.1))) hb); have n6_ := Aside0.mk (Kd.R_below (pR (Kd.R_mono (Kd.R_far (p := ⟨gb698, 1, none⟩) (Kd.R_far (p := ⟨gb698, 0, none⟩) (Kd.R_types HO697.out BK698.out (by decide)) (fun _ hk => hk.2) (.slice Ao27 t692.length co27)) (fun _ hk => hk.2) (.slice Ao31 t695.length co31)) (fun _ h_ => h_.1))) hb); have n7_ := Aside0.mk (blk_below (g := gb683) (o := .cells #[.slice Ao12 t674.length co12, .slice Ao14 t677.length co14] 26 (0, 0)) (by (with_reducible repeat (first | refine blk_drewN ?_ _ | refine blk_drew ?_ | refine blk_alloc ?_ _)); refine blk_far ?_ NB683_698.out _; (with_reducible repeat (first | refine blk_drewN ?_ _ | refine blk_drew ?_ | refine blk_alloc ?_ _)); refine blk_far ?_ NB683_698.out _; (with_reducible repeat (first | refine blk_drewN ?_ _ | refine blk_drew ?_ | refine blk_alloc ?_ _)); exact BK683.out) hb); have n8_ := Aside0.mk (blk_below (g := gb690) (o := .cells #[.slice Ao18 t684.length co18, .slice Ao21 t687.length co21] 26 (0, 0)) (by (with_reducible repeat (first | refine blk_drewN ?_ _ | refine blk_drew ?_ | refine blk_alloc ?_ _)); refine blk_far ?_ NB690_698.out _; (with_reducible repeat (first | refine blk_drewN ?_ _ | refine blk_drew ?_ | refine blk_alloc ?_ _)); refine blk_far ?_ NB690_698.out _; (with_reducible repeat (first | refine blk_drewN ?_ _ | refine blk_drew ?_ | refine blk_alloc ?_ _)); exact BK690.out) hb); have n9_ := Aside0.mk (blk_below (g := gb698) (o := .cells #[.slice Ao27 t692.length co27, .slice Ao31 t695.length co31] 26 (0, 0)) (by (with_reducible repeat (first | refine blk_drewN ?_ _ | refine blk_drew ?_ | refine blk_alloc ?_ _)); refine blk_put (cs := #[.slice Ao27 t692.length co27, .slice none 0 0]) ?_ 1 _ rfl; (with_reducible repeat (first | refine blk_drewN ?_ _ | refine blk_drew ?_ | refine blk_alloc ?_ _)); refine blk_put (cs := #[.slice none 0 0, .slice none 0 0]) ?_ 0 _ rfl; (with_reducible repeat (first | refine blk_drewN ?_ _ | refine blk_drew ?_ | refine blk_alloc ?_ _)); exact BK698.out) hb); have n10_ := Aside0.mk (below_step (by repeat (first | (with_reducible first | exact HB.out | apply below_alloc | apply pw_below_drewN | apply below_drew1 | refine below_set ?_ GE683.out | refine below_set ?_ GE690.out | refine below_set ?_ GE698.out) | exact HB.out)) hb); clear HO676; clear HO679; clear HO682; clear HO686; clear HO689; clear HO694; clear HO697; clear BK683; clear BK690; clear BK698; clear HB; have HO676 := n0_; have HO679 := n1_; have HO682 := n2_; have HO686 := n3_; have HO689 := n4_; have HO694 := n5_; have HO697 := n6_; have BK683 := n7_; have BK690 := n8_; have BK698 := n9_; have HB := n10_; clear n0_ n1_ n2_ n3_ n4_ n5_ n6_ n7_ n8_ n9_ n10_; (try clear hb); (try clear hb2); (try clear hk); (try clear hi))); go_upto_if 30 with (first | (go_at_call 33; (with_reducible refine (spec_DrawSecCut.calls kj1 _ _ l0 t674 t677 t680 _ ?side1 ?side2 A4.out).mono ?_); (case side1 => repeat (first | exact (Kd.C_below HR0.out HB.out) | (with_reducible refine Kd.C_alloc ?_ _) | (with_reducible refine Kd.C_drewN ?_ _) | (with_reducible refine Kd.C_drew ?_))); (case side2 => exact HC0.out); rintro e w10 ⟨v675, v678, v681, rfl, ho0, ho1, ho2, hb⟩; have n0_ := Aside0.mk (Kd.R_lower ho0 (below_size (pB HB.out))); have n1_ := Aside0.mk (Kd.R_lower ho1 (below_size (pB HB.out))); have n2_ := Aside0.mk (Kd.R_lower ho2 (below_size (pB HB.out))); have n3_ := Aside0.mk (below_step (pB HB.out) hb); clear HB; have HO676 := n0_; have HO679 := n1_; have HO682 := n2_; have HB := n3_; clear n0_ n1_ n2_ n3_; (try clear hb); (try clear hb2); (try clear hk); (try clear hi); (try clear ho0); (try clear ho1); (try clear ho2)) | ((with_reducible refine gate_dst (N := 3) rfl ?_); (try (refine gate_guard (by rfl) ?_; dsimp only)); refine box_event ?hg (N := 3) ?hd (cs := #[.slice none 0 0, .slice none 0 0]) (t := 26) ?hr ?_; (case hd => rfl); (case hg => rfl); (case hr => first | (go_simp; done) | (go_simp; rfl)); intro gb683 hg w11 hbox hb; have n0_ := Aside0.mk (Kd.R_below (pR HO676.out) hb); have n1_ := Aside0.mk (Kd.R_below (pR HO679.out) hb); have n2_ := Aside0.mk (Kd.R_below (pR HO682.out) hb); have n3_ := Aside0.mk (below_step (pB HB.out) hb); have n4_ := Aside0.mk (hbox); have n5_ := Aside0.mk ((by rw [hg]; exact (below_size (pB HB.out)) : w.heap.size ≤ gb683)); have n6_ := Aside0.mk ((by rw [hg]; exact (below_size (pB HB.out)) : w.heap.size ≤ gb683)); clear HO676; clear HO679; clear HO682; clear HB; have HO676 := n0_; have HO679 := n1_; have HO682 := n2_; have HB := n3_; have BK683 := n4_; have GW683 := n5_; have GE683 := n6_; clear n0_ n1_ n2_ n3_ n4_ n5_ n6_; clear hb hbox hg; obtain ⟨Ao12, co12, eo12⟩ := Kd.R_slice HO676.out; subst eo12; have hcz13_0 : w11.cell? ⟨gb683, 0, none⟩ = some (.slice none 0 0) := (blk_cell BK683.out 0).trans rfl; have hcz13_1 : w11.cell? ⟨gb683, 1, none⟩ = some (.slice none 0 0) := (blk_cell BK683.out 1).trans rfl; have hfz13_0 := blk_frozen BK683.out 0; have hfz13_1 := blk_frozen BK683.out 1; obtain ⟨Ao14, co14, eo14⟩ := Kd.R_slice HO679.out; subst eo14; obtain ⟨Ao15, co15, eo15⟩ := Kd.R_slice HO682.out; subst eo15) | (go_at_call 34; (with_reducible refine (spec_SecCut.calls kj1 _ _ t674 _ _ t677 _ _ t680 t684 t687 _ ?side1 ?side2 ?side3 ?side4 ?side5 ?side6 A5.out).mono ?_); (case side1 => refine (Kd.R_reads' (e := 9) (base := w.heap.size) (ok := fun k_ => True) (n := t674.length) (c := co12) ?_).2.2; exact (pR (Kd.R_mono (Kd.R_far (p := ⟨gb683, 1, none⟩) (Kd.R_far (p := ⟨gb683, 0, none⟩) (Kd.R_types HO676.out BK683.out (by decide)) (fun _ hk => hk.2) (.slice Ao12 t674.length co12)) (fun _ hk => hk.2) (.slice Ao14 t677.length co14)) (fun _ h_ => h_.1)))); (case side2 => exact (Kd.R_reads' HO676.out).2.1); (case side3 => refine (Kd.R_reads' (e := 54) (base := w.heap.size) (ok := fun k_ => True) (n := t677.length) (c := co14) ?_).2.2; exact (pR (Kd.R_mono (Kd.R_far (p := ⟨gb683, 1, none⟩) (Kd.R_far (p := ⟨gb683, 0, none⟩) (Kd.R_types HO679.out BK683.out (by decide)) (fun _ hk => hk.2) (.slice Ao12 t674.length co12)) (fun _ hk => hk.2) (.slice Ao14 t677.length co14)) (fun _ h_ => h_.1)))); (case side4 => exact (Kd.R_reads' HO679.out).2.1); (case side5 => refine (Kd.R_reads' (e := 3) (base := w.heap.size) (ok := fun k_ => True) (n := t680.length) (c := co15) ?_).2.2; exact (pR (Kd.R_mono (Kd.R_far (p := ⟨gb683, 1, none⟩) (Kd.R_far (p := ⟨gb683, 0, none⟩) (Kd.R_types HO682.out BK683.out (by decide)) (fun _ hk => hk.2) (.slice Ao12 t674.length co12)) (fun _ hk => hk.2) (.slice Ao14 t677.length co14)) (fun _ h_ => h_.1)))); (case side6 => exact (Kd.R_reads' HO682.out).2.1); rintro e w16 ⟨v685, v688, rfl, ho0, ho1, hb⟩; have n0_ := Aside0.mk (Kd.R_elder' (pR (Kd.R_mono (Kd.R_far (p := ⟨gb683, 1, none⟩) (Kd.R_far (p := ⟨gb683, 0, none⟩) (Kd.R_types HO676.out BK683.out (by decide)) (fun _ hk => hk.2) (.slice Ao12 t674.length co12)) (fun _ hk => hk.2) (.slice Ao14 t677.length co14)) (fun _ h_ => h_.1))) (Kd.R_base ho0) hb); have n1_ := Aside0.mk (Kd.R_elder' (pR (Kd.R_mono (Kd.R_far (p := ⟨gb683, 1, none⟩) (Kd.R_far (p := ⟨gb683, 0, none⟩) (Kd.R_types HO679.out BK683.out (by decide)) (fun _ hk => hk.2) (.slice Ao12 t674.length co12)) (fun _ hk => hk.2) (.slice Ao14 t677.length co14)) (fun _ h_ => h_.1))) (Kd.R_base ho1) hb); have n2_ := Aside0.mk (Kd.R_below (pR (Kd.R_mono (Kd.R_far (p := ⟨gb683, 1, none⟩) (Kd.R_far (p := ⟨gb683, 0, none⟩) (Kd.R_types HO682.out BK683.out (by decide)) (fun _ hk => hk.2) (.slice Ao12 t674.length co12)) (fun _ hk => hk.2) (.slice Ao14 t677.length co14)) (fun _ h_ => h_.1))) hb); have n3_ := Aside0.mk (Kd.R_lower (Kd.R_new' ho0 (Kd.R_lt (pR (Kd.R_mono (Kd.R_far (p := ⟨gb683, 1, none⟩) (Kd.R_far (p := ⟨gb683, 0, none⟩) (Kd.R_types HO676.out BK683.out (by decide)) (fun _ hk => hk.2) (.slice Ao12 t674.length co12)) (fun _ hk => hk.2) (.slice Ao14 t677.length co14)) (fun _ h_ => h_.1))))) (below_size (by repeat (first | (with_reducible first | exact HB.out | apply below_alloc | apply pw_below_drewN | apply below_drew1 | refine below_set ?_ GE683.out) | exact HB.out)))); have n4_ := Aside0.mk (Kd.R_lower (Kd.R_new' ho1 (Kd.R_lt (pR (Kd.R_mono (Kd.R_far (p := ⟨gb683, 1, none⟩) (Kd.R_far (p := ⟨gb683, 0, none⟩) (Kd.R_types HO679.out BK683.out (by decide)) (fun _ hk => hk.2) (.slice Ao12 t674.length co12)) (fun _ hk => hk.2) (.slice Ao14 t677.length co14)) (fun _ h_ => h_.1))))) (below_size (by repeat (first | (with_reducible first | exact HB.out | apply below_alloc | apply pw_below_drewN | apply below_drew1 | refine below_set ?_ GE683.out) | exact HB.out)))); have n5_ := Aside0.mk (blk_below (g := gb683) (o := .cells #[.slice Ao12 t674.length co12, .slice Ao14 t677.length co14] 26 (0, 0)) (by (with_reducible repeat (first | refine blk_drewN ?_ _ | refine blk_drew ?_ | refine blk_alloc ?_ _)); refine blk_put (cs := #[.slice Ao12 t674.length co12, .slice none 0 0]) ?_ 1 _ rfl; (with_reducible repeat (first | refine blk_drewN ?_ _ | refine blk_drew ?_ | refine blk_alloc ?_ _)); refine blk_put (cs := #[.slice none 0 0, .slice none 0 0]) ?_ 0 _ rfl; (with_reducible repeat (first | refine blk_drewN ?_ _ | refine blk_drew ?_ | refine blk_alloc ?_ _)); exact BK683.out) hb); have n6_ := Aside0.mk (below_step (by repeat (first | (with_reducible first | exact HB.out | apply below_alloc | apply pw_below_drewN | apply below_drew1 | refine below_set ?_ GE683.out) | exact HB.out)) hb); clear HO676; clear HO679; clear HO682; clear BK683; clear HB; have HO676 := n0_; have HO679 := n1_; have HO682 := n2_; have HO686 := n3_; have HO689 := n4_; have BK683 := n5_; have HB := n6_; clear n0_ n1_ n2_ n3_ n4_ n5_ n6_; (try clear hb); (try clear hb2); (try clear hk); (try clear hi); (try clear ho0); (try clear ho1)) | ((with_reducible refine gate_dst (N := 5) rfl ?_); (try (refine gate_guard (by rfl) ?_; dsimp only)); refine box_event ?hg (N := 5) ?hd (cs := #[.slice none 0 0, .slice none 0 0]) (t := 26) ?hr ?_; (case hd => rfl); (case hg => rfl); (case hr => first | (go_simp; done) | (go_simp; rfl)); intro gb690 hg w17 hbox hb; have n0_ := Aside0.mk (Kd.R_below (pR HO676.out) hb); have n1_ := Aside0.mk (Kd.R_below (pR HO679.out) hb); have n2_ := Aside0.mk (Kd.R_below (pR HO682.out) hb); have n3_ := Aside0.mk (Kd.R_below (pR HO686.out) hb); have n4_ := Aside0.mk (Kd.R_below (pR HO689.out) hb); have n5_ := Aside0.mk (blk_below (g := gb683) (o := .cells #[.slice Ao12 t674.length co12, .slice Ao14 t677.length co14] 26 (0, 0)) (pK BK683.out) hb); have n6_ := Aside0.mk (below_step (by repeat (first | (with_reducible first | exact HB.out | apply below_alloc | apply pw_below_drewN | apply below_drew1 | refine below_set ?_ GE683.out) | exact HB.out)) hb); have n7_ := Aside0.mk (hbox); have n8_ := Aside0.mk ((by rw [hg]; exact (below_size (by repeat (first | (with_reducible first | exact HB.out | apply below_alloc | apply pw_below_drewN | apply below_drew1 | refine below_set ?_ GE683.out) | exact HB.out))) : w.heap.size ≤ gb690)); have n9_ := Aside0.mk ((by rw [hg]; exact (below_size (by repeat (first | (with_reducible first | exact HB.out | apply below_alloc | apply pw_below_drewN | apply below_drew1 | refine below_set ?_ GE683.out) | exact HB.out))) : w.heap.size ≤ gb690)); have n10_ := Aside0.mk ((by rw [hg]; exact Nat.ne_of_lt (blk_lt (g := gb683) (o := .cells #[.slice Ao12 t674.length co12, .slice Ao14 t677.length co14] 26 (0, 0)) (pK BK683.out)) : gb683 ≠ gb690)); have n11_ := Aside0.mk ((by rw [hg]; exact Nat.ne_of_gt (blk_lt (g := gb683) (o := .cells #[.slice Ao12 t674.length co12, .slice Ao14 t677.length co14] 26 (0, 0)) (pK BK683.out)) : gb690 ≠ gb683)); clear HO676; clear HO679; clear HO682; clear HO686; clear HO689; clear BK683; clear HB; have HO676 := n0_; have HO679 := n1_; have HO682 := n2_; have HO686 := n3_; have HO689 := n4_; have BK683 := n5_; have HB := n6_; have BK690 := n7_; have GW690 := n8_; have GE690 := n9_; have NB683_690 := n10_; have NB690_683 := n11_; clear n0_ n1_ n2_ n3_ n4_ n5_ n6_ n7_ n8_ n9_ n10_ n11_; clear hb hbox hg; obtain ⟨Ao18, co18, eo18⟩ := Kd.R_slice HO686.out; subst eo18; have hnb19 := NB690_683.out; have hnc19 := NB683_690.out; have hcz20_0 : w17.cell? ⟨gb690, 0, none⟩ = some (.slice none 0 0) := (blk_cell BK690.out 0).trans rfl; have hcz20_1 : w17.cell? ⟨gb690, 1, none⟩ = some (.slice none 0 0) := (blk_cell BK690.out 1).trans rfl; have hfz20_0 := blk_frozen BK690.out 0; have hfz20_1 := blk_frozen BK690.out 1; obtain ⟨Ao21, co21, eo21⟩ := Kd.R_slice HO689.out; subst eo21; have hcz22_0 : w17.cell? ⟨gb683, 0, none⟩ = some (.slice Ao12 t674.length co12) := (blk_cell BK683.out 0).trans rfl; have hcz22_1 : w17.cell? ⟨gb683, 1, none⟩ = some (.slice Ao14 t677.length co14) := (blk_cell BK683.out 1).trans rfl; have hfz22_0 := blk_frozen BK683.out 0; have hfz22_1 := blk_frozen BK683.out 1) | (go_at_call 23; (with_reducible refine (spec_SecOk.calls kj1 _ _ t674 _ _ t677 t691 _ ?side1 ?side2 ?side3 ?side4 A6.out).mono ?_); (case side1 => refine (Kd.R_reads' (e := 9) (base := w.heap.size) (ok := fun k_ => (True ∧ some k_ ≠ (.slice Ao18 t684.length co18 : Value).ownBlock)) (n := t674.length) (c := co12) ?_).2.2; exact (pR (Kd.R_mono (Kd.R_far (p := ⟨gb690, 1, none⟩) (Kd.R_far (p := ⟨gb690, 0, none⟩) (Kd.R_types HO676.out BK690.out (by decide)) (fun _ hk => hk.2) (.slice Ao18 t684.length co18)) (fun _ hk => hk.2) (.slice Ao21 t687.length co21)) (fun _ h_ => h_.1)))); (case side2 => exact (Kd.R_reads' HO676.out).2.1); (case side3 => refine (Kd.R_reads' (e := 54) (base := w.heap.size) (ok := fun k_ => (True ∧ some k_ ≠ (.slice Ao21 t687.length co21 : Value).ownBlock)) (n := t677.length) (c := co14) ?_).2.2; exact (pR (Kd.R_mono (Kd.R_far (p := ⟨gb690, 1, none⟩) (Kd.R_far (p := ⟨gb690, 0, none⟩) (Kd.R_types HO679.out BK690.out (by decide)) (fun _ hk => hk.2) (.slice Ao18 t684.length co18)) (fun _ hk => hk.2) (.slice Ao21 t687.length co21)) (fun _ h_ => h_.1)))); (case side4 => exact (Kd.R_reads' HO679.out).2.1); rintro e w23 ⟨rfl, hb⟩; have n0_ := Aside0.mk (Kd.R_below (pR (Kd.R_mono (Kd.R_far (p := ⟨gb690, 1, none⟩) (Kd.R_far (p := ⟨gb690, 0, none⟩) (Kd.R_types HO676.out BK690.out (by decide)) (fun _ hk => hk.2) (.slice Ao18 t684.length co18)) (fun _ hk => hk.2) (.slice Ao21 t687.length co21)) (fun _ h_ => h_.1))) hb); have n1_ := Aside0.mk (Kd.R_below (pR (Kd.R_mono (Kd.R_far (p := ⟨gb690, 1, none⟩) (Kd.R_far (p := ⟨gb690, 0, none⟩) (Kd.R_types HO679.out BK690.out (by decide)) (fun _ hk => hk.2) (.slice Ao18 t684.length co18)) (fun _ hk => hk.2) (.slice Ao21 t687.length co21)) (fun _ h_ => h_.1))) hb); have n2_ := Aside0.mk (Kd.R_below (pR (Kd.R_mono (Kd.R_far (p := ⟨gb690, 1, none⟩) (Kd.R_far (p := ⟨gb690, 0, none⟩) (Kd.R_types HO682.out BK690.out (by decide)) (fun _ hk => hk.2) (.slice Ao18 t684.length co18)) (fun _ hk => hk.2) (.slice Ao21 t687.length co21)) (fun _ h_ => h_.1))) hb); have n3_ := Aside0.mk (Kd.R_below (pR (Kd.R_mono (Kd.R_far (p := ⟨gb690, 1, none⟩) (Kd.R_far (p := ⟨gb690, 0, none⟩) (Kd.R_types HO686.out BK690.out (by decide)) (fun _ hk => hk.2) (.slice Ao18 t684.length co18)) (fun _ hk => hk.2) (.slice Ao21 t687.length co21)) (fun _ h_ => h_.1))) hb); have n4_ := Aside0.mk (Kd.R_below (pR (Kd.R_mono (Kd.R_far (p := ⟨gb690, 1, none⟩) (Kd.R_far (p := ⟨gb690, 0, none⟩) (Kd.R_types HO689.out BK690.out (by decide)) (fun _ hk => hk.2) (.slice Ao18 t684.length co18)) (fun _ hk => hk.2) (.slice Ao21 t687.length co21)) (fun _ h_ => h_.1))) hb); have n5_ := Aside0.mk (blk_below (g := gb683) (o := .cells #[.slice Ao12 t674.length co12, .slice Ao14 t677.length co14] 26 (0, 0)) (by (with_reducible repeat (first | refine blk_drewN ?_ _ | refine blk_drew ?_ | refine blk_alloc ?_ _)); refine blk_far ?_ NB683_690.out _; (with_reducible repeat (first | refine blk_drewN ?_ _ | refine blk_drew ?_ | refine blk_alloc ?_ _)); refine blk_far ?_ NB683_690.out _; (with_reducible repeat (first | refine blk_drewN ?_ _ | refine blk_drew ?_ | refine blk_alloc ?_ _)); exact BK683.out) hb); have n6_ := Aside0.mk (blk_below (g := gb690) (o := .cells #[.slice Ao18 t684.length co18, .slice Ao21 t687.length co21] 26 (0, 0)) (by (with_reducible repeat (first | refine blk_drewN ?_ _ | refine blk_drew ?_ | refine blk_alloc ?_ _)); refine blk_put (cs := #[.slice Ao18 t684.length co18, .slice none 0 0]) ?_ 1 _ rfl; (with_reducible repeat (first | refine blk_drewN ?_ _ | refine blk_drew ?_ | refine blk_alloc ?_ _)); refine blk_put (cs := #[.slice none 0 0, .slice none 0 0]) ?_ 0 _ rfl; (with_reducible repeat (first | refine blk_drewN ?_ _ | refine blk_drew ?_ | refine blk_alloc ?_ _)); exact BK690.out) hb); have n7_ := Aside0.mk (below_step (by repeat (first | (with_reducible first | exact HB.out | apply below_alloc | apply pw_below_drewN | apply below_drew1 | refine below_set ?_ GE683.out | refine below_set ?_ GE690.out) | exact HB.out)) hb); clear HO676; clear HO679; clear HO682; clear HO686; clear HO689; clear BK683; clear BK690; clear HB; have HO676 := n0_; have HO679 := n1_; have HO682 := n2_; have HO686 := n3_; have HO689 := n4_; have BK683 := n5_; have BK690 := n6_; have HB := n7_; clear n0_ n1_ n2_ n3_ n4_ n5_ n6_ n7_; (try clear hb); (try clear hb2); (try clear hk); (try clear hi); have hcz24_0 : w23.cell? ⟨gb683, 0, none⟩ = some (.slice Ao12 t674.length co12) := (blk_cell BK683.out 0).trans rfl; have hcz24_1 : w23.cell? ⟨gb683, 1, none⟩ = some (.slice Ao14 t677.length co14) := (blk_cell BK683.out 1).trans rfl; have hfz24_0 := blk_frozen BK683.out 0; have hfz24_1 := blk_frozen BK683.out 1) | (go_at_call 35; (with_reducible refine (impl_SecCut.calls kj1 _ _ t674 _ _ t677 _ _ t680 t692 t695 _ ?side1 ?side2 ?side3 ?side4 ?side5 ?side6 A7.out).mono ?_); (case side1 => exact pC (Kd.R_reads' HO676.out).2.2); (case side2 => exact (Kd.R_reads' HO676.out).2.1); (case side3 => exact pC (Kd.R_reads' HO679.out).2.2); (case side4 => exact (Kd.R_reads' HO679.out).2.1); (case side5 => exact pC (Kd.R_reads' HO682.out).2.2); (case side6 => exact (Kd.R_reads' HO682.out).2.1); rintro e w25 ⟨v693, v696, rfl, ho0, ho1, hb⟩; have n0_ := Aside0.mk (Kd.R_elder' (pR HO676.out) (Kd.R_base ho0) hb); have n1_ := Aside0.mk (Kd.R_elder' (pR HO679.out) (Kd.R_base ho1) hb); have n2_ := Aside0.mk (Kd.R_below (pR HO682.out) hb); have n3_ := Aside0.mk (Kd.R_elder' (pR HO686.out) (Kd.R_base ho0) hb); have n4_ := Aside0.mk (Kd.R_elder' (pR HO689.out) (Kd.R_base ho1) hb); have n5_ := Aside0.mk (Kd.R_lower (Kd.R_new' (Kd.R_new' ho0 (Kd.R_lt (pR HO676.out))) (Kd.R_lt (pR HO686.out))) (below_size (by repeat (first | (with_reducible first | exact HB.out | apply below_alloc | apply pw_below_drewN | apply below_drew1 | refine below_set ?_ GE683.out | refine below_set ?_ GE690.out) | exact HB.out)))); have n6_ := Aside0.mk (Kd.R_lower (Kd.R_new' (Kd.R_new' ho1 (Kd.R_lt (pR HO679.out))) (Kd.R_lt (pR HO689.out))) (below_size (by repeat (first | (with_reducible first | exact HB.out | apply below_alloc | apply pw_below_drewN | apply below_drew1 | refine below_set ?_ GE683.out | refine below_set ?_ GE690.out) | exact HB.out)))); have n7_ := Aside0.mk (blk_below (g := gb683) (o := .cells #[.slice Ao12 t674.length co12, .slice Ao14 t677.length co14] 26 (0, 0)) (pK BK683.out) hb); have n8_ := Aside0.mk (blk_below (g := gb690) (o := .cells #[.slice Ao18 t684.length co18, .slice Ao21 t687.length co21] 26 (0, 0)) (pK BK690.out) hb); have n9_ := Aside0.mk (below_step (by repeat (first | (with_reducible first | exact HB.out | apply below_alloc | apply pw_below_drewN | apply below_drew1 | refine below_set ?_ GE683.out | refine below_set ?_ GE690.out) | exact HB.out)) hb); clear HO676; clear HO679; clear HO682; clear HO686; clear HO689; clear BK683; clear BK690; clear HB; have HO676 := n0_; have HO679 := n1_; have HO682 := n2_; have HO686 := n3_; have HO689 := n4_; have HO694 := n5_; have HO697 := n6_; have BK683 := n7_; have BK690 := n8_; have HB := n9_; clear n0_ n1_ n2_ n3_ n4_ n5_ n6_ n7_ n8_ n9_; (try clear hb); (try clear hb2); (try clear hk); (try clear hi); (try clear ho0); (try clear ho1)) | ((with_reducible refine gate_dst (N := 7) rfl ?_); (try (refine gate_guard (by rfl) ?_; dsimp only)); refine box_event ?hg (N := 7) ?hd (cs := #[.slice none 0 0, .slice none 0 0]) (t := 26) ?hr ?_; (case hd => rfl); (case hg => rfl); (case hr => first | (go_simp; done) | (go_simp; rfl)); intro gb698 hg w26 hbox hb; have n0_ := Aside0.mk (Kd.R_below (pR HO676.out) hb); have n1_ := Aside0.mk (Kd.R_below (pR HO679.out) hb); have n2_ := Aside0.mk (Kd.R_below (pR HO682.out) hb); have n3_ := Aside0.mk (Kd.R_below (pR HO686.out) hb); have n4_ := Aside0.mk (Kd.R_below (pR HO689.out) hb); have n5_ := Aside0.mk (Kd.R_below (pR HO694.out) hb); have n6_ := Aside0.mk (Kd.R_below (pR HO697.out) hb); have n7_ := Aside0.mk (blk_below (g := gb683) (o := .cells #[.slice Ao12 t674.length co12, .slice Ao14 t677.length co14] 26 (0, 0)) (pK BK683.out) hb); have n8_ := Aside0.mk (blk_below (g := gb690) (o := .cells #[.slice Ao18 t684.length co18, .slice Ao21 t687.length co21] 26 (0, 0)) (pK BK690.out) hb); have n9_ := Aside0.mk (below_step (by repeat (first | (with_reducible first | exact HB.out | apply below_alloc | apply pw_below_drewN | apply below_drew1 | refine below_set ?_ GE683.out | refine below_set ?_ GE690.out) | exact HB.out)) hb); have n10_ := Aside0.mk (hbox); have n11_ := Aside0.mk ((by rw [hg]; exact (below_size (by repeat (first | (with_reducible first | exact HB.out | apply below_alloc | apply pw_below_drewN | apply below_drew1 | refine below_set ?_ GE683.out | refine below_set ?_ GE690.out) | exact HB.out))) : w.heap.size ≤ gb698)); have n12_ := Aside0.mk ((by rw [hg]; exact (below_size (by repeat (first | (with_reducible first | exact HB.out | apply below_alloc | apply pw_below_drewN | apply below_drew1 | refine below_set ?_ GE683.out | refine below_set ?_ GE690.out) | exact HB.out))) : w.heap.size ≤ gb698)); have n13_ := Aside0.mk ((by rw [hg]; exact Nat.ne_of_lt (blk_lt (g := gb683) (o := .cells #[.slice Ao12 t674.length co12, .slice Ao14 t677.length co14] 26 (0, 0)) (pK BK683.out)) : gb683 ≠ gb698)); have n14_ := Aside0.mk ((by rw [hg]; exact Nat.ne_of_gt (blk_lt (g := gb683) (o := .cells #[.slice Ao12 t674.length co12, .slice Ao14 t677.length co14] 26 (0, 0)) (pK BK683.out)) : gb698 ≠ gb683)); have n15_ := Aside0.mk ((by rw [hg]; exact Nat.ne_of_lt (blk_lt (g := gb690) (o := .cells #[.slice Ao18 t684.length co18, .slice Ao21 t687.length co21] 26 (0, 0)) (pK BK690.out)) : gb690 ≠ gb698)); have n16_ := Aside0.mk ((by rw [hg]; exact Nat.ne_of_gt (blk_lt (g := gb690) (o := .cells #[.slice Ao18 t684.length co18, .slice Ao21 t687.length co21] 26 (0, 0)) (pK BK690.out)) : gb698 ≠ gb690)); clear HO676; clear HO679; clear HO682; clear HO686; clear HO689; clear HO694; clear HO697; clear BK683; clear BK690; clear HB; have HO676 := n0_; have HO679 := n1_; have HO682 := n2_; have HO686 := n3_; have HO689 := n4_; have HO694 := n5_; have HO697 := n6_; have BK683 := n7_; have BK690 := n8_; have HB := n9_; have BK698 := n10_; have GW698 := n11_; have GE698 := n12_; have NB683_698 := n13_; have NB698_683 := n14_; have NB690_698 := n15_; have NB698_690 := n16_; clear n0_ n1_ n2_ n3_ n4_ n5_ n6_ n7_ n8_ n9_ n10_ n11_ n12_ n13_ n14_ n15_ n16_; clear hb hbox hg; obtain ⟨Ao27, co27, eo27⟩ := Kd.R_slice HO694.out; subst eo27; have hnb28 := NB698_683.out; have hnc28 := NB683_698.out; have hnb29 := NB698_690.out; have hnc29 := NB690_698.out; have hcz30_0 : w26.cell? ⟨gb698, 0, none⟩ = some (.slice none 0 0) := (blk_cell BK698.out 0).trans rfl; have hcz30_1 : w26.cell? ⟨gb698, 1, none⟩ = some (.slice none 0 0) := (blk_cell BK698.out 1).trans rfl; have hfz30_0 := blk_frozen BK698.out 0; have hfz30_1 := blk_frozen BK698.out 1; obtain ⟨Ao31, co31, eo31⟩ := Kd.R_slice HO697.out; subst eo31; have hcz32_0 : w26.cell? ⟨gb690, 0, none⟩ = some (.slice Ao18 t684.length co18) := (blk_cell BK690.out 0).trans rfl; have hcz32_1 : w26.cell? ⟨gb690, 1, none⟩ = some (.slice Ao21 t687.length co21) := (blk_cell BK690.out 1).trans rfl; have hfz32_0 := blk_frozen BK690.out 0; have hfz32_1 := blk_frozen BK690.out 1) | (go_at_call 31; (with_reducible refine (laws_lpSec.calls kj1 _ _ t692 _ _ t695 _ _ t684 _ _ t687 t699 _ ?side1 ?side2 ?side3 ?side4 ?side5 ?side6 ?side7 ?side8 A8.out).mono ?_); (case side1 => refine (Kd.R_reads' (e := 9) (base := w.heap.size) (ok := fun k_ => ((True ∧ some k_ ≠ (.slice Ao12 t674.length co12 : Value).ownBlock) ∧ some k_ ≠ (.slice Ao18 t684.length co18 : Value).ownBlock)) (n := t692.length) (c := co27) ?_).2.2; exact (pR (Kd.R_mono (Kd.R_far (p := ⟨gb698, 1, none⟩) (Kd.R_far (p := ⟨gb698, 0, none⟩) (Kd.R_types HO694.out BK698.out (by decide)) (fun _ hk => hk.2) (.slice Ao27 t692.length co27)) (fun _ hk => hk.2) (.slice Ao31 t695.length co31)) (fun _ h_ => h_.1)))); (case side2 => exact (Kd.R_reads' HO694.out).2.1); (case side3 => refine (Kd.R_reads' (e := 54) (base := w.heap.size) (ok := fun k_ => ((True ∧ some k_ ≠ (.slice Ao14 t677.length co14 : Value).ownBlock) ∧ some k_ ≠ (.slice Ao21 t687.length co21 : Value).ownBlock)) (n := t695.length) (c := co31) ?_).2.2; exact (pR (Kd.R_mono (Kd.R_far (p := ⟨gb698, 1, none⟩) (Kd.R_far (p := ⟨gb698, 0, none⟩) (Kd.R_types HO697.out BK698.out (by decide)) (fun _ hk => hk.2) (.slice Ao27 t692.length co27)) (fun _ hk => hk.2) (.slice Ao31 t695.length co31)) (fun _ h_ => h_.1)))); (case side4 => exact (Kd.R_reads' HO697.out).2.1); (case side5 => refine (Kd.R_reads' (e := 9) (base := w.heap.size) (ok := fun k_ => ((True ∧ some k_ ≠ (.slice Ao12 t674.length co12 : Value).ownBlock) ∧ some k_ ≠ (.slice Ao27 t692.length co27 : Value).ownBlock)) (n := t684.length) (c := co18) ?_).2.2; exact (pR (Kd.R_mono (Kd.R_far (p := ⟨gb698, 1, none⟩) (Kd.R_far (p := ⟨gb698, 0, none⟩) (Kd.R_types HO686.out BK698.out (by decide)) (fun _ hk => hk.2) (.slice Ao27 t692.length co27)) (fun _ hk => hk.2) (.slice Ao31 t695.length co31)) (fun _ h_ => h_.1)))); (case side6 => exact (Kd.R_reads' HO686.out).2.1); (case side7 => refine (Kd.R_reads' (e := 54) (base := w.heap.size) (ok := fun k_ => ((True ∧ some k_ ≠ (.slice Ao14 t677.length co14 : Value).ownBlock) ∧ some k_ ≠ (.slice Ao31 t695.length co31 : Value).ownBlock)) (n := t687.length) (c := co21) ?_).2.2; exact (pR (Kd.R_mono (Kd.R_far (p := ⟨gb698, 1, none⟩) (Kd.R_far (p := ⟨gb698, 0, none⟩) (Kd.R_types HO689.out BK698.out (by decide)) (fun _ hk => hk.2) (.slice Ao27 t692.length co27)) (fun _ hk => hk.2) (.slice Ao31 t695.length co31)) (fun _ h_ => h_.1)))); (case side8 => exact (Kd.R_reads' HO689.out).2.1); rintro e w33 ⟨rfl, hb⟩; have n0_ := Aside0.mk (Kd.R_below (pR (Kd.R_mono (Kd.R_far (p := ⟨gb698, 1, none⟩) (Kd.R_far (p := ⟨gb698, 0, none⟩) (Kd.R_types HO676.out BK698.out (by decide)) (fun _ hk => hk.2) (.slice Ao27 t692.length co27)) (fun _ hk => hk.2) (.slice Ao31 t695.length co31)) (fun _ h_ => h_.1))) hb); have n1_ := Aside0.mk (Kd.R_below (pR (Kd.R_mono (Kd.R_far (p := ⟨gb698, 1, none⟩) (Kd.R_far (p := ⟨gb698, 0, none⟩) (Kd.R_types HO679.out BK698.out (by decide)) (fun _ hk => hk.2) (.slice Ao27 t692.length co27)) (fun _ hk => hk.2) (.slice Ao31 t695.length co31)) (fun _ h_ => h_.1))) hb); have n2_ := Aside0.mk (Kd.R_below (pR (Kd.R_mono (Kd.R_far (p := ⟨gb698, 1, none⟩) (Kd.R_far (p := ⟨gb698, 0, none⟩) (Kd.R_types HO682.out BK698.out (by decide)) (fun _ hk => hk.2) (.slice Ao27 t692.length co27)) (fun _ hk => hk.2) (.slice Ao31 t695.length co31)) (fun _ h_ => h_.1))) hb); have n3_ := Aside0.mk (Kd.R_below (pR (Kd.R_mono (Kd.R_far (p := ⟨gb698, 1, none⟩) (Kd.R_far (p := ⟨gb698, 0, none⟩) (Kd.R_types HO686.out BK698.out (by decide)) (fun _ hk => hk.2) (.slice Ao27 t692.length co27)) (fun _ hk => hk.2) (.slice Ao31 t695.length co31)) (fun _ h_ => h_.1))) hb); have n4_ := Aside0.mk (Kd.R_below (pR (Kd.R_mono (Kd.R_far (p := ⟨gb698, 1, none⟩) (Kd.R_far (p := ⟨gb698, 0, none⟩) (Kd.R_types HO689.out BK698.out (by decide)) (fun _ hk => hk.2) (.slice Ao27 t692.length co27)) (fun _ hk => hk.2) (.slice Ao31 t695.length co31)) (fun _ h_ => h_.1))) hb); have n5_ := Aside0.mk (Kd.R_below (pR (Kd.R_mono (Kd.R_far (p := ⟨gb698, 1, none⟩) (Kd.R_far (p := ⟨gb698, 0, none⟩) (Kd.R_types HO694.out BK698.out (by decide)) (fun _ hk => hk.2) (.slice Ao27 t692.length co27)) (fun _ hk => hk.2) (.slice Ao31 t695.length co31)) (fun _ h_ => h_.1))) hb); have n6_ := Aside0.mk (Kd.R_below (pR (Kd.R_mono (Kd.R_far (p := ⟨gb698, 1, none⟩) (Kd.R_far (p := ⟨gb698, 0, none⟩) (Kd.R_types HO697.out BK698.out (by decide)) (fun _ hk => hk.2) (.slice Ao27 t692.length co27)) (fun _ hk => hk.2) (.slice Ao31 t695.length co31)) (fun _ h_ => h_.1))) hb); have n7_ := Aside0.mk (blk_below (g := gb683) (o := .cells #[.slice Ao12 t674.length co12, .slice Ao14 t677.length co14] 26 (0, 0)) (by (with_reducible repeat (first | refine blk_drewN ?_ _ | refine blk_drew ?_ | refine blk_alloc ?_ _)); refine blk_far ?_ NB683_698.out _; (with_reducible repeat (first | refine blk_drewN ?_ _ | refine blk_drew ?_ | refine blk_alloc ?_ _)); refine blk_far ?_ NB683_698.out _; (with_reducible repeat (first | refine blk_drewN ?_ _ | refine blk_drew ?_ | refine blk_alloc ?_ _)); exact BK683.out) hb); have n8_ := Aside0.mk (blk_below (g := gb690) (o := .cells #[.slice Ao18 t684.length co18, .slice Ao21 t687.length co21] 26 (0, 0)) (by (with_reducible repeat (first | refine blk_drewN ?_ _ | refine blk_drew ?_ | refine blk_alloc ?_ _)); refine blk_far ?_ NB690_698.out _; (with_reducible repeat (first | refine blk_drewN ?_ _ | refine blk_drew ?_ | refine blk_alloc ?_ _)); refine blk_far ?_ NB690_698.out _; (with_reducible repeat (first | refine blk_drewN ?_ _ | refine blk_drew ?_ | refine blk_alloc ?_ _)); exact BK690.out) hb); have n9_ := Aside0.mk (blk_below (g := gb698) (o := .cells #[.slice Ao27 t692.length co27, .slice Ao31 t695.length co31] 26 (0, 0)) (by (with_reducible repeat (first | refine blk_drewN ?_ _ | refine blk_drew ?_ | refine blk_alloc ?_ _)); refine blk_put (cs := #[.slice Ao27 t692.length co27, .slice none 0 0]) ?_ 1 _ rfl; (with_reducible repeat (first | refine blk_drewN ?_ _ | refine blk_drew ?_ | refine blk_alloc ?_ _)); refine blk_put (cs := #[.slice none 0 0, .slice none 0 0]) ?_ 0 _ rfl; (with_reducible repeat (first | refine blk_drewN ?_ _ | refine blk_drew ?_ | refine blk_alloc ?_ _)); exact BK698.out) hb); have n10_ := Aside0.mk (below_step (by repeat (first | (with_reducible first | exact HB.out | apply below_alloc | apply pw_below_drewN | apply below_drew1 | refine below_set ?_ GE683.out | refine below_set ?_ GE690.out | refine below_set ?_ GE698.out) | exact HB.out)) hb); clear HO676; clear HO679; clear HO682; clear HO686; clear HO689; clear HO694; clear HO697; clear BK683; clear BK690; clear BK698; clear HB; have HO676 := n0_; have HO679 := n1_; have HO682 := n2_; have HO686 := n3_; have HO689 := n4_; have HO694 := n5_; have HO697 := n6_; have BK683 := n7_; have BK690 := n8_; have BK698 := n9_; have HB := n10_; clear n0_ n1_ n2_ n3_ n4_ n5_ n6_ n7_ n8_ n9_ n10_; (try clear hb); (try clear hb2); (try clear hk); (try clear hi))))
   (try simp only [Act.put, List.setIfInBounds_toArray, List.set_cons_zero, List.set_cons_succ])
   go_cut [] (fun wc => ∃ (kq : Nat), Aside0 (laws_FnSecCut.j1 kq t691 t674 t677 t692 t695 = some r) ∧ Aside0 (kq ≤ kj1) ∧ Aside0 (Kd.R Kd.string 9 wc w.heap.size (fun k_ => some k_ ≠ ((.slice Ao18 t684.length co18) : Value).ownBlock ∧ some k_ ≠ ((.slice Ao27 t692.length co27) : Value).ownBlock) (.slice Ao12 t674.length co12) t674) ∧ Aside0 (Kd.R k54 54 wc w.heap.size (fun k_ => some k_ ≠ ((.slice Ao21 t687.length co21) : Value).ownBlock ∧ some k_ ≠ ((.slice Ao31 t695.length co31) : Value).ownBlock) (.slice Ao14 t677.length co14) t677) ∧ Aside0 (Kd.R Kd.string 9 wc w.heap.size (fun k_ => some k_ ≠ ((.slice Ao12 t674.length co12) : Value).ownBlock ∧ some k_ ≠ ((.slice Ao27 t692.length co27) : Value).ownBlock) (.slice Ao18 t684.length co18) t684) ∧ Aside0 (Kd.R k54 54 wc w.heap.size (fun k_ => some k_ ≠ ((.slice Ao14 t677.length co14) : Value).ownBlock ∧ some k_ ≠ ((.slice Ao31 t695.length co31) : Value).ownBlock) (.slice Ao21 t687.length co21) t687) ∧ Aside0 (Kd.R Kd.string 9 wc w.heap.size (fun k_ => some k_ ≠ ((.slice Ao12 t674.length co12) : Value).ownBlock ∧ some k_ ≠ ((.slice Ao18 t684.length co18) : Value).ownBlock) (.slice Ao27 t692.length co27) t692) ∧ Aside0 (Kd.R k54 54 wc w.heap.size (fun k_ => some k_ ≠ ((.slice Ao14 t677.length co14) : Value).ownBlock ∧ some k_ ≠ ((.slice Ao21 t687.length co21) : Value).ownBlock) (.slice Ao31 t695.length co31) t695) ∧ Aside0 (wc.heap[gb683]? = some (.cells #[(.slice Ao12 t674.length co12), (.slice Ao14 t677.length co14)] 26 (0, 0))) ∧ Aside0 (wc.heap[gb690]? = some (.cells #[(.slice Ao18 t684.length co18), (.slice Ao21 t687.length co21)] 26 (0, 0))) ∧ Aside0 (wc.heap[gb698]? = some (.cells #[(.slice Ao27 t692.length co27), (.slice Ao31 t695.length co31)] 26 (0, 0))) ∧ Aside0 (Below w.heap.size w wc))
   case first =>
    have H := HC9.out
    clear HC9
    by_cases c34 : t699 = true
    ·subst c34
     have H1 : (laws_FnSecCut.j1 kj1 t691 t674 t677 t692 t695) = some r := by rw [if_pos rfl] at H; exact H
     clear H
     have H := H1
     clear H1
     have H' := Aside0.mk H
     clear H
     go_wp2
     repeat (go_quiet (fail); try go_wp2)
     go_meet
     case rel => exact ⟨_, H', ⟨by have := HJ1.out; first | omega | exact Nat.le_refl _⟩, ⟨pR (Kd.R_mono HO676.out (fun _ hk => ⟨hk.1.2, hk.2⟩))⟩, ⟨pR (Kd.R_mono HO679.out (fun _ hk => ⟨hk.1.2, hk.2⟩))⟩, ⟨pR (Kd.R_mono HO686.out (fun _ hk => ⟨hk.1.2, hk.2⟩))⟩, ⟨pR (Kd.R_mono HO689.out (fun _ hk => ⟨hk.1.2, hk.2⟩))⟩, ⟨pR (Kd.R_mono HO694.out (fun _ hk => ⟨hk.1.2, hk.2⟩))⟩, ⟨pR (Kd.R_mono HO697.out (fun _ hk => ⟨hk.1.2, hk.2⟩))⟩, ⟨pK BK683.out⟩, ⟨pK BK690.out⟩, ⟨pK BK698.out⟩, ⟨by repeat (first | (with_reducible first | exact HB.out | apply below_alloc | apply pw_below_drewN | apply below_drew1 | refine below_set ?_ GE683.out | refine below_set ?_ GE690.out | refine below_set ?_ GE698.out) | exact HB.out)⟩⟩
    ·replace c34 := Bool.eq_false_iff.mpr c34
     subst c34
     have H1 : (some false) = some r := by rw [if_neg (show ¬ (false = true) by decide)] at H; exact H
     clear H
     have H := H1
     clear H1
     obtain rfl := Option.some.inj H
     go_wp2
     repeat (go_quiet (fail); try go_wp2)
     go_ret
     exact ⟨by first | rfl | (simp [errW_none, errW_some] <;> rfl) | (simp [*, errW_none, errW_some] <;> rfl), by repeat (first | (with_reducible first | exact HB.out | apply below_alloc | apply pw_below_drewN | apply below_drew1 | refine below_set ?_ GE683.out | refine below_set ?_ GE690.out | refine below_set ?_ GE698.out) | exact HB.out)⟩
   case rest =>
    clear HC9
    try clear c1
    try clear c2
    try clear p2
    try clear c3
    try clear c3b0
    try clear c3b1
    try clear c10
    try clear c19
    try clear c28
    try clear c29
    try clear c34
    try clear hcz13_0
    try clear hcz13_1
    try clear hcz20_0
    try clear hcz20_1
    try clear hcz22_0
    try clear hcz22_1
    try clear hcz24_0
    try clear hcz24_1
    try clear hcz30_0
    try clear hcz30_1
    try clear hcz32_0
    try clear hcz32_1
    try clear hfz13_0
    try clear hfz13_1
    try clear hfz20_0
    try clear hfz20_1
    try clear hfz22_0
    try clear hfz22_1
    try clear hfz24_0
    try clear hfz24_1
    try clear hfz30_0
    try clear hfz30_1
    try clear hfz32_0
    try clear hfz32_1
    try clear p2
    obtain ⟨kq, HA, HJ8, HO_684000, HO_684001, HO_691000, HO_691001, HO_699000, HO_699001, BK683, BK690, BK698, HB⟩ := hcut
    cases kq with
    | zero => exact absurd HA.out (by simp [laws_FnSecCut.j1])
    | succ kj8 =>
     have H := HA.out
     clear HA
     simp only [laws_FnSecCut.j1] at H
     have HC35 := Aside0.mk H
     clear H
     go_upto_if 32 with (fail)
     repeat (go_quiet (fail); go_upto_if 32 with (fail))
     go_cut [] (fun wc => ∃ (kq : Nat), Aside0 (laws_FnSecCut.j2 kq t674 t677 t692 t695 = some r) ∧ Aside0 (kq ≤ kj8) ∧ Aside0 (Kd.R Kd.string 9 wc w.heap.size (fun k_ => some k_ ≠ ((.slice Ao18 t684.length co18) : Value).ownBlock ∧ some k_ ≠ ((.slice Ao27 t692.length co27) : Value).ownBlock) (.slice Ao12 t674.length co12) t674) ∧ Aside0 (Kd.R k54 54 wc w.heap.size (fun k_ => some k_ ≠ ((.slice Ao21 t687.length co21) : Value).ownBlock ∧ some k_ ≠ ((.slice Ao31 t695.length co31) : Value).ownBlock) (.slice Ao14 t677.length co14) t677) ∧ Aside0 (Kd.R Kd.string 9 wc w.heap.size (fun k_ => some k_ ≠ ((.slice Ao12 t674.length co12) : Value).ownBlock ∧ some k_ ≠ ((.slice Ao27 t692.length co27) : Value).ownBlock) (.slice Ao18 t684.length co18) t684) ∧ Aside0 (Kd.R k54 54 wc w.heap.size (fun k_ => some k_ ≠ ((.slice Ao14 t677.length co14) : Value).ownBlock ∧ some k_ ≠ ((.slice Ao31 t695.length co31) : Value).ownBlock) (.slice Ao21 t687.length co21) t687) ∧ Aside0 (Kd.R Kd.string 9 wc w.heap.size (fun k_ => some k_ ≠ ((.slice Ao12 t674.length co12) : Value).ownBlock ∧ some k_ ≠ ((.slice Ao18 t684.length co18) : Value).ownBlock) (.slice Ao27 t692.length co27) t692) ∧ Aside0 (Kd.R k54 54 wc w.heap.size (fun k_ => some k_ ≠ ((.slice Ao14 t677.length co14) : Value).ownBlock ∧ some k_ ≠ ((.slice Ao21 t687.length co21) : Value).ownBlock) (.slice Ao31 t695.length co31) t695) ∧ Aside0 (wc.heap[gb683]? = some (.cells #[(.slice Ao12 t674.length co12), (.slice Ao14 t677.length co14)] 26 (0, 0))) ∧ Aside0 (wc.heap[gb690]? = some (.cells #[(.slice Ao18 t684.length co18), (.slice Ao21 t687.length co21)] 26 (0, 0))) ∧ Aside0 (wc.heap[gb698]? = some (.cells #[(.slice Ao27 t692.length co27), (.slice Ao31 t695.length co31)] 26 (0, 0))) ∧ Aside0 (Below w.heap.size w wc))
     case first =>
      have H := HC35.out
      clear HC35
      by_cases c36 : t691 = true
      ·subst c36
       have H1 : (laws_FnSecCut.j2 kj8 t674 t677 t692 t695) = some r := by rw [if_pos rfl] at H; exact H
       clear H
       have H := H1
       clear H1
       have H' := Aside0.mk H
       clear H
       go_wp2
       repeat (go_quiet (fail); try go_wp2)
       go_meet
       case rel => exact ⟨_, H', ⟨by have := HJ1.out; have := HJ8.out; first | omega | exact Nat.le_refl _⟩, ⟨pR HO_684000.out⟩, ⟨pR HO_684001.out⟩, ⟨pR HO_691000.out⟩, ⟨pR HO_691001.out⟩, ⟨pR HO_699000.out⟩, ⟨pR HO_699001.out⟩, ⟨pK BK683.out⟩, ⟨pK BK690.out⟩, ⟨pK BK698.out⟩, ⟨by repeat (first | (with_reducible first | exact HB.out | apply below_alloc | apply pw_below_drewN | apply below_drew1 | refine below_set ?_ GE683.out | refine below_set ?_ GE690.out | refine below_set ?_ GE698.out) | exact HB.out)⟩⟩
      ·replace c36 := Bool.eq_false_iff.mpr c36
       subst c36
       have H1 : (some ((t692.length : Int) == 0)) = some r := by rw [if_neg (show ¬ (false = true) by decide)] at H; exact H
       clear H
       have H := H1
       clear H1
       obtain rfl := Option.some.inj H
       have hnb37 := NB698_683.out
       have hnc37 := NB683_698.out
       have hnb38 := NB698_690.out
       have hnc38 := NB690_698.out
       have hcz39_0 : wc.cell? ⟨gb698, 0, none⟩ = some (.slice Ao27 t692.length co27) := (blk_cell BK698.out 0).trans rfl
       have hcz39_1 : wc.cell? ⟨gb698, 1, none⟩ = some (.slice Ao31 t695.length co31) := (blk_cell BK698.out 1).trans rfl
       have hfz39_0 := blk_frozen BK698.out 0
       have hfz39_1 := blk_frozen BK698.out 1
       go_wp2
       repeat (go_quiet (fail); try go_wp2)
       go_ret
       exact ⟨by first | rfl | (simp [errW_none, errW_some] <;> rfl) | (simp [*, errW_none, errW_some] <;> rfl), by repeat (first | (with_reducible first | exact HB.out | apply below_alloc | apply pw_below_drewN | apply below_drew1 | refine below_set ?_ GE683.out | refine below_set ?_ GE690.out | refine below_set ?_ GE698.out) | exact HB.out)⟩
     case rest =>
      clear HC35
      try clear c1
      try clear c2
      try clear p2
      try clear c3
      try clear c3b0
      try clear c3b1
      try clear c10
      try clear c19
      try clear c28
      try clear c29
      try clear c34
      try clear c36
      try clear c37
      try clear c38
      try clear hcz13_0
      try clear hcz13_1
      try clear hcz20_0
      try clear hcz20_1
      try clear hcz22_0
      try clear hcz22_1
      try clear hcz24_0
      try clear hcz24_1
      try clear hcz30_0
      try clear hcz30_1
      try clear hcz32_0
      try clear hcz32_1
      try clear hcz39_0
      try clear hcz39_1
      try clear hfz13_0
      try clear hfz13_1
      try clear hfz20_0
      try clear hfz20_1
      try clear hfz22_0
      try clear hfz22_1
      try clear hfz24_0
      try clear hfz24_1
      try clear hfz30_0
      try clear hfz30_1
      try clear hfz32_0
      try clear hfz32_1
      try clear hfz39_0
      try clear hfz39_1
      try clear p2
      obtain ⟨kq, HA, HJ34, HO_684000, HO_684001, HO_691000, HO_691001, HO_699000, HO_699001, BK683, BK690, BK698, HB⟩ := hcut
      cases kq with
      | zero => exact absurd HA.out (by simp [laws_FnSecCut.j2])
      | succ kj34 =>
       have H := HA.out
       clear HA
       simp only [laws_FnSecCut.j2] at H
       have H' := Aside0.mk H
       clear H
       go_wp2
       repeat (go_quiet (fail); try go_wp2)
       go_loopg [8] kj34 (fun kq v8 w' => ∃ (x8_4 : Int), v8 = .int .i64 x8_4 ∧ Aside0 (laws_FnSecCut.l0 kq x8_4 t674 t677 t692 t695 = some r) ∧ Aside0 (kq ≤ kj34) ∧ Aside0 (Kd.R Kd.string 9 w' w.heap.size (fun k_ => some k_ ≠ ((.slice Ao18 t684.length co18) : Value).ownBlock ∧ some k_ ≠ ((.slice Ao27 t692.length co27) : Value).ownBlock) (.slice Ao12 t674.length co12) t674) ∧ Aside0 (Kd.R k54 54 w' w.heap.size (fun k_ => some k_ ≠ ((.slice Ao21 t687.length co21) : Value).ownBlock ∧ some k_ ≠ ((.slice Ao31 t695.length co31) : Value).ownBlock) (.slice Ao14 t677.length co14) t677) ∧ Aside0 (Kd.R Kd.string 9 w' w.heap.size (fun k_ => some k_ ≠ ((.slice Ao12 t674.length co12) : Value).ownBlock ∧ some k_ ≠ ((.slice Ao27 t692.length co27) : Value).ownBlock) (.slice Ao18 t684.length co18) t684) ∧ Aside0 (Kd.R k54 54 w' w.heap.size (fun k_ => some k_ ≠ ((.slice Ao14 t677.length co14) : Value).ownBlock ∧ some k_ ≠ ((.slice Ao31 t695.length co31) : Value).ownBlock) (.slice Ao21 t687.length co21) t687) ∧ Aside0 (Kd.R Kd.string 9 w' w.heap.size (fun k_ => some k_ ≠ ((.slice Ao12 t674.length co12) : Value).ownBlock ∧ some k_ ≠ ((.slice Ao18 t684.length co18) : Value).ownBlock) (.slice Ao27 t692.length co27) t692) ∧ Aside0 (Kd.R k54 54 w' w.heap.size (fun k_ => some k_ ≠ ((.slice Ao14 t677.length co14) : Value).ownBlock ∧ some k_ ≠ ((.slice Ao21 t687.length co21) : Value).ownBlock) (.slice Ao31 t695.length co31) t695) ∧ Aside0 (w'.heap[gb683]? = some (.cells #[(.slice Ao12 t674.length co12), (.slice Ao14 t677.length co14)] 26 (0, 0))) ∧ Aside0 (w'.heap[gb690]? = some (.cells #[(.slice Ao18 t684.length co18), (.slice Ao21 t687.length co21)] 26 (0, 0))) ∧ Aside0 (w'.heap[gb698]? = some (.cells #[(.slice Ao27 t692.length co27), (.slice Ao31 t695.length co31)] 26 (0, 0))) ∧ Aside0 (Below w.heap.size w w'))
       case atStart => exact ⟨(0), (by first | rfl | (simp; done) | (simp [*]; done)), H', ⟨Nat.le_refl _⟩, ⟨pR HO_684000.out⟩, ⟨pR HO_684001.out⟩, ⟨pR HO_691000.out⟩, ⟨pR HO_691001.out⟩, ⟨pR HO_699000.out⟩, ⟨pR HO_699001.out⟩, ⟨pK BK683.out⟩, ⟨pK BK690.out⟩, ⟨pK BK698.out⟩, ⟨by repeat (first | (with_reducible first | exact HB.out | apply below_alloc | apply pw_below_drewN | apply below_drew1 | refine below_set ?_ GE683.out | refine below_set ?_ GE690.out | refine below_set ?_ GE698.out) | exact HB.out)⟩⟩
       case round =>
        clear H'
        try clear c1
        try clear c2
        try clear p2
        try clear c3
        try clear c3b0
        try clear c3b1
        try clear c10
        try clear c19
        try clear c28
        try clear c29
        try clear c34
        try clear c36
        try clear c37
        try clear c38
        try clear hcz13_0
        try clear hcz13_1
        try clear hcz20_0
        try clear hcz20_1
        try clear hcz22_0
        try clear hcz22_1
        try clear hcz24_0
        try clear hcz24_1
        try clear hcz30_0
        try clear hcz30_1
        try clear hcz32_0
        try clear hcz32_1
        try clear hcz39_0
        try clear hcz39_1
        try clear hfz13_0
        try clear hfz13_1
        try clear hfz20_0
        try clear hfz20_1
        try clear hfz22_0
        try clear hfz22_1
        try clear hfz24_0
        try clear hfz24_1
        try clear hfz30_0
        try clear hfz30_1
        try clear hfz32_0
        try clear hfz32_1
        try clear hfz39_0
        try clear hfz39_1
        try clear p2
        obtain ⟨x8_4, rfl, HA, HK4, HO_684000, HO_684001, HO_691000, HO_691001, HO_699000, HO_699001, BK683, BK690, BK698, HB⟩ := hrel
        cases gk with
        | zero => exact absurd HA.out (by simp [laws_FnSecCut.l0])
        | succ k4 =>
         have H := HA.out
         clear HA
         simp only [laws_FnSecCut.l0] at H
         have HC40 := Aside0.mk H
         clear H
         have hnb41 := NB683_690.out
         have hnc41 := NB690_683.out
         have hnb42 := NB683_698.out
         have hnc42 := NB698_683.out
         have hcz43_0 : wr.cell? ⟨gb683, 0, none⟩ = some (.slice Ao12 t674.length co12) := (blk_cell BK683.out 0).trans rfl
         have hcz43_1 : wr.cell? ⟨gb683, 1, none⟩ = some (.slice Ao14 t677.length co14) := (blk_cell BK683.out 1).trans rfl
         have hfz43_0 := blk_frozen BK683.out 0
         have hfz43_1 := blk_frozen BK683.out 1
         go_upto_if 41 with (fail)
         repeat (go_quiet (fail); go_upto_if 41 with (fail))
         go_cut [] (fun wc => ∃ (kq : Nat), Aside0 (laws_FnSecCut.j4 kq x8_4 t674 t677 t692 t695 = some r) ∧ Aside0 (kq ≤ k4) ∧ Aside0 (Kd.R Kd.string 9 wc w.heap.size (fun k_ => some k_ ≠ ((.slice Ao18 t684.length co18) : Value).ownBlock ∧ some k_ ≠ ((.slice Ao27 t692.length co27) : Value).ownBlock) (.slice Ao12 t674.length co12) t674) ∧ Aside0 (Kd.R k54 54 wc w.heap.size (fun k_ => some k_ ≠ ((.slice Ao21 t687.length co21) : Value).ownBlock ∧ some k_ ≠ ((.slice Ao31 t695.length co31) : Value).ownBlock) (.slice Ao14 t677.length co14) t677) ∧ Aside0 (Kd.R Kd.string 9 wc w.heap.size (fun k_ => some k_ ≠ ((.slice Ao12 t674.length co12) : Value).ownBlock ∧ some k_ ≠ ((.slice Ao27 t692.length co27) : Value).ownBlock) (.slice Ao18 t684.length co18) t684) ∧ Aside0 (Kd.R k54 54 wc w.heap.size (fun k_ => some k_ ≠ ((.slice Ao14 t677.length co14) : Value).ownBlock ∧ some k_ ≠ ((.slice Ao31 t695.length co31) : Value).ownBlock) (.slice Ao21 t687.length co21) t687) ∧ Aside0 (Kd.R Kd.string 9 wc w.heap.size (fun k_ => some k_ ≠ ((.slice Ao12 t674.length co12) : Value).ownBlock ∧ some k_ ≠ ((.slice Ao18 t684.length co18) : Value).ownBlock) (.slice Ao27 t692.length co27) t692) ∧ Aside0 (Kd.R k54 54 wc w.heap.size (fun k_ => some k_ ≠ ((.slice Ao14 t677.length co14) : Value).ownBlock ∧ some k_ ≠ ((.slice Ao21 t687.length co21) : Value).ownBlock) (.slice Ao31 t695.length co31) t695) ∧ Aside0 (wc.heap[gb683]? = some (.cells #[(.slice Ao12 t674.length co12), (.slice Ao14 t677.length co14)] 26 (0, 0))) ∧ Aside0 (wc.heap[gb690]? = some (.cells #[(.slice Ao18 t684.length co18), (.slice Ao21 t687.length co21)] 26 (0, 0))) ∧ Aside0 (wc.heap[gb698]? = some (.cells #[(.slice Ao27 t692.length co27), (.slice Ao31 t695.length co31)] 26 (0, 0))) ∧ Aside0 (Below w.heap.size w wc))
         case first =>
          have H := HC40.out
          clear HC40
          by_cases c44 : x8_4 < (t674.length : Int)
          ·rw [if_pos c44] at H
           have c44b0 : decide (x8_4 < (t674.length : Int)) = true := decide_eq_true c44
           clear c44
           (first | rw [c44b0] | (simp only [i64_w, i32_w]; rw [c44b0]) | skip)
           have H' := Aside0.mk H
           clear H
           go_wp2
           repeat (go_quiet (fail); try go_wp2)
           go_meet
           case rel => exact ⟨_, H', ⟨by have := HJ1.out; have := HJ8.out; have := HJ34.out; have := HK4.out; first | omega | exact Nat.le_refl _⟩, ⟨pR HO_684000.out⟩, ⟨pR HO_684001.out⟩, ⟨pR HO_691000.out⟩, ⟨pR HO_691001.out⟩, ⟨pR HO_699000.out⟩, ⟨pR HO_699001.out⟩, ⟨pK BK683.out⟩, ⟨pK BK690.out⟩, ⟨pK BK698.out⟩, ⟨by repeat (first | (with_reducible first | exact HB.out | apply below_alloc | apply pw_below_drewN | apply below_drew1 | refine below_set ?_ GE683.out | refine below_set ?_ GE690.out | refine below_set ?_ GE698.out) | exact HB.out)⟩⟩
          ·rw [if_neg c44] at H
           have c44b0 : decide (x8_4 < (t674.length : Int)) = false := decide_eq_false c44
           clear c44
           (first | rw [c44b0] | (simp only [i64_w, i32_w]; rw [c44b0]) | skip)
           replace H := Option.bind_eq_some_iff.mp H
           obtain ⟨t700, A450, H⟩ := H
           replace H : (if t700 = true then (if (t695.length : Int) = 0 then (some ((t692.length : Int) == (t674.length : Int))) else (some false)) else (some false)) = some r := H
           have A45 := Aside0.mk A450
           clear A450
           by_cases c46 : t700 = true
           ·subst c46
            have H1 : (if (t695.length : Int) = 0 then (some ((t692.length : Int) == (t674.length : Int))) else (some false)) = some r := by rw [if_pos rfl] at H; exact H
            clear H
            have H := H1
            clear H1
            by_cases c47 : (t695.length : Int) = 0
            ·rw [if_pos c47] at H
             have c47b0 : ((t695.length : Int) == 0) = true := beq_iff_eq.mpr c47
             have c47b1 : ((t695.length : Int) != 0) = false := bne_eq_false_iff_eq.mpr c47
             clear c47
             obtain rfl := Option.some.inj H
             have hnb48 := NB698_683.out
             have hnc48 := NB683_698.out
             have hnb49 := NB698_690.out
             have hnc49 := NB690_698.out
             have hcz50_0 : wr.cell? ⟨gb698, 0, none⟩ = some (.slice Ao27 t692.length co27) := (blk_cell BK698.out 0).trans rfl
             have hcz50_1 : wr.cell? ⟨gb698, 1, none⟩ = some (.slice Ao31 t695.length co31) := (blk_cell BK698.out 1).trans rfl
             have hfz50_0 := blk_frozen BK698.out 0
             have hfz50_1 := blk_frozen BK698.out 1
             go_wp2_with (first | (go_at_call 25; (with_reducible refine (impl_SecOk.calls k4 _ _ t692 _ _ t695 true _ ?side1 ?side2 ?side3 ?side4 A45.out).mono ?_); (case side1 => exact pC (Kd.R_reads' HO_699000.out).2.2); (case side2 => exact (Kd.R_reads' HO_699000.out).2.1); (case side3 => exact pC (Kd.R_reads' HO_699001.out).2.2); (case side4 => exact (Kd.R_reads' HO_699001.out).2.1); rintro e w51 ⟨rfl, hb⟩; have n0_ := Aside0.mk (Kd.R_below (pR HO_684000.out) hb); have n1_ := Aside0.mk (Kd.R_below (pR HO_684001.out) hb); have n2_ := Aside0.mk (Kd.R_below (pR HO_691000.out) hb); have n3_ := Aside0.mk (Kd.R_below (pR HO_691001.out) hb); have n4_ := Aside0.mk (Kd.R_below (pR HO_699000.out) hb); have n5_ := Aside0.mk (Kd.R_below (pR HO_699001.out) hb); have n6_ := Aside0.mk (blk_below (g := gb683) (o := .cells #[.slice Ao12 t674.length co12, .slice Ao14 t677.length co14] 26 (0, 0)) (pK BK683.out) hb); have n7_ := Aside0.mk (blk_below (g := gb690) (o := .cells #[.slice Ao18 t684.length co18, .slice Ao21 t687.length co21] 26 (0, 0)) (pK BK690.out) hb); have n8_ := Aside0.mk (blk_below (g := gb698) (o := .cells #[.slice Ao27 t692.length co27, .slice Ao31 t695.length co31] 26 (0, 0)) (pK BK698.out) hb); have n9_ := Aside0.mk (below_step (by repeat (first | (with_reducible first | exact HB.out | apply below_alloc | apply pw_below_drewN | apply below_drew1 | refine below_set ?_ GE683.out | refine below_set ?_ GE690.out | refine below_set ?_ GE698.out) | exact HB.out)) hb); clear HO_684000; clear HO_684001; clear HO_691000; clear HO_691001; clear HO_699000; clear HO_699001; clear BK683; clear BK690; clear BK698; clear HB; have HO_684000 := n0_; have HO_684001 := n1_; have HO_691000 := n2_; have HO_691001 := n3_; have HO_699000 := n4_; have HO_699001 := n5_; have BK683 := n6_; have BK690 := n7_; have BK698 := n8_; have HB := n9_; clear n0_ n1_ n2_ n3_ n4_ n5_ n6_ n7_ n8_ n9_; (try clear hb); (try clear hb2); (try clear hk); (try clear hi); have hcz52_0 : w51.cell? ⟨gb698, 0, none⟩ = some (.slice Ao27 t692.length co27) := (blk_cell BK698.out 0).trans rfl; have hcz52_1 : w51.cell? ⟨gb698, 1, none⟩ = some (.slice Ao31 t695.length co31) := (blk_cell BK698.out 1).trans rfl; have hfz52_0 := blk_frozen BK698.out 0; have hfz52_1 := blk_frozen BK698.out 1; have hnb53 := NB683_690.out; have hnc53 := NB690_683.out; have hcz54_0 : w51.cell? ⟨gb683, 0, none⟩ = some (.slice Ao12 t674.length co12) := (blk_cell BK683.out 0).trans rfl; have hcz54_1 : w51.cell? ⟨gb683, 1, none⟩ = some (.slice Ao14 t677.length co14) := (blk_cell BK683.out 1).trans rfl; have hfz54_0 := blk_frozen BK683.out 0; have hfz54_1 := blk_frozen BK683.out 1))
             repeat (go_quiet (first | (go_at_call 25; (with_reducible refine (impl_SecOk.calls k4 _ _ t692 _ _ t695 true _ ?side1 ?side2 ?side3 ?side4 A45.out).mono ?_); (case side1 => exact pC (Kd.R_reads' HO_699000.out).2.2); (case side2 => exact (Kd.R_reads' HO_699000.out).2.1); (case side3 => exact pC (Kd.R_reads' HO_699001.out).2.2); (case side4 => exact (Kd.R_reads' HO_699001.out).2.1); rintro e w51 ⟨rfl, hb⟩; have n0_ := Aside0.mk (Kd.R_below (pR HO_684000.out) hb); have n1_ := Aside0.mk (Kd.R_below (pR HO_684001.out) hb); have n2_ := Aside0.mk (Kd.R_below (pR HO_691000.out) hb); have n3_ := Aside0.mk (Kd.R_below (pR HO_691001.out) hb); have n4_ := Aside0.mk (Kd.R_below (pR HO_699000.out) hb); have n5_ := Aside0.mk (Kd.R_below (pR HO_699001.out) hb); have n6_ := Aside0.mk (blk_below (g := gb683) (o := .cells #[.slice Ao12 t674.length co12, .slice Ao14 t677.length co14] 26 (0, 0)) (pK BK683.out) hb); have n7_ := Aside0.mk (blk_below (g := gb690) (o := .cells #[.slice Ao18 t684.length co18, .slice Ao21 t687.length co21] 26 (0, 0)) (pK BK690.out) hb); have n8_ := Aside0.mk (blk_below (g := gb698) (o := .cells #[.slice Ao27 t692.length co27, .slice Ao31 t695.length co31] 26 (0, 0)) (pK BK698.out) hb); have n9_ := Aside0.mk (below_step (by repeat (first | (with_reducible first | exact HB.out | apply below_alloc | apply pw_below_drewN | apply below_drew1 | refine below_set ?_ GE683.out | refine below_set ?_ GE690.out | refine below_set ?_ GE698.out) | exact HB.out)) hb); clear HO_684000; clear HO_684001; clear HO_691000; clear HO_691001; clear HO_699000; clear HO_699001; clear BK683; clear BK690; clear BK698; clear HB; have HO_684000 := n0_; have HO_684001 := n1_; have HO_691000 := n2_; have HO_691001 := n3_; have HO_699000 := n4_; have HO_699001 := n5_; have BK683 := n6_; have BK690 := n7_; have BK698 := n8_; have HB := n9_; clear n0_ n1_ n2_ n3_ n4_ n5_ n6_ n7_ n8_ n9_; (try clear hb); (try clear hb2); (try clear hk); (try clear hi); have hcz52_0 : w51.cell? ⟨gb698, 0, none⟩ = some (.slice Ao27 t692.length co27) := (blk_cell BK698.out 0).trans rfl; have hcz52_1 : w51.cell? ⟨gb698, 1, none⟩ = some (.slice Ao31 t695.length co31) := (blk_cell BK698.out 1).trans rfl; have hfz52_0 := blk_frozen BK698.out 0; have hfz52_1 := blk_frozen BK698.out 1; have hnb53 := NB683_690.out; have hnc53 := NB690_683.out; have hcz54_0 : w51.cell? ⟨gb683, 0, none⟩ = some (.slice Ao12 t674.length co12) := (blk_cell BK683.out 0).trans rfl; have hcz54_1 : w51.cell? ⟨gb683, 1, none⟩ = some (.slice Ao14 t677.length co14) := (blk_cell BK683.out 1).trans rfl; have hfz54_0 := blk_frozen BK683.out 0; have hfz54_1 := blk_frozen BK683.out 1)); try go_wp2_with (first | (go_at_call 25; (with_reducible refine (impl_SecOk.calls k4 _ _ t692 _ _ t695 true _ ?side1 ?side2 ?side3 ?side4 A45.out).mono ?_); (case side1 => exact pC (Kd.R_reads' HO_699000.out).2.2); (case side2 => exact (Kd.R_reads' HO_699000.out).2.1); (case side3 => exact pC (Kd.R_reads' HO_699001.out).2.2); (case side4 => exact (Kd.R_reads' HO_699001.out).2.1); rintro e w51 ⟨rfl, hb⟩; have n0_ := Aside0.mk (Kd.R_below (pR HO_684000.out) hb); have n1_ := Aside0.mk (Kd.R_below (pR HO_684001.out) hb); have n2_ := Aside0.mk (Kd.R_below (pR HO_691000.out) hb); have n3_ := Aside0.mk (Kd.R_below (pR HO_691001.out) hb); have n4_ := Aside0.mk (Kd.R_below (pR HO_699000.out) hb); have n5_ := Aside0.mk (Kd.R_below (pR HO_699001.out) hb); have n6_ := Aside0.mk (blk_below (g := gb683) (o := .cells #[.slice Ao12 t674.length co12, .slice Ao14 t677.length co14] 26 (0, 0)) (pK BK683.out) hb); have n7_ := Aside0.mk (blk_below (g := gb690) (o := .cells #[.slice Ao18 t684.length co18, .slice Ao21 t687.length co21] 26 (0, 0)) (pK BK690.out) hb); have n8_ := Aside0.mk (blk_below (g := gb698) (o := .cells #[.slice Ao27 t692.length co27, .slice Ao31 t695.length co31] 26 (0, 0)) (pK BK698.out) hb); have n9_ := Aside0.mk (below_step (by repeat (first | (with_reducible first | exact HB.out | apply below_alloc | apply pw_below_drewN | apply below_drew1 | refine below_set ?_ GE683.out | refine below_set ?_ GE690.out | refine below_set ?_ GE698.out) | exact HB.out)) hb); clear HO_684000; clear HO_684001; clear HO_691000; clear HO_691001; clear HO_699000; clear HO_699001; clear BK683; clear BK690; clear BK698; clear HB; have HO_684000 := n0_; have HO_684001 := n1_; have HO_691000 := n2_; have HO_691001 := n3_; have HO_699000 := n4_; have HO_699001 := n5_; have BK683 := n6_; have BK690 := n7_; have BK698 := n8_; have HB := n9_; clear n0_ n1_ n2_ n3_ n4_ n5_ n6_ n7_ n8_ n9_; (try clear hb); (try clear hb2); (try clear hk); (try clear hi); have hcz52_0 : w51.cell? ⟨gb698, 0, none⟩ = some (.slice Ao27 t692.length co27) := (blk_cell BK698.out 0).trans rfl; have hcz52_1 : w51.cell? ⟨gb698, 1, none⟩ = some (.slice Ao31 t695.length co31) := (blk_cell BK698.out 1).trans rfl; have hfz52_0 := blk_frozen BK698.out 0; have hfz52_1 := blk_frozen BK698.out 1; have hnb53 := NB683_690.out; have hnc53 := NB690_683.out; have hcz54_0 : w51.cell? ⟨gb683, 0, none⟩ = some (.slice Ao12 t674.length co12) := (blk_cell BK683.out 0).trans rfl; have hcz54_1 : w51.cell? ⟨gb683, 1, none⟩ = some (.slice Ao14 t677.length co14) := (blk_cell BK683.out 1).trans rfl; have hfz54_0 := blk_frozen BK683.out 0; have hfz54_1 := blk_frozen BK683.out 1)))
             go_ret
             exact ⟨by first | rfl | (simp [errW_none, errW_some] <;> rfl) | (simp [*, errW_none, errW_some] <;> rfl), by repeat (first | (with_reducible first | exact HB.out | apply below_alloc | apply pw_below_drewN | apply below_drew1 | refine below_set ?_ GE683.out | refine below_set ?_ GE690.out | refine below_set ?_ GE698.out) | exact HB.out)⟩
            ·rw [if_neg c47] at H
             have c47b0 : ((t695.length : Int) == 0) = false := beq_eq_false_iff_ne.mpr c47
             have c47b1 : ((t695.length : Int) != 0) = true := bne_iff_ne.mpr c47
             have c47b2 : ¬ (t695 = []) := fun h_ => c47 (by rw [h_]; rfl)
             obtain rfl := Option.some.inj H
             have hnb55 := NB698_683.out
             have hnc55 := NB683_698.out
             have hnb56 := NB698_690.out
             have hnc56 := NB690_698.out
             have hcz57_0 : wr.cell? ⟨gb698, 0, none⟩ = some (.slice Ao27 t692.length co27) := (blk_cell BK698.out 0).trans rfl
             have hcz57_1 : wr.cell? ⟨gb698, 1, none⟩ = some (.slice Ao31 t695.length co31) := (blk_cell BK698.out 1).trans rfl
             have hfz57_0 := blk_frozen BK698.out 0
             have hfz57_1 := blk_frozen BK698.out 1
             go_wp2_with (first | (go_at_call 25; (with_reducible refine (impl_SecOk.calls k4 _ _ t692 _ _ t695 true _ ?side1 ?side2 ?side3 ?side4 A45.out).mono ?_); (case side1 => exact pC (Kd.R_reads' HO_699000.out).2.2); (case side2 => exact (Kd.R_reads' HO_699000.out).2.1); (case side3 => exact pC (Kd.R_reads' HO_699001.out).2.2); (case side4 => exact (Kd.R_reads' HO_699001.out).2.1); rintro e w58 ⟨rfl, hb⟩; have n0_ := Aside0.mk (Kd.R_below (pR HO_684000.out) hb); have n1_ := Aside0.mk (Kd.R_below (pR HO_684001.out) hb); have n2_ := Aside0.mk (Kd.R_below (pR HO_691000.out) hb); have n3_ := Aside0.mk (Kd.R_below (pR HO_691001.out) hb); have n4_ := Aside0.mk (Kd.R_below (pR HO_699000.out) hb); have n5_ := Aside0.mk (Kd.R_below (pR HO_699001.out) hb); have n6_ := Aside0.mk (blk_below (g := gb683) (o := .cells #[.slice Ao12 t674.length co12, .slice Ao14 t677.length co14] 26 (0, 0)) (pK BK683.out) hb); have n7_ := Aside0.mk (blk_below (g := gb690) (o := .cells #[.slice Ao18 t684.length co18, .slice Ao21 t687.length co21] 26 (0, 0)) (pK BK690.out) hb); have n8_ := Aside0.mk (blk_below (g := gb698) (o := .cells #[.slice Ao27 t692.length co27, .slice Ao31 t695.length co31] 26 (0, 0)) (pK BK698.out) hb); have n9_ := Aside0.mk (below_step (by repeat (first | (with_reducible first | exact HB.out | apply below_alloc | apply pw_below_drewN | apply below_drew1 | refine below_set ?_ GE683.out | refine below_set ?_ GE690.out | refine below_set ?_ GE698.out) | exact HB.out)) hb); clear HO_684000; clear HO_684001; clear HO_691000; clear HO_691001; clear HO_699000; clear HO_699001; clear BK683; clear BK690; clear BK698; clear HB; have HO_684000 := n0_; have HO_684001 := n1_; have HO_691000 := n2_; have HO_691001 := n3_; have HO_699000 := n4_; have HO_699001 := n5_; have BK683 := n6_; have BK690 := n7_; have BK698 := n8_; have HB := n9_; clear n0_ n1_ n2_ n3_ n4_ n5_ n6_ n7_ n8_ n9_; (try clear hb); (try clear hb2); (try clear hk); (try clear hi); have hcz59_0 : w58.cell? ⟨gb698, 0, none⟩ = some (.slice Ao27 t692.length co27) := (blk_cell BK698.out 0).trans rfl; have hcz59_1 : w58.cell? ⟨gb698, 1, none⟩ = some (.slice Ao31 t695.length co31) := (blk_cell BK698.out 1).trans rfl; have hfz59_0 := blk_frozen BK698.out 0; have hfz59_1 := blk_frozen BK698.out 1))
             repeat (go_quiet (first | (go_at_call 25; (with_reducible refine (impl_SecOk.calls k4 _ _ t692 _ _ t695 true _ ?side1 ?side2 ?side3 ?side4 A45.out).mono ?_); (case side1 => exact pC (Kd.R_reads' HO_699000.out).2.2); (case side2 => exact (Kd.R_reads' HO_699000.out).2.1); (case side3 => exact pC (Kd.R_reads' HO_699001.out).2.2); (case side4 => exact (Kd.R_reads' HO_699001.out).2.1); rintro e w58 ⟨rfl, hb⟩; have n0_ := Aside0.mk (Kd.R_below (pR HO_684000.out) hb); have n1_ := Aside0.mk (Kd.R_below (pR HO_684001.out) hb); have n2_ := Aside0.mk (Kd.R_below (pR HO_691000.out) hb); have n3_ := Aside0.mk (Kd.R_below (pR HO_691001.out) hb); have n4_ := Aside0.mk (Kd.R_below (pR HO_699000.out) hb); have n5_ := Aside0.mk (Kd.R_below (pR HO_699001.out) hb); have n6_ := Aside0.mk (blk_below (g := gb683) (o := .cells #[.slice Ao12 t674.length co12, .slice Ao14 t677.length co14] 26 (0, 0)) (pK BK683.out) hb); have n7_ := Aside0.mk (blk_below (g := gb690) (o := .cells #[.slice Ao18 t684.length co18, .slice Ao21 t687.length co21] 26 (0, 0)) (pK BK690.out) hb); have n8_ := Aside0.mk (blk_below (g := gb698) (o := .cells #[.slice Ao27 t692.length co27, .slice Ao31 t695.length co31] 26 (0, 0)) (pK BK698.out) hb); have n9_ := Aside0.mk (below_step (by repeat (first | (with_reducible first | exact HB.out | apply below_alloc | apply pw_below_drewN | apply below_drew1 | refine below_set ?_ GE683.out | refine below_set ?_ GE690.out | refine below_set ?_ GE698.out) | exact HB.out)) hb); clear HO_684000; clear HO_684001; clear HO_691000; clear HO_691001; clear HO_699000; clear HO_699001; clear BK683; clear BK690; clear BK698; clear HB; have HO_684000 := n0_; have HO_684001 := n1_; have HO_691000 := n2_; have HO_691001 := n3_; have HO_699000 := n4_; have HO_699001 := n5_; have BK683 := n6_; have BK690 := n7_; have BK698 := n8_; have HB := n9_; clear n0_ n1_ n2_ n3_ n4_ n5_ n6_ n7_ n8_ n9_; (try clear hb); (try clear hb2); (try clear hk); (try clear hi); have hcz59_0 : w58.cell? ⟨gb698, 0, none⟩ = some (.slice Ao27 t692.length co27) := (blk_cell BK698.out 0).trans rfl; have hcz59_1 : w58.cell? ⟨gb698, 1, none⟩ = some (.slice Ao31 t695.length co31) := (blk_cell BK698.out 1).trans rfl; have hfz59_0 := blk_frozen BK698.out 0; have hfz59_1 := blk_frozen BK698.out 1)); try go_wp2_with (first | (go_at_call 25; (with_reducible refine (impl_SecOk.calls k4 _ _ t692 _ _ t695 true _ ?side1 ?side2 ?side3 ?side4 A45.out).mono ?_); (case side1 => exact pC (Kd.R_reads' HO_699000.out).2.2); (case side2 => exact (Kd.R_reads' HO_699000.out).2.1); (case side3 => exact pC (Kd.R_reads' HO_699001.out).2.2); (case side4 => exact (Kd.R_reads' HO_699001.out).2.1); rintro e w58 ⟨rfl, hb⟩; have n0_ := Aside0.mk (Kd.R_below (pR HO_684000.out) hb); have n1_ := Aside0.mk (Kd.R_below (pR HO_684001.out) hb); have n2_ := Aside0.mk (Kd.R_below (pR HO_691000.out) hb); have n3_ := Aside0.mk (Kd.R_below (pR HO_691001.out) hb); have n4_ := Aside0.mk (Kd.R_below (pR HO_699000.out) hb); have n5_ := Aside0.mk (Kd.R_below (pR HO_699001.out) hb); have n6_ := Aside0.mk (blk_below (g := gb683) (o := .cells #[.slice Ao12 t674.length co12, .slice Ao14 t677.length co14] 26 (0, 0)) (pK BK683.out) hb); have n7_ := Aside0.mk (blk_below (g := gb690) (o := .cells #[.slice Ao18 t684.length co18, .slice Ao21 t687.length co21] 26 (0, 0)) (pK BK690.out) hb); have n8_ := Aside0.mk (blk_below (g := gb698) (o := .cells #[.slice Ao27 t692.length co27, .slice Ao31 t695.length co31] 26 (0, 0)) (pK BK698.out) hb); have n9_ := Aside0.mk (below_step (by repeat (first | (with_reducible first | exact HB.out | apply below_alloc | apply pw_below_drewN | apply below_drew1 | refine below_set ?_ GE683.out | refine below_set ?_ GE690.out | refine below_set ?_ GE698.out) | exact HB.out)) hb); clear HO_684000; clear HO_684001; clear HO_691000; clear HO_691001; clear HO_699000; clear HO_699001; clear BK683; clear BK690; clear BK698; clear HB; have HO_684000 := n0_; have HO_684001 := n1_; have HO_691000 := n2_; have HO_691001 := n3_; have HO_699000 := n4_; have HO_699001 := n5_; have BK683 := n6_; have BK690 := n7_; have BK698 := n8_; have HB := n9_; clear n0_ n1_ n2_ n3_ n4_ n5_ n6_ n7_ n8_ n9_; (try clear hb); (try clear hb2); (try clear hk); (try clear hi); have hcz59_0 : w58.cell? ⟨gb698, 0, none⟩ = some (.slice Ao27 t692.length co27) := (blk_cell BK698.out 0).trans rfl; have hcz59_1 : w58.cell? ⟨gb698, 1, none⟩ = some (.slice Ao31 t695.length co31) := (blk_cell BK698.out 1).trans rfl; have hfz59_0 := blk_frozen BK698.out 0; have hfz59_1 := blk_frozen BK698.out 1)))
             go_ret
             exact ⟨by first | rfl | (simp [errW_none, errW_some] <;> rfl) | (simp [*, errW_none, errW_some] <;> rfl), by repeat (first | (with_reducible first | exact HB.out | apply below_alloc | apply pw_below_drewN | apply below_drew1 | refine below_set ?_ GE683.out | refine below_set ?_ GE690.out | refine below_set ?_ GE698.out) | exact HB.out)⟩
           ·replace c46 := Bool.eq_false_iff.mpr c46
            subst c46
            have H1 : (some false) = some r := by rw [if_neg (show ¬ (false = true) by decide)] at H; exact H
            clear H
            have H := H1
            clear H1
            obtain rfl := Option.some.inj H
            have hnb60 := NB698_683.out
            have hnc60 := NB683_698.out
            have hnb61 := NB698_690.out
            have hnc61 := NB690_698.out
            have hcz62_0 : wr.cell? ⟨gb698, 0, none⟩ = some (.slice Ao27 t692.length co27) := (blk_cell BK698.out 0).trans rfl
            have hcz62_1 : wr.cell? ⟨gb698, 1, none⟩ = some (.slice Ao31 t695.length co31) := (blk_cell BK698.out 1).trans rfl
            have hfz62_0 := blk_frozen BK698.out 0
            have hfz62_1 := blk_frozen BK698.out 1
            go_wp2_with (first | (go_at_call 25; (with_reducible refine (impl_SecOk.calls k4 _ _ t692 _ _ t695 false _ ?side1 ?side2 ?side3 ?side4 A45.out).mono ?_); (case side1 => exact pC (Kd.R_reads' HO_699000.out).2.2); (case side2 => exact (Kd.R_reads' HO_699000.out).2.1); (case side3 => exact pC (Kd.R_reads' HO_699001.out).2.2); (case side4 => exact (Kd.R_reads' HO_699001.out).2.1); rintro e w63 ⟨rfl, hb⟩; have n0_ := Aside0.mk (Kd.R_below (pR HO_684000.out) hb); have n1_ := Aside0.mk (Kd.R_below (pR HO_684001.out) hb); have n2_ := Aside0.mk (Kd.R_below (pR HO_691000.out) hb); have n3_ := Aside0.mk (Kd.R_below (pR HO_691001.out) hb); have n4_ := Aside0.mk (Kd.R_below (pR HO_699000.out) hb); have n5_ := Aside0.mk (Kd.R_below (pR HO_699001.out) hb); have n6_ := Aside0.mk (blk_below (g := gb683) (o := .cells #[.slice Ao12 t674.length co12, .slice Ao14 t677.length co14] 26 (0, 0)) (pK BK683.out) hb); have n7_ := Aside0.mk (blk_below (g := gb690) (o := .cells #[.slice Ao18 t684.length co18, .slice Ao21 t687.length co21] 26 (0, 0)) (pK BK690.out) hb); have n8_ := Aside0.mk (blk_below (g := gb698) (o := .cells #[.slice Ao27 t692.length co27, .slice Ao31 t695.length co31] 26 (0, 0)) (pK BK698.out) hb); have n9_ := Aside0.mk (below_step (by repeat (first | (with_reducible first | exact HB.out | apply below_alloc | apply pw_below_drewN | apply below_drew1 | refine below_set ?_ GE683.out | refine below_set ?_ GE690.out | refine below_set ?_ GE698.out) | exact HB.out)) hb); clear HO_684000; clear HO_684001; clear HO_691000; clear HO_691001; clear HO_699000; clear HO_699001; clear BK683; clear BK690; clear BK698; clear HB; have HO_684000 := n0_; have HO_684001 := n1_; have HO_691000 := n2_; have HO_691001 := n3_; have HO_699000 := n4_; have HO_699001 := n5_; have BK683 := n6_; have BK690 := n7_; have BK698 := n8_; have HB := n9_; clear n0_ n1_ n2_ n3_ n4_ n5_ n6_ n7_ n8_ n9_; (try clear hb); (try clear hb2); (try clear hk); (try clear hi)))
            repeat (go_quiet (first | (go_at_call 25; (with_reducible refine (impl_SecOk.calls k4 _ _ t692 _ _ t695 false _ ?side1 ?side2 ?side3 ?side4 A45.out).mono ?_); (case side1 => exact pC (Kd.R_reads' HO_699000.out).2.2); (case side2 => exact (Kd.R_reads' HO_699000.out).2.1); (case side3 => exact pC (Kd.R_reads' HO_699001.out).2.2); (case side4 => exact (Kd.R_reads' HO_699001.out).2.1); rintro e w63 ⟨rfl, hb⟩; have n0_ := Aside0.mk (Kd.R_below (pR HO_684000.out) hb); have n1_ := Aside0.mk (Kd.R_below (pR HO_684001.out) hb); have n2_ := Aside0.mk (Kd.R_below (pR HO_691000.out) hb); have n3_ := Aside0.mk (Kd.R_below (pR HO_691001.out) hb); have n4_ := Aside0.mk (Kd.R_below (pR HO_699000.out) hb); have n5_ := Aside0.mk (Kd.R_below (pR HO_699001.out) hb); have n6_ := Aside0.mk (blk_below (g := gb683) (o := .cells #[.slice Ao12 t674.length co12, .slice Ao14 t677.length co14] 26 (0, 0)) (pK BK683.out) hb); have n7_ := Aside0.mk (blk_below (g := gb690) (o := .cells #[.slice Ao18 t684.length co18, .slice Ao21 t687.length co21] 26 (0, 0)) (pK BK690.out) hb); have n8_ := Aside0.mk (blk_below (g := gb698) (o := .cells #[.slice Ao27 t692.length co27, .slice Ao31 t695.length co31] 26 (0, 0)) (pK BK698.out) hb); have n9_ := Aside0.mk (below_step (by repeat (first | (with_reducible first | exact HB.out | apply below_alloc | apply pw_below_drewN | apply below_drew1 | refine below_set ?_ GE683.out | refine below_set ?_ GE690.out | refine below_set ?_ GE698.out) | exact HB.out)) hb); clear HO_684000; clear HO_684001; clear HO_691000; clear HO_691001; clear HO_699000; clear HO_699001; clear BK683; clear BK690; clear BK698; clear HB; have HO_684000 := n0_; have HO_684001 := n1_; have HO_691000 := n2_; have HO_691001 := n3_; have HO_699000 := n4_; have HO_699001 := n5_; have BK683 := n6_; have BK690 := n7_; have BK698 := n8_; have HB := n9_; clear n0_ n1_ n2_ n3_ n4_ n5_ n6_ n7_ n8_ n9_; (try clear hb); (try clear hb2); (try clear hk); (try clear hi))); try go_wp2_with (first | (go_at_call 25; (with_reducible refine (impl_SecOk.calls k4 _ _ t692 _ _ t695 false _ ?side1 ?side2 ?side3 ?side4 A45.out).mono ?_); (case side1 => exact pC (Kd.R_reads' HO_699000.out).2.2); (case side2 => exact (Kd.R_reads' HO_699000.out).2.1); (case side3 => exact pC (Kd.R_reads' HO_699001.out).2.2); (case side4 => exact (Kd.R_reads' HO_699001.out).2.1); rintro e w63 ⟨rfl, hb⟩; have n0_ := Aside0.mk (Kd.R_below (pR HO_684000.out) hb); have n1_ := Aside0.mk (Kd.R_below (pR HO_684001.out) hb); have n2_ := Aside0.mk (Kd.R_below (pR HO_691000.out) hb); have n3_ := Aside0.mk (Kd.R_below (pR HO_691001.out) hb); have n4_ := Aside0.mk (Kd.R_below (pR HO_699000.out) hb); have n5_ := Aside0.mk (Kd.R_below (pR HO_699001.out) hb); have n6_ := Aside0.mk (blk_below (g := gb683) (o := .cells #[.slice Ao12 t674.length co12, .slice Ao14 t677.length co14] 26 (0, 0)) (pK BK683.out) hb); have n7_ := Aside0.mk (blk_below (g := gb690) (o := .cells #[.slice Ao18 t684.length co18, .slice Ao21 t687.length co21] 26 (0, 0)) (pK BK690.out) hb); have n8_ := Aside0.mk (blk_below (g := gb698) (o := .cells #[.slice Ao27 t692.length co27, .slice Ao31 t695.length co31] 26 (0, 0)) (pK BK698.out) hb); have n9_ := Aside0.mk (below_step (by repeat (first | (with_reducible first | exact HB.out | apply below_alloc | apply pw_below_drewN | apply below_drew1 | refine below_set ?_ GE683.out | refine below_set ?_ GE690.out | refine below_set ?_ GE698.out) | exact HB.out)) hb); clear HO_684000; clear HO_684001; clear HO_691000; clear HO_691001; clear HO_699000; clear HO_699001; clear BK683; clear BK690; clear BK698; clear HB; have HO_684000 := n0_; have HO_684001 := n1_; have HO_691000 := n2_; have HO_691001 := n3_; have HO_699000 := n4_; have HO_699001 := n5_; have BK683 := n6_; have BK690 := n7_; have BK698 := n8_; have HB := n9_; clear n0_ n1_ n2_ n3_ n4_ n5_ n6_ n7_ n8_ n9_; (try clear hb); (try clear hb2); (try clear hk); (try clear hi))))
            go_ret
            exact ⟨by first | rfl | (simp [errW_none, errW_some] <;> rfl) | (simp [*, errW_none, errW_some] <;> rfl), by repeat (first | (with_reducible first | exact HB.out | apply below_alloc | apply pw_below_drewN | apply below_drew1 | refine below_set ?_ GE683.out | refine below_set ?_ GE690.out | refine below_set ?_ GE698.out) | exact HB.out)⟩
         case rest =>
          clear HC40
          try clear c1
          try clear c2
          try clear p2
          try clear c3
          try clear c3b0
          try clear c3b1
          try clear c4
          try clear c5
          try clear c6
          try clear c10
          try clear c19
          try clear c28
          try clear c29
          try clear c34
          try clear c36
          try clear c37
          try clear c38
          try clear c41
          try clear c42
          try clear c44
          try clear c44b0
          try clear c46
          try clear c47
          try clear c47b0
          try clear c47b1
          try clear c47b2
          try clear c48
          try clear c49
          try clear c53
          try clear c55
          try clear c56
          try clear c60
          try clear c61
          try clear hcz13_0
          try clear hcz13_1
          try clear hcz20_0
          try clear hcz20_1
          try clear hcz22_0
          try clear hcz22_1
          try clear hcz24_0
          try clear hcz24_1
          try clear hcz30_0
          try clear hcz30_1
          try clear hcz32_0
          try clear hcz32_1
          try clear hcz39_0
          try clear hcz39_1
          try clear hcz43_0
          try clear hcz43_1
          try clear hcz50_0
          try clear hcz50_1
          try clear hcz52_0
          try clear hcz52_1
          try clear hcz54_0
          try clear hcz54_1
          try clear hcz57_0
          try clear hcz57_1
          try clear hcz59_0
          try clear hcz59_1
          try clear hcz62_0
          try clear hcz62_1
          try clear hfz13_0
          try clear hfz13_1
          try clear hfz20_0
          try clear hfz20_1
          try clear hfz22_0
          try clear hfz22_1
          try clear hfz24_0
          try clear hfz24_1
          try clear hfz30_0
          try clear hfz30_1
          try clear hfz32_0
          try clear hfz32_1
          try clear hfz39_0
          try clear hfz39_1
          try clear hfz43_0
          try clear hfz43_1
          try clear hfz50_0
          try clear hfz50_1
          try clear hfz52_0
          try clear hfz52_1
          try clear hfz54_0
          try clear hfz54_1
          try clear hfz57_0
          try clear hfz57_1
          try clear hfz59_0
          try clear hfz59_1
          try clear hfz62_0
          try clear hfz62_1
          try clear p2
          obtain ⟨kq, HA, HJ39, HO_684000, HO_684001, HO_691000, HO_691001, HO_699000, HO_699001, BK683, BK690, BK698, HB⟩ := hcut
          cases kq with
          | zero => exact absurd HA.out (by simp [laws_FnSecCut.j4])
          | succ kj39 =>
           have H := HA.out
           clear HA
           simp only [laws_FnSecCut.j4] at H
           by_cases c64 : 0 ≤ x8_4
           ·rw [if_pos c64] at H
            have c64b0 : decide (0 ≤ x8_4) = true := decide_eq_true c64
            clear c64
            by_cases c65 : x8_4 < (t692.length : Int)
            ·rw [if_pos c65] at H
             have c65b0 : decide (x8_4 < (t692.length : Int)) = true := decide_eq_true c65
             clear c65
             by_cases c66 : x8_4 < (t674.length : Int)
             ·rw [if_pos c66] at H
              have c66b0 : decide (x8_4 < (t674.length : Int)) = true := decide_eq_true c66
              clear c66
              have H' := Aside0.mk H
              clear H
              have hnb67 := NB698_683.out
              have hnc67 := NB683_698.out
              have hnb68 := NB698_690.out
              have hnc68 := NB690_698.out
              have hcz69_0 : wc.cell? ⟨gb698, 0, none⟩ = some (.slice Ao27 t692.length co27) := (blk_cell BK698.out 0).trans rfl
              have hcz69_1 : wc.cell? ⟨gb698, 1, none⟩ = some (.slice Ao31 t695.length co31) := (blk_cell BK698.out 1).trans rfl
              have hfz69_0 := blk_frozen BK698.out 0
              have hfz69_1 := blk_frozen BK698.out 1
              have p701 : 0 ≤ (x8_4 : Int) := of_decide_eq_true bA
              have q701 : x8_4 < (t692.length : Int) := of_decide_eq_true bA
              obtain ⟨ad701, e701, hx701_0⟩ := Kd.at_string (Kd.R_reads' HO_699000.out).2.2 x8_4 p701 q701
              cases e701
              replace p701 := eq_true p701
              replace q701 := eq_true q701
              have hnb70 := NB683_690.out
              have hnc70 := NB690_683.out
              have hcz71_0 : wc.cell? ⟨gb683, 0, none⟩ = some (.slice Ao12 t674.length co12) := (blk_cell BK683.out 0).trans rfl
              have hcz71_1 : wc.cell? ⟨gb683, 1, none⟩ = some (.slice Ao14 t677.length co14) := (blk_cell BK683.out 1).trans rfl
              have hfz71_0 := blk_frozen BK683.out 0
              have hfz71_1 := blk_frozen BK683.out 1
              have p702 : 0 ≤ (x8_4 : Int) := of_decide_eq_true bA
              have q702 : x8_4 < (t674.length : Int) := of_decide_eq_true bA
              obtain ⟨ad702, e702, hx702_0⟩ := Kd.at_string (Kd.R_reads' HO_684000.out).2.2 x8_4 p702 q702
              cases e702
              replace p702 := eq_true p702
              replace q702 := eq_true q702
              go_wp2
              repeat (go_quiet (fail); try go_wp2)
              go_loopg [9, 10] kj39 (fun kq v9 v10 w' => ∃ (x9_6 : Bool) (x10_6 : Int), v9 = .bool x9_6 ∧ v10 = .int .i64 x10_6 ∧ Aside0 (laws_FnSecCut.l1 kq x8_4 x9_6 x10_6 t674 t677 t692 t695 = some r) ∧ Aside0 (kq ≤ kj39) ∧ Aside0 (Kd.R Kd.string 9 w' w.heap.size (fun k_ => some k_ ≠ ((.slice Ao18 t684.length co18) : Value).ownBlock ∧ some k_ ≠ ((.slice (some ad701) t692.length co27) : Value).ownBlock) (.slice (some ad702) t674.length co12) t674) ∧ Aside0 (Kd.R k54 54 w' w.heap.size (fun k_ => some k_ ≠ ((.slice Ao21 t687.length co21) : Value).ownBlock ∧ some k_ ≠ ((.slice Ao31 t695.length co31) : Value).ownBlock) (.slice Ao14 t677.length co14) t677) ∧ Aside0 (Kd.R Kd.string 9 w' w.heap.size (fun k_ => some k_ ≠ ((.slice (some ad702) t674.length co12) : Value).ownBlock ∧ some k_ ≠ ((.slice (some ad701) t692.length co27) : Value).ownBlock) (.slice Ao18 t684.length co18) t684) ∧ Aside0 (Kd.R k54 54 w' w.heap.size (fun k_ => some k_ ≠ ((.slice Ao14 t677.length co14) : Value).ownBlock ∧ some k_ ≠ ((.slice Ao31 t695.length co31) : Value).ownBlock) (.slice Ao21 t687.length co21) t687) ∧ Aside0 (Kd.R Kd.string 9 w' w.heap.size (fun k_ => some k_ ≠ ((.slice (some ad702) t674.length co12) : Value).ownBlock ∧ some k_ ≠ ((.slice Ao18 t684.length co18) : Value).ownBlock) (.slice (some ad701) t692.length co27) t692) ∧ Aside0 (Kd.R k54 54 w' w.heap.size (fun k_ => some k_ ≠ ((.slice Ao14 t677.length co14) : Value).ownBlock ∧ some k_ ≠ ((.slice Ao21 t687.length co21) : Value).ownBlock) (.slice Ao31 t695.length co31) t695) ∧ Aside0 (w'.heap[gb683]? = some (.cells #[(.slice (some ad702) t674.length co12), (.slice Ao14 t677.length co14)] 26 (0, 0))) ∧ Aside0 (w'.heap[gb690]? = some (.cells #[(.slice Ao18 t684.length co18), (.slice Ao21 t687.length co21)] 26 (0, 0))) ∧ Aside0 (w'.heap[gb698]? = some (.cells #[(.slice (some ad701) t692.length co27), (.slice Ao31 t695.length co31)] 26 (0, 0))) ∧ Aside0 (Below w.heap.size w w'))
              case atStart => exact ⟨(((rdOf ByteArray.empty t692 x8_4).toList == (rdOf ByteArray.empty t674 x8_4).toList)), (0), (by first | rfl | (simp; done) | (simp [*]; done)), (by first | rfl | (simp; done) | (simp [*]; done)), H', ⟨Nat.le_refl _⟩, ⟨pR HO_684000.out⟩, ⟨pR HO_684001.out⟩, ⟨pR HO_691000.out⟩, ⟨pR HO_691001.out⟩, ⟨pR HO_699000.out⟩, ⟨pR HO_699001.out⟩, ⟨pK BK683.out⟩, ⟨pK BK690.out⟩, ⟨pK BK698.out⟩, ⟨by repeat (first | (with_reducible first | exact HB.out | apply below_alloc | apply pw_below_drewN | apply below_drew1 | refine below_set ?_ GE683.out | refine below_set ?_ GE690.out | refine below_set ?_ GE698.out) | exact HB.out)⟩⟩
              case round =>
               clear H'
               try clear c1
               try clear c2
               try clear p2
               try clear c3
               try clear c3b0
               try clear c3b1
               try clear c4
               try clear c5
               try clear c6
               try clear c7
               try clear p7
               try clear q7
               try clear hx7
               try clear c10
               try clear c19
               try clear c28
               try clear c29
               try clear c34
               try clear c36
               try clear c37
               try clear c38
               try clear c41
               try clear c42
               try clear c44
               try clear c44b0
               try clear c46
               try clear c47
               try clear c47b0
               try clear c47b1
               try clear c47b2
               try clear c48
               try clear c49
               try clear c53
               try clear c55
               try clear c56
               try clear c60
               try clear c61
               try clear c64
               try clear c64b0
               try clear c65
               try clear c65b0
               try clear c66
               try clear c66b0
               try clear c67
               try clear c68
               try clear c70
               try clear p70
               try clear q70
               try clear hx70
               try clear hcz13_0
               try clear hcz13_1
               try clear hcz20_0
               try clear hcz20_1
               try clear hcz22_0
               try clear hcz22_1
               try clear hcz24_0
               try clear hcz24_1
               try clear hcz30_0
               try clear hcz30_1
               try clear hcz32_0
               try clear hcz32_1
               try clear hcz39_0
               try clear hcz39_1
               try clear hcz43_0
               try clear hcz43_1
               try clear hcz50_0
               try clear hcz50_1
               try clear hcz52_0
               try clear hcz52_1
               try clear hcz54_0
               try clear hcz54_1
               try clear hcz57_0
               try clear hcz57_1
               try clear hcz59_0
               try clear hcz59_1
               try clear hcz62_0
               try clear hcz62_1
               try clear hcz69_0
               try clear hcz69_1
               try clear hcz71_0
               try clear hcz71_1
               try clear hfz13_0
               try clear hfz13_1
               try clear hfz20_0
               try clear hfz20_1
               try clear hfz22_0
               try clear hfz22_1
               try clear hfz24_0
               try clear hfz24_1
               try clear hfz30_0
               try clear hfz30_1
               try clear hfz32_0
               try clear hfz32_1
               try clear hfz39_0
               try clear hfz39_1
               try clear hfz43_0
               try clear hfz43_1
               try clear hfz50_0
               try clear hfz50_1
               try clear hfz52_0
               try clear hfz52_1
               try clear hfz54_0
               try clear hfz54_1
               try clear hfz57_0
               try clear hfz57_1
               try clear hfz59_0
               try clear hfz59_1
               try clear hfz62_0
               try clear hfz62_1
               try clear hfz69_0
               try clear hfz69_1
               try clear hfz71_0
               try clear hfz71_1
               try clear hx701_0
               try clear hx702_0
               try clear p2
               try clear p701
               try clear p702
               try clear q701
               try clear q702
               obtain ⟨x9_6, x10_6, rfl, rfl, HA, HK6, HO_684000, HO_684001, HO_691000, HO_691001, HO_699000, HO_699001, BK683, BK690, BK698, HB⟩ := hrel
               cases gk with
               | zero => exact absurd HA.out (by simp [laws_FnSecCut.l1])
               | succ k6 =>
                have H := HA.out
                clear HA
                simp only [laws_FnSecCut.l1] at H
                by_cases c72 : x10_6 < (t677.length : Int)
                ·rw [if_pos c72] at H
                 have c72b0 : decide (x10_6 < (t677.length : Int)) = true := decide_eq_true c72
                 clear c72
                 by_cases c73 : x9_6 = true
                 ·subst c73
                  have H1 : (laws_FnSecCut.l1 k6 x8_4 true (wrap64 (x10_6 + 1)) t674 t677 t692 t695) = some r := by rw [if_pos rfl] at H; exact H
                  clear H
                  have H := H1
                  clear H1
                  have H' := Aside0.mk H
                  clear H
                  have hnb74 := NB683_690.out
                  have hnc74 := NB690_683.out
                  have hnb75 := NB683_698.out
                  have hnc75 := NB698_683.out
                  have hcz76_0 : wr.cell? ⟨gb683, 0, none⟩ = some (.slice (some ad702) t674.length co12) := (blk_cell BK683.out 0).trans rfl
                  have hcz76_1 : wr.cell? ⟨gb683, 1, none⟩ = some (.slice Ao14 t677.length co14) := (blk_cell BK683.out 1).trans rfl
                  have hfz76_0 := blk_frozen BK683.out 0
                  have hfz76_1 := blk_frozen BK683.out 1
                  go_wp2
                  repeat (go_quiet (fail); try go_wp2)
                  go_roundg k6
                  case measure => have := HJ1.out; have := HJ8.out; have := HJ34.out; have := HK4.out; have := HJ39.out; have := HK6.out; omega
                  case rel => exact ⟨(true), (wrap64 (x10_6 + 1)), (by first | rfl | (simp; done) | (simp [*]; done)), (by first | rfl | (simp; done) | (simp [*]; done)), H', ⟨by have := HJ1.out; have := HJ8.out; have := HJ34.out; have := HK4.out; have := HJ39.out; have := HK6.out; omega⟩, ⟨pR HO_684000.out⟩, ⟨pR HO_684001.out⟩, ⟨pR HO_691000.out⟩, ⟨pR HO_691001.out⟩, ⟨pR HO_699000.out⟩, ⟨pR HO_699001.out⟩, ⟨pK BK683.out⟩, ⟨pK BK690.out⟩, ⟨pK BK698.out⟩, ⟨by repeat (first | (with_reducible first | exact HB.out | apply below_alloc | apply pw_below_drewN | apply below_drew1 | refine below_set ?_ GE683.out | refine below_set ?_ GE690.out | refine below_set ?_ GE698.out) | exact HB.out)⟩⟩
                 ·replace c73 := Bool.eq_false_iff.mpr c73
                  subst c73
                  have H1 : (if 0 ≤ x10_6 then (if ((rd_T54 t677 x10_6).f0) = x8_4 then (if 0 ≤ x8_4 then (if x8_4 < (t692.length : Int) then (laws_FnSecCut.l1 k6 x8_4 (((rd_T54 t677 x10_6).f1).toList == (rdOf ByteArray.empty t692 x8_4).toList) (wrap64 (x10_6 + 1)) t674 t677 t692 t695) else (none)) else (none)) else (laws_FnSecCut.l1 k6 x8_4 false (wrap64 (x10_6 + 1)) t674 t677 t692 t695)) else (none)) = some r := by rw [if_neg (show ¬ (false = true) by decide)] at H; exact H
                  clear H
                  have H := H1
                  clear H1
                  by_cases c77 : 0 ≤ x10_6
                  ·rw [if_pos c77] at H
                   have c77b0 : decide (0 ≤ x10_6) = true := decide_eq_true c77
                   clear c77
                   by_cases c78 : ((rd_T54 t677 x10_6).f0) = x8_4
                   ·rw [if_pos c78] at H
                    have c78b0 : (((rd_T54 t677 x10_6).f0) == x8_4) = true := beq_iff_eq.mpr c78
                    have c78b1 : (((rd_T54 t677 x10_6).f0) != x8_4) = false := bne_eq_false_iff_eq.mpr c78
                    clear c78
                    by_cases c79 : 0 ≤ x8_4
                    ·rw [if_pos c79] at H
                     have c79b0 : decide (0 ≤ x8_4) = true := decide_eq_true c79
                     clear c79
                     by_cases c80 : x8_4 < (t692.length : Int)
                     ·rw [if_pos c80] at H
                      have c80b0 : decide (x8_4 < (t692.length : Int)) = true := decide_eq_true c80
                      clear c80
                      have H' := Aside0.mk H
                      clear H
                      have hnb81 := NB683_690.out
                      have hnc81 := NB690_683.out
                      have hnb82 := NB683_698.out
                      have hnc82 := NB698_683.out
                      have hcz83_0 : wr.cell? ⟨gb683, 0, none⟩ = some (.slice (some ad702) t674.length co12) := (blk_cell BK683.out 0).trans rfl
                      have hcz83_1 : wr.cell? ⟨gb683, 1, none⟩ = some (.slice Ao14 t677.length co14) := (blk_cell BK683.out 1).trans rfl
                      have hfz83_0 := blk_frozen BK683.out 0
                      have hfz83_1 := blk_frozen BK683.out 1
                      have p703 : 0 ≤ (x10_6 : Int) := of_decide_eq_true bA
                      have q703 : x10_6 < (t677.length : Int) := of_decide_eq_true bA
                      obtain ⟨ad703, e703, hx703_0, hx703_1⟩ := at_T54 (Kd.R_reads' HO_684001.out).2.2 x10_6 p703 q703
                      cases e703
                      replace p703 := eq_true p703
                      replace q703 := eq_true q703
                      have p704 : 0 ≤ (x10_6 : Int) := of_decide_eq_true bA
                      have q704 : x10_6 < (t677.length : Int) := of_decide_eq_true bA
                      obtain ⟨ad704, e704, hx704_0, hx704_1⟩ := at_T54 (Kd.R_reads' HO_684001.out).2.2 x10_6 p704 q704
                      obtain rfl : ad703 = ad704 := (by injection e704)
                      replace p704 := eq_true p704
                      replace q704 := eq_true q704
                      have hnb84 := NB698_690.out
                      have hnc84 := NB690_698.out
                      have hcz85_0 : wr.cell? ⟨gb698, 0, none⟩ = some (.slice (some ad701) t692.length co27) := (blk_cell BK698.out 0).trans rfl
                      have hcz85_1 : wr.cell? ⟨gb698, 1, none⟩ = some (.slice Ao31 t695.length co31) := (blk_cell BK698.out 1).trans rfl
                      have hfz85_0 := blk_frozen BK698.out 0
                      have hfz85_1 := blk_frozen BK698.out 1
                      have p705 : 0 ≤ (x8_4 : Int) := of_decide_eq_true bA
                      have q705 : x8_4 < (t692.length : Int) := of_decide_eq_true bA
                      obtain ⟨ad705, e705, hx705_0⟩ := Kd.at_string (Kd.R_reads' HO_699000.out).2.2 x8_4 p705 q705
                      obtain rfl : ad701 = ad705 := (by injection e705)
                      replace p705 := eq_true p705
                      replace q705 := eq_true q705
                      go_wp2
                      repeat (go_quiet (fail); try go_wp2)
                      go_roundg k6
                      case measure => have := HJ1.out; have := HJ8.out; have := HJ34.out; have := HK4.out; have := HJ39.out; have := HK6.out; omega
                      case rel => exact ⟨((((rd_T54 t677 x10_6).f1).toList == (rdOf ByteArray.empty t692 x8_4).toList)), (wrap64 (x10_6 + 1)), (by first | rfl | (simp; done) | (simp [*]; done)), (by first | rfl | (simp; done) | (simp [*]; done)), H', ⟨by have := HJ1.out; have := HJ8.out; have := HJ34.out; have := HK4.out; have := HJ39.out; have := HK6.out; omega⟩, ⟨pR HO_684000.out⟩, ⟨pR HO_684001.out⟩, ⟨pR HO_691000.out⟩, ⟨pR HO_691001.out⟩, ⟨pR HO_699000.out⟩, ⟨pR HO_699001.out⟩, ⟨pK BK683.out⟩, ⟨pK BK690.out⟩, ⟨pK BK698.out⟩, ⟨by repeat (first | (with_reducible first | exact HB.out | apply below_alloc | apply pw_below_drewN | apply below_drew1 | refine below_set ?_ GE683.out | refine below_set ?_ GE690.out | refine below_set ?_ GE698.out) | exact HB.out)⟩⟩
                     ·rw [if_neg c80] at H
                      exact absurd H (by simp)
                    ·rw [if_neg c79] at H
                     exact absurd H (by simp)
                   ·rw [if_neg c78] at H
                    have c78b0 : (((rd_T54 t677 x10_6).f0) == x8_4) = false := beq_eq_false_iff_ne.mpr c78
                    have c78b1 : (((rd_T54 t677 x10_6).f0) != x8_4) = true := bne_iff_ne.mpr c78
                    have H' := Aside0.mk H
                    clear H
                    have hnb86 := NB683_690.out
                    have hnc86 := NB690_683.out
                    have hnb87 := NB683_698.out
                    have hnc87 := NB698_683.out
                    have hcz88_0 : wr.cell? ⟨gb683, 0, none⟩ = some (.slice (some ad702) t674.length co12) := (blk_cell BK683.out 0).trans rfl
                    have hcz88_1 : wr.cell? ⟨gb683, 1, none⟩ = some (.slice Ao14 t677.length co14) := (blk_cell BK683.out 1).trans rfl
                    have hfz88_0 := blk_frozen BK683.out 0
                    have hfz88_1 := blk_frozen BK683.out 1
                    have p703 : 0 ≤ (x10_6 : Int) := of_decide_eq_true bA
                    have q703 : x10_6 < (t677.length : Int) := of_decide_eq_true bA
                    obtain ⟨ad703, e703, hx703_0, hx703_1⟩ := at_T54 (Kd.R_reads' HO_684001.out).2.2 x10_6 p703 q703
                    cases e703
                    replace p703 := eq_true p703
                    replace q703 := eq_true q703
                    go_wp2
                    repeat (go_quiet (fail); try go_wp2)
                    go_roundg k6
                    case measure => have := HJ1.out; have := HJ8.out; have := HJ34.out; have := HK4.out; have := HJ39.out; have := HK6.out; omega
                    case rel => exact ⟨(false), (wrap64 (x10_6 + 1)), (by first | rfl | (simp; done) | (simp [*]; done)), (by first | rfl | (simp; done) | (simp [*]; done)), H', ⟨by have := HJ1.out; have := HJ8.out; have := HJ34.out; have := HK4.out; have := HJ39.out; have := HK6.out; omega⟩, ⟨pR HO_684000.out⟩, ⟨pR HO_684001.out⟩, ⟨pR HO_691000.out⟩, ⟨pR HO_691001.out⟩, ⟨pR HO_699000.out⟩, ⟨pR HO_699001.out⟩, ⟨pK BK683.out⟩, ⟨pK BK690.out⟩, ⟨pK BK698.out⟩, ⟨by repeat (first | (with_reducible first | exact HB.out | apply below_alloc | apply pw_below_drewN | apply below_drew1 | refine below_set ?_ GE683.out | refine below_set ?_ GE690.out | refine below_set ?_ GE698.out) | exact HB.out)⟩⟩
                  ·rw [if_neg c77] at H
                   exact absurd H (by simp)
                ·rw [if_neg c72] at H
                 have c72b0 : decide (x10_6 < (t677.length : Int)) = false := decide_eq_false c72
                 clear c72
                 by_cases c89 : x9_6 = true
                 ·subst c89
                  have H1 : (laws_FnSecCut.l0 k6 (wrap64 (x8_4 + 1)) t674 t677 t692 t695) = some r := by rw [if_pos rfl] at H; exact H
                  clear H
                  have H := H1
                  clear H1
                  have H' := Aside0.mk H
                  clear H
                  have hnb90 := NB683_690.out
                  have hnc90 := NB690_683.out
                  have hnb91 := NB683_698.out
                  have hnc91 := NB698_683.out
                  have hcz92_0 : wr.cell? ⟨gb683, 0, none⟩ = some (.slice (some ad702) t674.length co12) := (blk_cell BK683.out 0).trans rfl
                  have hcz92_1 : wr.cell? ⟨gb683, 1, none⟩ = some (.slice Ao14 t677.length co14) := (blk_cell BK683.out 1).trans rfl
                  have hfz92_0 := blk_frozen BK683.out 0
                  have hfz92_1 := blk_frozen BK683.out 1
                  go_wp2
                  repeat (go_quiet (fail); try go_wp2)
                  go_roundg k6
                  case measure => have := HJ1.out; have := HJ8.out; have := HJ34.out; have := HK4.out; have := HJ39.out; have := HK6.out; omega
                  case rel => exact ⟨(wrap64 (x8_4 + 1)), (by first | rfl | (simp; done) | (simp [*]; done)), H', ⟨by have := HJ1.out; have := HJ8.out; have := HJ34.out; have := HK4.out; have := HJ39.out; have := HK6.out; omega⟩, ⟨pR HO_684000.out⟩, ⟨pR HO_684001.out⟩, ⟨pR HO_691000.out⟩, ⟨pR HO_691001.out⟩, ⟨pR HO_699000.out⟩, ⟨pR HO_699001.out⟩, ⟨pK BK683.out⟩, ⟨pK BK690.out⟩, ⟨pK BK698.out⟩, ⟨by repeat (first | (with_reducible first | exact HB.out | apply below_alloc | apply pw_below_drewN | apply below_drew1 | refine below_set ?_ GE683.out | refine below_set ?_ GE690.out | refine below_set ?_ GE698.out) | exact HB.out)⟩⟩
                 ·replace c89 := Bool.eq_false_iff.mpr c89
                  subst c89
                  have H1 : (some false) = some r := by rw [if_neg (show ¬ (false = true) by decide)] at H; exact H
                  clear H
                  have H := H1
                  clear H1
                  obtain rfl := Option.some.inj H
                  have hnb93 := NB683_690.out
                  have hnc93 := NB690_683.out
                  have hnb94 := NB683_698.out
                  have hnc94 := NB698_683.out
                  have hcz95_0 : wr.cell? ⟨gb683, 0, none⟩ = some (.slice (some ad702) t674.length co12) := (blk_cell BK683.out 0).trans rfl
                  have hcz95_1 : wr.cell? ⟨gb683, 1, none⟩ = some (.slice Ao14 t677.length co14) := (blk_cell BK683.out 1).trans rfl
                  have hfz95_0 := blk_frozen BK683.out 0
                  have hfz95_1 := blk_frozen BK683.out 1
                  go_wp2
                  repeat (go_quiet (fail); try go_wp2)
                  go_ret
                  exact ⟨by first | rfl | (simp [errW_none, errW_some] <;> rfl) | (simp [*, errW_none, errW_some] <;> rfl), by repeat (first | (with_reducible first | exact HB.out | apply below_alloc | apply pw_below_drewN | apply below_drew1 | refine below_set ?_ GE683.out | refine below_set ?_ GE690.out | refine below_set ?_ GE698.out) | exact HB.out)⟩
             ·rw [if_neg c66] at H
              exact absurd H (by simp)
            ·rw [if_neg c65] at H
             exact absurd H (by simp)
           ·rw [if_neg c64] at H
            exact absurd H (by simp)

/-- THE ONE PURE STATEMENT of laws_FnSecCut: yours. -/
def laws_FnSecCut.Pure : Prop := ∀ (l0 : List Int), l0.length ≤ maxLen → l0.length * 1 ≤ 140737488351232 → (∀ x ∈ l0, (Lit.int .u8 x).wf = true) → ∃ k, laws_FnSecCut.f k l0 = some true
theorem laws_FnSecCut.walk (P : laws_FnSecCut.Pure) (a0 : Option Addr) (len0 cap0 : Nat) (z0 : List Int) (w : World) (w0 : (a0 = none ∧ len0 = 0 ∧ cap0 = 0 ∧ z0 = []) ∨ ∃ x, a0 = some x ∧ len0 ≤ cap0 ∧ cap0 ≤ maxLen ∧ z0.length = cap0 ∧ (∀ i, i < z0.length → w.cell? (x.add i) = some (.int .u8 (z0.getD i 0))) ∧ ∀ n ∈ z0, (Lit.int .u8 n).wf = true) (y0 : len0 * 1 ≤ 140737488351232) :
  Calls Try.prog 10 #[.slice a0 len0 cap0] w fun e w' => e = .returned (.bool true) ∧ Below w.heap.size w w' := by
 obtain ⟨l0, rfl, hr0, hm0, hw0, hc0⟩ := ReadsInt.ofRowC w0
 obtain ⟨k, h⟩ := P l0 hm0 y0 hw0
 refine (laws_FnSecCut.calls k _ _ l0 true w (Kd.C_of_reads (d := (0 : Int)) (h1 := fun _ => rfl) hr0) hc0 h).mono ?_
 rintro e w' ⟨rfl, hd⟩
 exact ⟨rfl, hd⟩

end Go.Proofs.Ythkdhcaojhbfoaa.P
