-- printed by pprint.py (this session's program over the kit's printer) out of the translation. Lean checks it.
import Derived.Test.YthkdhcaojhbfoaaPx0
import Derived.Test.YthkdhcaojhbfoaaPx3
import Derived.Test.YthkdhcaojhbfoaaPx5
import Derived.Test.YthkdhcaojhbfoaaPx13
import Derived.Test.YthkdhcaojhbfoaaPx14
import Derived.Test.YthkdhcaojhbfoaaPx16
import Derived.Test.YthkdhcaojhbfoaaPx17
import Derived.Test.YthkdhcaojhbfoaaPx20
import Derived.Test.YthkdhcaojhbfoaaPx30
namespace Go.Proofs.Ythkdhcaojhbfoaa.P
open Go.RowKit Go.Proofs.YthkdhcaojhbfoaaX Go.Proofs.YthkdhcaojhbfoaaW.PrintWords Go.Proofs.YthkdhcaojhbfoaaW.PrintLast Go.Proofs.YthkdhcaojhbfoaaW.PrintMore
attribute [local go_sem] max2_int min2_int max_two min_two max_three min_three max_four min_four   -- for this text's walks alone
set_option linter.unusedVariables false
set_option linter.unusedSimpArgs false

/-! ### laws_FnSecFlush: function 11 -/
mutual
def laws_FnSecFlush.j0 : Nat → List Int → List Int → Bool → Option (Bool)
 | 0, _, _, _ => none
 | k + 1, x0, x1, x18 => if x18 = true then (some true) else ((spec_DrawSecFlush.f k x0).bind fun bt717 => ((spec_DrawSecCut.f k x1).bind fun bt724 => ((spec_SecFlush.f k bt717.1 bt717.2).bind fun bt734 => ((impl_SecFlush.f k bt717.1 bt717.2).bind fun bt741 => ((laws_lpSec.f k bt741.1 bt741.2 bt734.1 bt734.2).bind fun t748 => (if t748 = true then ((impl_SecCut.f k bt741.1 bt741.2 bt724.2.2).bind fun bt749 => ((laws_lpSec.f k bt749.1 bt749.2 bt741.1 bt741.2).bind fun t755 => (laws_FnSecFlush.j1 k (!t755) bt717.1 bt717.2 bt741.1 bt741.2))) else (laws_FnSecFlush.j1 k true bt717.1 bt717.2 bt741.1 bt741.2)))))))
def laws_FnSecFlush.j1 : Nat → Bool → List ByteArray → List (S54) → List ByteArray → List (S54) → Option (Bool)
 | 0, _, _, _, _, _ => none
 | k + 1, x41, x724000, x724001, x748000, x748001 => if x41 = true then (some false) else (laws_FnSecFlush.l0 k 0 x724000 x724001 x748000 x748001)
def laws_FnSecFlush.l0 : Nat → Int → List ByteArray → List (S54) → List ByteArray → List (S54) → Option (Bool)
 | 0, _, _, _, _, _ => none
 | k + 1, x10, x724000, x724001, x748000, x748001 => if x10 < (x724000.length : Int) then ((spec_SecOk.f k x724000 x724001).bind fun t756 => (laws_FnSecFlush.j3 k x10 t756 x724000 x724001 x748000 x748001)) else (laws_FnSecFlush.j3 k x10 false x724000 x724001 x748000 x748001)
def laws_FnSecFlush.j3 : Nat → Int → Bool → List ByteArray → List (S54) → List ByteArray → List (S54) → Option (Bool)
 | 0, _, _, _, _, _, _ => none
 | k + 1, x10, x50, x724000, x724001, x748000, x748001 => if x50 = true then ((impl_SecLook.f k x748000 x748001 x10).bind fun t757 => ((impl_SecLook.f k x724000 x724001 x10).bind fun t758 => (if t757.toList = t758.toList then (laws_FnSecFlush.l0 k (wrap64 (x10 + 1)) x724000 x724001 x748000 x748001) else (some false)))) else (some true)
end
def laws_FnSecFlush.f (k : Nat) (l0 : List Int) (l1 : List Int) : Option (Bool) := if (l0.length : Int) > 1048576 then (laws_FnSecFlush.j0 k l0 l1 true) else (laws_FnSecFlush.j0 k l0 l1 (decide ((l1.length : Int) > 1048576)))
theorem laws_FnSecFlush.mono_l : ∀ k, (∀ y0 y1 y2, LeO (laws_FnSecFlush.j0 k y0 y1 y2) (laws_FnSecFlush.j0 (k + 1) y0 y1 y2)) ∧ (∀ y0 y1 y2 y3 y4, LeO (laws_FnSecFlush.j1 k y0 y1 y2 y3 y4) (laws_FnSecFlush.j1 (k + 1) y0 y1 y2 y3 y4)) ∧ (∀ y0 y1 y2 y3 y4, LeO (laws_FnSecFlush.l0 k y0 y1 y2 y3 y4) (laws_FnSecFlush.l0 (k + 1) y0 y1 y2 y3 y4)) ∧ (∀ y0 y1 y2 y3 y4 y5, LeO (laws_FnSecFlush.j3 k y0 y1 y2 y3 y4 y5) (laws_FnSecFlush.j3 (k + 1) y0 y1 y2 y3 y4 y5))
 | 0 => ⟨fun _ _ _ r h => by simp [laws_FnSecFlush.j0] at h, fun _ _ _ _ _ r h => by simp [laws_FnSecFlush.j1] at h, fun _ _ _ _ _ r h => by simp [laws_FnSecFlush.l0] at h, fun _ _ _ _ _ _ r h => by simp [laws_FnSecFlush.j3] at h⟩
 | k + 1 => by
  obtain ⟨ih0, ih1, ih2, ih3⟩ := laws_FnSecFlush.mono_l k
  refine ⟨?_, ?_, ?_, ?_⟩
  ·intro y0 y1 y2
   unfold laws_FnSecFlush.j0
   repeat' first
   | (with_reducible exact ih0 _ _ _)
   | (with_reducible exact ih1 _ _ _ _ _)
   | (with_reducible exact ih2 _ _ _ _ _)
   | (with_reducible exact ih3 _ _ _ _ _ _)
   | (with_reducible exact impl_SecCut.mono _ _ _ _)
   | (with_reducible exact impl_SecFlush.mono _ _ _)
   | (with_reducible exact impl_SecLook.mono _ _ _ _)
   | (with_reducible exact laws_lpSec.mono _ _ _ _ _)
   | (with_reducible exact spec_DrawSecCut.mono _ _)
   | (with_reducible exact spec_DrawSecFlush.mono _ _)
   | (with_reducible exact spec_SecFlush.mono _ _ _)
   | (with_reducible exact spec_SecOk.mono _ _ _)
   | (with_reducible exact LeO.refl _)
   | (with_reducible exact LeO.none _)
   | (with_reducible refine LeO.ite ?_ ?_)
   | (with_reducible refine LeO.bind ?_ (fun _ => ?_))
   | exact ih0 _ _ _
   | exact ih1 _ _ _ _ _
   | exact ih2 _ _ _ _ _
   | exact ih3 _ _ _ _ _ _
   | exact impl_SecCut.mono _ _ _ _
   | exact impl_SecFlush.mono _ _ _
   | exact impl_SecLook.mono _ _ _ _
   | exact laws_lpSec.mono _ _ _ _ _
   | exact spec_DrawSecCut.mono _ _
   | exact spec_DrawSecFlush.mono _ _
   | exact spec_SecFlush.mono _ _ _
   | exact spec_SecOk.mono _ _ _
   | exact LeO.none _
   | refine LeO.ite ?_ ?_
   | refine LeO.bind ?_ (fun _ => ?_)
  ·intro y0 y1 y2 y3 y4
   unfold laws_FnSecFlush.j1
   repeat' first
   | (with_reducible exact ih0 _ _ _)
   | (with_reducible exact ih1 _ _ _ _ _)
   | (with_reducible exact ih2 _ _ _ _ _)
   | (with_reducible exact ih3 _ _ _ _ _ _)
   | (with_reducible exact impl_SecCut.mono _ _ _ _)
   | (with_reducible exact impl_SecFlush.mono _ _ _)
   | (with_reducible exact impl_SecLook.mono _ _ _ _)
   | (with_reducible exact laws_lpSec.mono _ _ _ _ _)
   | (with_reducible exact spec_DrawSecCut.mono _ _)
   | (with_reducible exact spec_DrawSecFlush.mono _ _)
   | (with_reducible exact spec_SecFlush.mono _ _ _)
   | (with_reducible exact spec_SecOk.mono _ _ _)
   | (with_reducible exact LeO.refl _)
   | (with_reducible exact LeO.none _)
   | (with_reducible refine LeO.ite ?_ ?_)
   | (with_reducible refine LeO.bind ?_ (fun _ => ?_))
   | exact ih0 _ _ _
   | exact ih1 _ _ _ _ _
   | exact ih2 _ _ _ _ _
   | exact ih3 _ _ _ _ _ _
   | exact impl_SecCut.mono _ _ _ _
   | exact impl_SecFlush.mono _ _ _
   | exact impl_SecLook.mono _ _ _ _
   | exact laws_lpSec.mono _ _ _ _ _
   | exact spec_DrawSecCut.mono _ _
   | exact spec_DrawSecFlush.mono _ _
   | exact spec_SecFlush.mono _ _ _
   | exact spec_SecOk.mono _ _ _
   | exact LeO.none _
   | refine LeO.ite ?_ ?_
   | refine LeO.bind ?_ (fun _ => ?_)
  ·intro y0 y1 y2 y3 y4
   unfold laws_FnSecFlush.l0
   repeat' first
   | (with_reducible exact ih0 _ _ _)
   | (with_reducible exact ih1 _ _ _ _ _)
   | (with_reducible exact ih2 _ _ _ _ _)
   | (with_reducible exact ih3 _ _ _ _ _ _)
   | (with_reducible exact impl_SecCut.mono _ _ _ _)
   | (with_reducible exact impl_SecFlush.mono _ _ _)
   | (with_reducible exact impl_SecLook.mono _ _ _ _)
   | (with_reducible exact laws_lpSec.mono _ _ _ _ _)
   | (with_reducible exact spec_DrawSecCut.mono _ _)
   | (with_reducible exact spec_DrawSecFlush.mono _ _)
   | (with_reducible exact spec_SecFlush.mono _ _ _)
   | (with_reducible exact spec_SecOk.mono _ _ _)
   | (with_reducible exact LeO.refl _)
   | (with_reducible exact LeO.none _)
   | (with_reducible refine LeO.ite ?_ ?_)
   | (with_reducible refine LeO.bind ?_ (fun _ => ?_))
   | exact ih0 _ _ _
   | exact ih1 _ _ _ _ _
   | exact ih2 _ _ _ _ _
   | exact ih3 _ _ _ _ _ _
   | exact impl_SecCut.mono _ _ _ _
   | exact impl_SecFlush.mono _ _ _
   | exact impl_SecLook.mono _ _ _ _
   | exact laws_lpSec.mono _ _ _ _ _
   | exact spec_DrawSecCut.mono _ _
   | exact spec_DrawSecFlush.mono _ _
   | exact spec_SecFlush.mono _ _ _
   | exact spec_SecOk.mono _ _ _
   | exact LeO.none _
   | refine LeO.ite ?_ ?_
   | refine LeO.bind ?_ (fun _ => ?_)
  ·intro y0 y1 y2 y3 y4 y5
   unfold laws_FnSecFlush.j3
   repeat' first
   | (with_reducible exact ih0 _ _ _)
   | (with_reducible exact ih1 _ _ _ _ _)
   | (with_reducible exact ih2 _ _ _ _ _)
   | (with_reducible exact ih3 _ _ _ _ _ _)
   | (with_reducible exact impl_SecCut.mono _ _ _ _)
   | (with_reducible exact impl_SecFlush.mono _ _ _)
   | (with_reducible exact impl_SecLook.mono _ _ _ _)
   | (with_reducible exact laws_lpSec.mono _ _ _ _ _)
   | (with_reducible exact spec_DrawSecCut.mono _ _)
   | (with_reducible exact spec_DrawSecFlush.mono _ _)
   | (with_reducible exact spec_SecFlush.mono _ _ _)
   | (with_reducible exact spec_SecOk.mono _ _ _)
   | (with_reducible exact LeO.refl _)
   | (with_reducible exact LeO.none _)
   | (with_reducible refine LeO.ite ?_ ?_)
   | (with_reducible refine LeO.bind ?_ (fun _ => ?_))
   | exact ih0 _ _ _
   | exact ih1 _ _ _ _ _
   | exact ih2 _ _ _ _ _
   | exact ih3 _ _ _ _ _ _
   | exact impl_SecCut.mono _ _ _ _
   | exact impl_SecFlush.mono _ _ _
   | exact impl_SecLook.mono _ _ _ _
   | exact laws_lpSec.mono _ _ _ _ _
   | exact spec_DrawSecCut.mono _ _
   | exact spec_DrawSecFlush.mono _ _
   | exact spec_SecFlush.mono _ _ _
   | exact spec_SecOk.mono _ _ _
   | exact LeO.none _
   | refine LeO.ite ?_ ?_
   | refine LeO.bind ?_ (fun _ => ?_)
theorem laws_FnSecFlush.mono : ∀ a0 a1 k, LeO (laws_FnSecFlush.f k a0 a1) (laws_FnSecFlush.f (k + 1) a0 a1) := by
 intro a0 a1 k
 obtain ⟨ih0, ih1, ih2, ih3⟩ := laws_FnSecFlush.mono_l k
 unfold laws_FnSecFlush.f
 repeat' first
   | (with_reducible exact ih0 _ _ _)
   | (with_reducible exact ih1 _ _ _ _ _)
   | (with_reducible exact ih2 _ _ _ _ _)
   | (with_reducible exact ih3 _ _ _ _ _ _)
   | (with_reducible exact impl_SecCut.mono _ _ _ _)
   | (with_reducible exact impl_SecFlush.mono _ _ _)
   | (with_reducible exact impl_SecLook.mono _ _ _ _)
   | (with_reducible exact laws_lpSec.mono _ _ _ _ _)
   | (with_reducible exact spec_DrawSecCut.mono _ _)
   | (with_reducible exact spec_DrawSecFlush.mono _ _)
   | (with_reducible exact spec_SecFlush.mono _ _ _)
   | (with_reducible exact spec_SecOk.mono _ _ _)
   | (with_reducible exact LeO.refl _)
   | (with_reducible exact LeO.none _)
   | (with_reducible refine LeO.ite ?_ ?_)
   | (with_reducible refine LeO.bind ?_ (fun _ => ?_))
   | exact ih0 _ _ _
   | exact ih1 _ _ _ _ _
   | exact ih2 _ _ _ _ _
   | exact ih3 _ _ _ _ _ _
   | exact impl_SecCut.mono _ _ _ _
   | exact impl_SecFlush.mono _ _ _
   | exact impl_SecLook.mono _ _ _ _
   | exact laws_lpSec.mono _ _ _ _ _
   | exact spec_DrawSecCut.mono _ _
   | exact spec_DrawSecFlush.mono _ _
   | exact spec_SecFlush.mono _ _ _
   | exact spec_SecOk.mono _ _ _
   | exact LeO.none _
   | refine LeO.ite ?_ ?_
   | refine LeO.bind ?_ (fun _ => ?_)
def laws_FnSecFlush.T7 : Bool × List (List Nat × List Nat) := (true, [([], []), ([], []), ([0, 1], [0, 1]), ([2], [2]), ([3, 2], [3]), ([4], [4]), ([4], [4]), ([5, 6, 4, 4], [4, 5, 6]), ([4], [4]), ([7, 8, 7, 4], [4, 7, 8]), ([9, 4], [4, 9]), ([4, 10], [4, 10])])
def laws_FnSecFlush.B7 : List Nat := [0, 0, 3, 7, 15, 31, 31, 127, 31, 511, 1023, 2047]
theorem laws_FnSecFlush.tab7 : rtab .any (opsOf Try.f11 7) = laws_FnSecFlush.T7 := by kernel_rfl
theorem laws_FnSecFlush.bits7 : waitsOk laws_FnSecFlush.T7.2 laws_FnSecFlush.B7 = true := by kernel_rfl
set_option maxHeartbeats 8000000 in
set_option maxRecDepth 100000 in
theorem laws_FnSecFlush.calls (k : Nat) (A0 : Option Addr) (c0 : Nat) (l0 : List Int) (A1 : Option Addr) (c1 : Nat) (l1 : List Int) (r : Bool) (w : World) (hr0 : Kd.C (Kd.int .u8) w A0 l0.length l0) (hc0 : l0.length ≤ c0) (hr1 : Kd.C (Kd.int .u8) w A1 l1.length l1) (hc1 : l1.length ≤ c1) (h : laws_FnSecFlush.f k l0 l1 = some r) :
  Calls Try.prog 11 #[.slice A0 l0.length c0, .slice A1 l1.length c1] w fun e w' => e = .returned (.bool r) ∧ Below w.heap.size w w' := by
 have hu26 := Try.underlying26
 have HR0 := Aside0.mk hr0
 have HC0 := Aside0.mk hc0
 clear hr0 hc0
 have HR1 := Aside0.mk hr1
 have HC1 := Aside0.mk hc1
 clear hr1 hc1
 have HB := Aside0.mk (Below.refl w.heap.size w)
 have H : (if (l0.length : Int) > 1048576 then (laws_FnSecFlush.j0 k l0 l1 true) else (laws_FnSecFlush.j0 k l0 l1 (decide ((l1.length : Int) > 1048576)))) = some r := h
 clear h
 have HC3 := Aside0.mk H
 clear H
 go_enter Try.func11, Try.ntmps11
 go_upto_region 1 with (fail)
 go_cut [18] (fun v18 wc => ∃ (kq : Nat) (x18_2 : Bool), v18 = .bool x18_2 ∧ Aside0 (laws_FnSecFlush.j0 kq l0 l1 x18_2 = some r) ∧ Aside0 (kq ≤ k) ∧ Aside0 (Below w.heap.size w wc))
 case first =>
  have H := HC3.out
  clear HC3
  by_cases c4 : (l0.length : Int) > 1048576
  ·rw [if_pos c4] at H
   have c4b0 : decide (1048576 < (l0.length : Int)) = true := decide_eq_true c4
   have c4b1 : decide (1048576 < l0.length) = true := decide_eq_true (by omega)
   clear c4
   (first | rw [c4b0] | (simp only [i64_w, i32_w]; rw [c4b0]) | skip)
   have H' := Aside0.mk H
   clear H
   go_wp2
   go_meet
   case rel => exact ⟨_, (true), (by first | rfl | (simp; done) | (simp [*]; done)), H', ⟨by first | omega | exact Nat.le_refl _⟩, ⟨pB HB.out⟩⟩
  ·rw [if_neg c4] at H
   have c4b0 : decide (1048576 < (l0.length : Int)) = false := decide_eq_false c4
   have c4b1 : decide (1048576 < l0.length) = false := decide_eq_false (by omega)
   clear c4
   (first | rw [c4b0] | (simp only [i64_w, i32_w]; rw [c4b0]) | skip)
   have H' := Aside0.mk H
   clear H
   go_wp2
   go_meet
   case rel => exact ⟨_, (decide ((l1.length : Int) > 1048576)), (by first | rfl | (simp; done) | (simp [*]; done)), H', ⟨by first | omega | exact Nat.le_refl _⟩, ⟨pB HB.out⟩⟩
 case rest =>
  clear HC3
  try clear c1
  try clear p2
  try clear c4
  try clear c4b0
  try clear c4b1
  obtain ⟨kq, x18_2, rfl, HA, HJ2, HB⟩ := hcut
  cases kq with
  | zero => exact absurd HA.out (by simp [laws_FnSecFlush.j0])
  | succ kj2 =>
   have H := HA.out
   clear HA
   simp only [laws_FnSecFlush.j0] at H
   by_cases c5 : x18_2 = true
   ·subst c5
    have H1 : (some true) = some r := by rw [if_pos rfl] at H; exact H
    clear H
    have H := H1
    clear H1
    obtain rfl := Option.some.inj H
    go_wp2
    go_ret
    exact ⟨by first | rfl | (simp [errW_none, errW_some] <;> rfl) | (simp [*, errW_none, errW_some] <;> rfl), pB HB.out⟩
   ·replace c5 := Bool.eq_false_iff.mpr c5
    subst c5
    have H1 : ((spec_DrawSecFlush.f kj2 l0).bind fun bt717 => ((spec_DrawSecCut.f kj2 l1).bind fun bt724 => ((spec_SecFlush.f kj2 bt717.1 bt717.2).bind fun bt734 => ((impl_SecFlush.f kj2 bt717.1 bt717.2).bind fun bt741 => ((laws_lpSec.f kj2 bt741.1 bt741.2 bt734.1 bt734.2).bind fun t748 => (if t748 = true then ((impl_SecCut.f kj2 bt741.1 bt741.2 bt724.2.2).bind fun bt749 => ((laws_lpSec.f kj2 bt749.1 bt749.2 bt741.1 bt741.2).bind fun t755 => (laws_FnSecFlush.j1 kj2 (!t755) bt717.1 bt717.2 bt741.1 bt741.2))) else (laws_FnSecFlush.j1 kj2 true bt717.1 bt717.2 bt741.1 bt741.2))))))) = some r := by rw [if_neg (show ¬ (false = true) by decide)] at H; exact H
    clear H
    have H := H1
    clear H1
    replace H := Option.bind_eq_some_iff.mp H
    obtain ⟨⟨t717, t720⟩, A60, H⟩ := H
    replace H : ((spec_DrawSecCut.f kj2 l1).bind fun bt724 => ((spec_SecFlush.f kj2 t717 t720).bind fun bt734 => ((impl_SecFlush.f kj2 t717 t720).bind fun bt741 => ((laws_lpSec.f kj2 bt741.1 bt741.2 bt734.1 bt734.2).bind fun t748 => (if t748 = true then ((impl_SecCut.f kj2 bt741.1 bt741.2 bt724.2.2).bind fun bt749 => ((laws_lpSec.f kj2 bt749.1 bt749.2 bt741.1 bt741.2).bind fun t755 => (laws_FnSecFlush.j1 kj2 (!t755) t717 t720 bt741.1 bt741.2))) else (laws_FnSecFlush.j1 kj2 true t717 t720 bt741.1 bt741.2)))))) = some r := H
    have A6 := Aside0.mk A60
    clear A60
    replace H := Option.bind_eq_some_iff.mp H
    obtain ⟨⟨t724, t727, t730⟩, A70, H⟩ := H
    replace H : ((spec_SecFlush.f kj2 t717 t720).bind fun bt734 => ((impl_SecFlush.f kj2 t717 t720).bind fun bt741 => ((laws_lpSec.f kj2 bt741.1 bt741.2 bt734.1 bt734.2).bind fun t748 => (if t748 = true then ((impl_SecCut.f kj2 bt741.1 bt741.2 t730).bind fun bt749 => ((laws_lpSec.f kj2 bt749.1 bt749.2 bt741.1 bt741.2).bind fun t755 => (laws_FnSecFlush.j1 kj2 (!t755) t717 t720 bt741.1 bt741.2))) else (laws_FnSecFlush.j1 kj2 true t717 t720 bt741.1 bt741.2))))) = some r := H
    have A7 := Aside0.mk A70
    clear A70
    replace H := Option.bind_eq_some_iff.mp H
    obtain ⟨⟨t734, t737⟩, A80, H⟩ := H
    replace H : ((impl_SecFlush.f kj2 t717 t720).bind fun bt741 => ((laws_lpSec.f kj2 bt741.1 bt741.2 t734 t737).bind fun t748 => (if t748 = true then ((impl_SecCut.f kj2 bt741.1 bt741.2 t730).bind fun bt749 => ((laws_lpSec.f kj2 bt749.1 bt749.2 bt741.1 bt741.2).bind fun t755 => (laws_FnSecFlush.j1 kj2 (!t755) t717 t720 bt741.1 bt741.2))) else (laws_FnSecFlush.j1 kj2 true t717 t720 bt741.1 bt741.2)))) = some r := H
    have A8 := Aside0.mk A80
    clear A80
    replace H := Option.bind_eq_some_iff.mp H
    obtain ⟨⟨t741, t744⟩, A90, H⟩ := H
    replace H : ((laws_lpSec.f kj2 t741 t744 t734 t737).bind fun t748 => (if t748 = true then ((impl_SecCut.f kj2 t741 t744 t730).bind fun bt749 => ((laws_lpSec.f kj2 bt749.1 bt749.2 t741 t744).bind fun t755 => (laws_FnSecFlush.j1 kj2 (!t755) t717 t720 t741 t744))) else (laws_FnSecFlush.j1 kj2 true t717 t720 t741 t744))) = some r := H
    have A9 := Aside0.mk A90
    clear A90
    have HC10 := Aside0.mk H
    clear H
    go_upto_region 7 with (first | ((with_reducible refine gate_callee (f := 36) rfl ?_); refine goesL_ (some 20) rfl rfl Try.func36 (by kernel_rfl) rfl #[.slice A0 l0.length c0] rfl bM ?_; (with_reducible refine (spec_DrawSecFlush.calls kj2 _ _ l0 t717 t720 _ ?side1 ?side2 A6.out).mono ?_); (case side1 => repeat (first | exact (Kd.C_below HR0.out HB.out) | (with_reducible refine Kd.C_alloc ?_ _) | (with_reducible refine Kd.C_drewN ?_ _) | (with_reducible refine Kd.C_drew ?_))); (case side2 => exact HC0.out); rintro e w11 ⟨v718, v721, rfl, ho0, ho1, hb⟩; refine ⟨_, rfl, ?_⟩; have n0_ := Aside0.mk (Kd.R_lower ho0 (below_size (pB HB.out))); have n1_ := Aside0.mk (Kd.R_lower ho1 (below_size (pB HB.out))); have n2_ := Aside0.mk (below_step (pB HB.out) hb); clear HB; have HO719 := n0_; have HO722 := n1_; have HB := n2_; clear n0_ n1_ n2_; (try clear hb); (try clear hb2); (try clear hk); (try clear hi); (try clear ho0); (try clear ho1)) | ((with_reducible refine gate_dst (N := 5) rfl ?_); (try (refine gate_guard (by rfl) ?_; dsimp only)); refine box_event ?hg (N := 5) ?hd (cs := #[.slice none 0 0, .slice none 0 0]) (t := 26) ?hr ?_; (case hd => rfl); (case hg => rfl); (case hr => first | (go_simp; done) | (go_simp; rfl)); intro gb723 hg w12 hbox hb; have n0_ := Aside0.mk (Kd.R_below (pR HO719.out) hb); have n1_ := Aside0.mk (Kd.R_below (pR HO722.out) hb); have n2_ := Aside0.mk (below_step (pB HB.out) hb); have n3_ := Aside0.mk (hbox); have n4_ := Aside0.mk ((by rw [hg]; exact (below_size (pB HB.out)) : w.heap.size ≤ gb723)); have n5_ := Aside0.mk ((by rw [hg]; exact (below_size (pB HB.out)) : w.heap.size ≤ gb723)); clear HO719; clear HO722; clear HB; have HO719 := n0_; have HO722 := n1_; have HB := n2_; have BK723 := n3_; have GW723 := n4_; have GE723 := n5_; clear n0_ n1_ n2_ n3_ n4_ n5_; clear hb hbox hg; obtain ⟨Ao13, co13, eo13⟩ := Kd.R_slice HO719.out; subst eo13; have hcz14_0 : w12.cell? ⟨gb723, 0, none⟩ = some (.slice none 0 0) := (blk_cell BK723.out 0).trans rfl; have hcz14_1 : w12.cell? ⟨gb723, 1, none⟩ = some (.slice none 0 0) := (blk_cell BK723.out 1).trans rfl; have hfz14_0 := blk_frozen BK723.out 0; have hfz14_1 := blk_frozen BK723.out 1; obtain ⟨Ao15, co15, eo15⟩ := Kd.R_slice HO722.out; subst eo15) | ((with_reducible refine gate_callee (f := 33) rfl ?_); refine goesL_ (some 23) rfl rfl Try.func33 (by kernel_rfl) rfl #[.slice A1 l1.length c1] rfl bM ?_; (with_reducible refine (spec_DrawSecCut.calls kj2 _ _ l1 t724 t727 t730 _ ?side1 ?side2 A7.out).mono ?_); (case side1 => exact Kd.C_below HR1.out (by repeat (first | (with_reducible first | exact HB.out | apply below_alloc | apply pw_below_drewN | apply below_drew1 | refine below_set ?_ GE723.out) | exact HB.out))); (case side2 => exact HC1.out); rintro e w16 ⟨v725, v728, v731, rfl, ho0, ho1, ho2, hb⟩; refine ⟨_, rfl, ?_⟩; have n0_ := Aside0.mk (Kd.R_elder' (pR (Kd.R_mono (Kd.R_far (p := ⟨gb723, 1, none⟩) (Kd.R_far (p := ⟨gb723, 0, none⟩) (Kd.R_types HO719.out BK723.out (by decide)) (fun _ hk => hk.2) (.slice Ao13 t717.length co13)) (fun _ hk => hk.2) (.slice Ao15 t720.length co15)) (fun _ h_ => h_.1))) (Kd.R_base ho0) hb); have n1_ := Aside0.mk (Kd.R_elder' (pR (Kd.R_mono (Kd.R_far (p := ⟨gb723, 1, none⟩) (Kd.R_far (p := ⟨gb723, 0, none⟩) (Kd.R_types HO722.out BK723.out (by decide)) (fun _ hk => hk.2) (.slice Ao13 t717.length co13)) (fun _ hk => hk.2) (.slice Ao15 t720.length co15)) (fun _ h_ => h_.1))) (Kd.R_base ho1) hb); have n2_ := Aside0.mk (Kd.R_lower (Kd.R_new' ho0 (Kd.R_lt (pR (Kd.R_mono (Kd.R_far (p := ⟨gb723, 1, none⟩) (Kd.R_far (p := ⟨gb723, 0, none⟩) (Kd.R_types HO719.out BK723.out (by decide)) (fun _ hk => hk.2) (.slice Ao13 t717.length co13)) (fun _ hk => hk.2) (.slice Ao15 t720.length co15)) (fun _ h_ => h_.1))))) (below_size (by repeat (first | (with_reducible first | exact HB.out | apply below_alloc | apply pw_below_drewN | apply below_drew1 | refine below_set ?_ GE723.out) | exact HB.out)))); have n3_ := Aside0.mk (Kd.R_lower (Kd.R_new' ho1 (Kd.R_lt (pR (Kd.R_mono (Kd.R_far (p := ⟨gb723, 1, none⟩) (Kd.R_far (p := ⟨gb723, 0, none⟩) (Kd.R_types HO722.out BK723.out (by decide)) (fun _ hk => hk.2) (.slice Ao13 t717.length co13)) (fun _ hk => hk.2) (.slice Ao15 t720.length co15)) (fun _ h_ => h_.1))))) (below_size (by repeat (first | (with_reducible first | exact HB.out | apply below_alloc | apply pw_below_drewN | apply below_drew1 | refine below_set ?_ GE723.out) | exact HB.out)))); have n4_ := Aside0.mk (Kd.R_lower ho2 (below_size (by repeat (first | (with_reducible first | exact HB.out | apply below_alloc | apply pw_below_drewN | apply below_drew1 | refine below_set ?_ GE723.out) | exact HB.out)))); have n5_ := Aside0.mk (blk_below (g := gb723) (o := .cells #[.slice Ao13 t717.length co13, .slice Ao15 t720.length co15] 26 (0, 0)) (by (with_reducible repeat (first | refine blk_drewN ?_ _ | refine blk_drew ?_ | refine blk_alloc ?_ _)); refine blk_put (cs := #[.slice Ao13 t717.length co13, .slice none 0 0]) ?_ 1 _ rfl; (with_reducible repeat (first | refine blk_drewN ?_ _ | refine blk_drew ?_ | refine blk_alloc ?_ _)); refine blk_put (cs := #[.slice none 0 0, .slice none 0 0]) ?_ 0 _ rfl; (with_reducible repeat (first | refine blk_drewN ?_ _ | refine blk_drew ?_ | refine blk_alloc ?_ _)); exact BK723.out) hb); have n6_ := Aside0.mk (below_step (by repeat (first | (with_reducible first | exact HB.out | apply below_alloc | apply pw_below_drewN | apply below_drew1 | refine below_set ?_ GE723.out) | exact HB.out)) hb); clear HO719; clear HO722; clear BK723; clear HB; have HO719 := n0_; have HO722 := n1_; have HO726 := n2_; have HO729 := n3_; have HO732 := n4_; have BK723 := n5_; have HB := n6_; clear n0_ n1_ n2_ n3_ n4_ n5_ n6_; (try clear hb); (try clear hb2); (try clear hk); (try clear hi); (try clear ho0); (try clear ho1); (try clear ho2)) | ((with_reducible refine gate_dst (N := 6) rfl ?_); (try (refine gate_guard (by rfl) ?_; dsimp only)); refine box_event ?hg (N := 6) ?hd (cs := #[.slice none 0 0, .slice none 0 0]) (t := 26) ?hr ?_; (case hd => rfl); (case hg => rfl); (case hr => first | (go_simp; done) | (go_simp; rfl)); intro gb733 hg w17 hbox hb; have n0_ := Aside0.mk (Kd.R_below (pR HO719.out) hb); have n1_ := Aside0.mk (Kd.R_below (pR HO722.out) hb); have n2_ := Aside0.mk (Kd.R_below (pR HO726.out) hb); have n3_ := Aside0.mk (Kd.R_below (pR HO729.out) hb); have n4_ := Aside0.mk (Kd.R_below (pR HO732.out) hb); have n5_ := Aside0.mk (blk_below (g := gb723) (o := .cells #[.slice Ao13 t717.length co13, .slice Ao15 t720.length co15] 26 (0, 0)) (pK BK723.out) hb); have n6_ := Aside0.mk (below_step (by repeat (first | (with_reducible first | exact HB.out | apply below_alloc | apply pw_below_drewN | apply below_drew1 | refine below_set ?_ GE723.out) | exact HB.out)) hb); have n7_ := Aside0.mk (hbox); have n8_ := Aside0.mk ((by rw [hg]; exact (below_size (by repeat (first | (with_reducible first | exact HB.out | apply below_alloc | apply pw_below_drewN | apply below_drew1 | refine below_set ?_ GE723.out) | exact HB.out))) : w.heap.size ≤ gb733)); have n9_ := Aside0.mk ((by rw [hg]; exact (below_size (by repeat (first | (with_reducible first | exact HB.out | apply below_alloc | apply pw_below_drewN | apply below_drew1 | refine below_set ?_ GE723.out) | exact HB.out))) : w.heap.size ≤ gb733)); have n10_ := Aside0.mk ((by rw [hg]; exact Nat.ne_of_lt (blk_lt (g := gb723) (o := .cells #[.slice Ao13 t717.length co13, .slice Ao15 t720.length co15] 26 (0, 0)) (pK BK723.out)) : gb723 ≠ gb733)); have n11_ := Aside0.mk ((by rw [hg]; exact Nat.ne_of_gt (blk_lt (g := gb723) (o := .cells #[.slice Ao13 t717.length co13, .slice Ao15 t720.length co15] 26 (0, 0)) (pK BK723.out)) : gb733 ≠ gb723)); clear HO719; clear HO722; clear HO726; clear HO729; clear HO732; clear BK723; clear HB; have HO719 := n0_; have HO722 := n1_; have HO726 := n2_; have HO729 := n3_; have HO732 := n4_; have BK723 := n5_; have HB := n6_; have BK733 := n7_; have GW733 := n8_; have GE733 := n9_; have NB723_733 := n10_; have NB733_723 := n11_; clear n0_ n1_ n2_ n3_ n4_ n5_ n6_ n7_ n8_ n9_ n10_ n11_; clear hb hbox hg; obtain ⟨Ao18, co18, eo18⟩ := Kd.R_slice HO726.out; subst eo18; have hnb19 := NB733_723.out; have hnc19 := NB723_733.out; have hcz20_0 : w17.cell? ⟨gb733, 0, none⟩ = some (.slice none 0 0) := (blk_cell BK733.out 0).trans rfl; have hcz20_1 : w17.cell? ⟨gb733, 1, none⟩ = some (.slice none 0 0) := (blk_cell BK733.out 1).trans rfl; have hfz20_0 := blk_frozen BK733.out 0; have hfz20_1 := blk_frozen BK733.out 1; obtain ⟨Ao21, co21, eo21⟩ := Kd.R_slice HO729.out; subst eo21; have hcz22_0 : w17.cell? ⟨gb723, 0, none⟩ = some (.slice Ao13 t717.length co13) := (blk_cell BK723.out 0).trans rfl; have hcz22_1 : w17.cell? ⟨gb723, 1, none⟩ = some (.slice Ao15 t720.length co15) := (blk_cell BK723.out 1).trans rfl; have hfz22_0 := blk_frozen BK723.out 0; have hfz22_1 := blk_frozen BK723.out 1) | ((with_reducible refine gate_callee (f := 37) rfl ?_); refine goesL_ (some 27) rfl rfl Try.func37 (by kernel_rfl) rfl #[.agg #[.slice Ao13 t717.length co13, .slice Ao15 t720.length co15]] rfl bM ?_; (with_reducible refine (spec_SecFlush.calls kj2 _ _ t717 _ _ t720 t734 t737 _ ?side1 ?side2 ?side3 ?side4 A8.out).mono ?_); (case side1 => refine (Kd.R_reads' (e := 9) (base := w.heap.size) (ok := fun k_ => (True ∧ some k_ ≠ (.slice Ao18 t724.length co18 : Value).ownBlock)) (n := t717.length) (c := co13) ?_).2.2; exact (pR (Kd.R_mono (Kd.R_far (p := ⟨gb733, 1, none⟩) (Kd.R_far (p := ⟨gb733, 0, none⟩) (Kd.R_types HO719.out BK733.out (by decide)) (fun _ hk => hk.2) (.slice Ao18 t724.length co18)) (fun _ hk => hk.2) (.slice Ao21 t727.length co21)) (fun _ h_ => h_.1)))); (case side2 => exact (Kd.R_reads' HO719.out).2.1); (case side3 => refine (Kd.R_reads' (e := 54) (base := w.heap.size) (ok := fun k_ => (True ∧ some k_ ≠ (.slice Ao21 t727.length co21 : Value).ownBlock)) (n := t720.length) (c := co15) ?_).2.2; exact (pR (Kd.R_mono (Kd.R_far (p := ⟨gb733, 1, none⟩) (Kd.R_far (p := ⟨gb733, 0, none⟩) (Kd.R_types HO722.out BK733.out (by decide)) (fun _ hk => hk.2) (.slice Ao18 t724.length co18)) (fun _ hk => hk.2) (.slice Ao21 t727.length co21)) (fun _ h_ => h_.1)))); (case side4 => exact (Kd.R_reads' HO722.out).2.1); rintro e w23 ⟨v735, v738, rfl, ho0, ho1, hb⟩; refine ⟨_, rfl, ?_⟩; have n0_ := Aside0.mk (Kd.R_elder' (pR (Kd.R_mono (Kd.R_far (p := ⟨gb733, 1, none⟩) (Kd.R_far (p := ⟨gb733, 0, none⟩) (Kd.R_types HO719.out BK733.out (by decide)) (fun _ hk => hk.2) (.slice Ao18 t724.length co18)) (fun _ hk => hk.2) (.slice Ao21 t727.length co21)) (fun _ h_ => h_.1))) (Kd.R_base ho0) hb); have n1_ := Aside0.mk (Kd.R_elder' (pR (Kd.R_mono (Kd.R_far (p := ⟨gb733, 1, none⟩) (Kd.R_far (p := ⟨gb733, 0, none⟩) (Kd.R_types HO722.out BK733.out (by decide)) (fun _ hk => hk.2) (.slice Ao18 t724.length co18)) (fun _ hk => hk.2) (.slice Ao21 t727.length co21)) (fun _ h_ => h_.1))) (Kd.R_base ho1) hb); have n2_ := Aside0.mk (Kd.R_elder' (pR (Kd.R_mono (Kd.R_far (p := ⟨gb733, 1, none⟩) (Kd.R_far (p := ⟨gb733, 0, none⟩) (Kd.R_types HO726.out BK733.out (by decide)) (fun _ hk => hk.2) (.slice Ao18 t724.length co18)) (fun _ hk => hk.2) (.slice Ao21 t727.length co21)) (fun _ h_ => h_.1))) (Kd.R_base ho0) hb); have n3_ := Aside0.mk (Kd.R_elder' (pR (Kd.R_mono (Kd.R_far (p := ⟨gb733, 1, none⟩) (Kd.R_far (p := ⟨gb733, 0, none⟩) (Kd.R_types HO729.out BK733.out (by decide)) (fun _ hk => hk.2) (.slice Ao18 t724.length co18)) (fun _ hk => hk.2) (.slice Ao21 t727.length co21)) (fun _ h_ => h_.1))) (Kd.R_base ho1) hb); have n4_ := Aside0.mk (Kd.R_below (pR (Kd.R_mono (Kd.R_far (p := ⟨gb733, 1, none⟩) (Kd.R_far (p := ⟨gb733, 0, none⟩) (Kd.R_types HO732.out BK733.out (by decide)) (fun _ hk => hk.2) (.slice Ao18 t724.length co18)) (fun _ hk => hk.2) (.slice Ao21 t727.length co21)) (fun _ h_ => h_.1))) hb); have n5_ := Aside0.mk (Kd.R_lower (Kd.R_new' (Kd.R_new' ho0 (Kd.R_lt (pR (Kd.R_mono (Kd.R_far (p := ⟨gb733, 1, none⟩) (Kd.R_far (p := ⟨gb733, 0, none⟩) (Kd.R_types HO719.out BK733.out (by decide)) (fun _ hk => hk.2) (.slice Ao18 t724.length co18)) (fun _ hk => hk.2) (.slice Ao21 t727.length co21)) (fun _ h_ => h_.1))))) (Kd.R_lt (pR (Kd.R_mono (Kd.R_far (p := ⟨gb733, 1, none⟩) (Kd.R_far (p := ⟨gb733, 0, none⟩) (Kd.R_types HO726.out BK733.out (by decide)) (fun _ hk => hk.2) (.slice Ao18 t724.length co18)) (fun _ hk => hk.2) (.slice Ao21 t727.length co21)) (fun _ h_ => h_.1))))) (below_size (by repeat (first | (with_reducible first | exact HB.out | apply below_alloc | apply pw_below_drewN | apply below_drew1 | refine below_set ?_ GE723.out | refine below_set ?_ GE733.out) | exact HB.out)))); have n6_ := Aside0.mk (Kd.R_lower (Kd.R_new' (Kd.R_new' ho1 (Kd.R_lt (pR (Kd.R_mono (Kd.R_far (p := ⟨gb733, 1, none⟩) (Kd.R_far (p := ⟨gb733, 0, none⟩) (Kd.R_types HO722.out BK733.out (by decide)) (fun _ hk => hk.2) (.slice Ao18 t724.length co18)) (fun _ hk => hk.2) (.slice Ao21 t727.length co21)) (fun _ h_ => h_.1))))) (Kd.R_lt (pR (Kd.R_mono (Kd.R_far (p := ⟨gb733, 1, none⟩) (Kd.R_far (p := ⟨gb733, 0, none⟩) (Kd.R_types HO729.out BK733.out (by decide)) (fun _ hk => hk.2) (.slice Ao18 t724.length co18)) (fun _ hk => hk.2) (.slice Ao21 t727.length co21)) (fun _ h_ => h_.1))))) (below_size (by repeat (first | (with_reducible first | exact HB.out | apply below_alloc | apply pw_below_drewN | apply below_drew1 | refine below_set ?_ GE723.out | refine below_set ?_ GE733.out) | exact HB.out)))); have n7_ := Aside0.mk (blk_below (g := gb723) (o := .cells #[.slice Ao13 t717.length co13, .slice Ao15 t720.length co15] 26 (0, 0)) (by (with_reducible repeat (first | refine blk_drewN ?_ _ | refine blk_drew ?_ | refine blk_alloc ?_ _)); refine blk_far ?_ NB723_733.out _; (with_reducible repeat (first | refine blk_drewN ?_ _ | refine blk_drew ?_ | refine blk_alloc ?_ _)); refine blk_far ?_ NB723_733.out _; (with_reducible repeat (first | refine blk_drewN ?_ _ | refine blk_drew ?_ | refine blk_alloc ?_ _)); exact BK723.out) hb); have n8_ := Aside0.mk (blk_below (g := gb733) (o := .cells #[.slice Ao18 t724.length co18, .slice Ao21 t727.length co21] 26 (0, 0)) (by (with_reducible repeat (first | refine blk_drewN ?_ _ | refine blk_drew ?_ | refine blk_alloc ?_ _)); refine blk_put (cs := #[.slice Ao18 t724.length co18, .slice none 0 0]) ?_ 1 _ rfl; (with_reducible repeat (first | refine blk_drewN ?_ _ | refine blk_drew ?_ | refine blk_alloc ?_ _)); refine blk_put (cs := #[.slice none 0 0, .slice none 0 0]) ?_ 0 _ rfl; (with_reducible repeat (first | refine blk_drewN ?_ _ | refine blk_drew ?_ | refine blk_alloc ?_ _)); exact BK733.out) hb); have n9_ := Aside0.mk (below_step (by repeat (first | (with_reducible first | exact HB.out | apply below_alloc | apply pw_below_drewN | apply below_drew1 | refine below_set ?_ GE723.out | refine below_set ?_ GE733.out) | exact HB.out)) hb); clear HO719; clear HO722; clear HO726; clear HO729; clear HO732; clear BK723; clear BK733; clear HB; have HO719 := n0_; have HO722 := n1_; have HO726 := n2_; have HO729 := n3_; have HO732 := n4_; have HO736 := n5_; have HO739 := n6_; have BK723 := n7_; have BK733 := n8_; have HB := n9_; clear n0_ n1_ n2_ n3_ n4_ n5_ n6_ n7_ n8_ n9_; (try clear hb); (try clear hb2); (try clear hk); (try clear hi); (try clear ho0); (try clear ho1)) | ((with_reducible refine gate_dst (N := 8) rfl ?_); (try (refine gate_guard (by rfl) ?_; dsimp only)); refine box_event ?hg (N := 8) ?hd (cs := #[.slice none 0 0, .slice none 0 0]) (t := 26) ?hr ?_; (case hd => rfl); (case hg => rfl); (case hr => first | (go_simp; done) | (go_simp; rfl)); intro gb740 hg w24 hbox hb; have n0_ := Aside0.mk (Kd.R_below (pR HO719.out) hb); have n1_ := Aside0.mk (Kd.R_below (pR HO722.out) hb); have n2_ := Aside0.mk (Kd.R_below (pR HO726.out) hb); have n3_ := Aside0.mk (Kd.R_below (pR HO729.out) hb); have n4_ := Aside0.mk (Kd.R_below (pR HO732.out) hb); have n5_ := Aside0.mk (Kd.R_below (pR HO736.out) hb); have n6_ := Aside0.mk (Kd.R_below (pR HO739.out) hb); have n7_ := Aside0.mk (blk_below (g := gb723) (o := .cells #[.slice Ao13 t717.length co13, .slice Ao15 t720.length co15] 26 (0, 0)) (pK BK723.out) hb); have n8_ := Aside0.mk (blk_below (g := gb733) (o := .cells #[.slice Ao18 t724.length co18, .slice Ao21 t727.length co21] 26 (0, 0)) (pK BK733.out) hb); have n9_ := Aside0.mk (below_step (by repeat (first | (with_reducible first | exact HB.out | apply below_alloc | apply pw_below_drewN | apply below_drew1 | refine below_set ?_ GE723.out | refine below_set ?_ GE733.out) | exact HB.out)) hb); have n10_ := Aside0.mk (hbox); have n11_ := Aside0.mk ((by rw [hg]; exact (below_size (by repeat (first | (with_reducible first | exact HB.out | apply below_alloc | apply pw_below_drewN | apply below_drew1 | refine below_set ?_ GE723.out | refine below_set ?_ GE733.out) | exact HB.out))) : w.heap.size ≤ gb740)); have n12_ := Aside0.mk ((by rw [hg]; exact (below_size (by repeat (first | (with_reducible first | exact HB.out | apply below_alloc | apply pw_below_drewN | apply below_drew1 | refine below_set ?_ GE723.out | refine below_set ?_ GE733.out) | exact HB.out))) : w.heap.size ≤ gb740)); have n13_ := Aside0.mk ((by rw [hg]; exact Nat.ne_of_lt (blk_lt (g := gb723) (o := .cells #[.slice Ao13 t717.length co13, .slice Ao15 t720.length co15] 26 (0, 0)) (pK BK723.out)) : gb723 ≠ gb740)); have n14_ := Aside0.mk ((by rw [hg]; exact Nat.ne_of_gt (blk_lt (g := gb723) (o := .cells #[.slice Ao13 t717.length co13, .slice Ao15 t720.length co15] 26 (0, 0)) (pK BK723.out)) : gb740 ≠ gb723)); have n15_ := Aside0.mk ((by rw [hg]; exact Nat.ne_of_lt (blk_lt (g := gb733) (o := .cells #[.slice Ao18 t724.length co18, .slice Ao21 t727.length co21] 26 (0, 0)) (pK BK733.out)) : gb733 ≠ gb740)); have n16_ := Aside0.mk ((by rw [hg]; exact Nat.ne_of_gt (blk_lt (g := gb733) (o := .cells #[.slice Ao18 t724.length co18, .slice Ao21 t727.length co21] 26 (0, 0)) (pK BK733.out)) : gb740 ≠ gb733)); clear HO719; clear HO722; clear HO726; clear HO729; clear HO732; clear HO736; clear HO739; clear BK723; clear BK733; clear HB; have HO719 := n0_; have HO722 := n1_; have HO726 := n2_; have HO729 := n3_; have HO732 := n4_; have HO736 := n5_; have HO739 := n6_; have BK723 := n7_; have BK733 := n8_; have HB := n9_; have BK740 := n10_; have GW740 := n11_; have GE740 := n12_; have NB723_740 := n13_; have NB740_723 := n14_; have NB733_740 := n15_; have NB740_733 := n16_; clear n0_ n1_ n2_ n3_ n4_ n5_ n6_ n7_ n8_ n9_ n10_ n11_ n12_ n13_ n14_ n15_ n16_; clear hb hbox hg; obtain ⟨Ao25, co25, eo25⟩ := Kd.R_slice HO736.out; subst eo25; have hnb26 := NB740_723.out; have hnc26 := NB723_740.out; have hnb27 := NB740_733.out; have hnc27 := NB733_740.out; have hcz28_0 : w24.cell? ⟨gb740, 0, none⟩ = some (.slice none 0 0) := (blk_cell BK740.out 0).trans rfl; have hcz28_1 : w24.cell? ⟨gb740, 1, none⟩ = some (.slice none 0 0) := (blk_cell BK740.out 1).trans rfl; have hfz28_0 := blk_frozen BK740.out 0; have hfz28_1 := blk_frozen BK740.out 1; obtain ⟨Ao29, co29, eo29⟩ := Kd.R_slice HO739.out; subst eo29; have hcz30_0 : w24.cell? ⟨gb723, 0, none⟩ = some (.slice Ao13 t717.length co13) := (blk_cell BK723.out 0).trans rfl; have hcz30_1 : w24.cell? ⟨gb723, 1, none⟩ = some (.slice Ao15 t720.length co15) := (blk_cell BK723.out 1).trans rfl; have hfz30_0 := blk_frozen BK723.out 0; have hfz30_1 := blk_frozen BK723.out 1) | ((with_reducible refine gate_callee (f := 32) rfl ?_); refine goesL_ (some 29) rfl rfl Try.func32 (by kernel_rfl) rfl #[.agg #[.slice Ao13 t717.length co13, .slice Ao15 t720.length co15]] rfl bM ?_; (with_reducible refine (impl_SecFlush.calls kj2 _ _ t717 _ _ t720 t741 t744 _ ?side1 ?side2 ?side3 ?side4 A9.out).mono ?_); (case side1 => refine (Kd.R_reads' (e := 9) (base := w.heap.size) (ok := fun k_ => ((True ∧ some k_ ≠ (.slice Ao18 t724.length co18 : Value).ownBlock) ∧ some k_ ≠ (.slice Ao25 t734.length co25 : Value).ownBlock)) (n := t717.length) (c := co13) ?_).2.2; exact (pR (Kd.R_mono (Kd.R_far (p := ⟨gb740, 1, none⟩) (Kd.R_far (p := ⟨gb740, 0, none⟩) (Kd.R_types HO719.out BK740.out (by decide)) (fun _ hk => hk.2) (.slice Ao25 t734.length co25)) (fun _ hk => hk.2) (.slice Ao29 t737.length co29)) (fun _ h_ => h_.1)))); (case side2 => exact (Kd.R_reads' HO719.out).2.1); (case side3 => refine (Kd.R_reads' (e := 54) (base := w.heap.size) (ok := fun k_ => ((True ∧ some k_ ≠ (.slice Ao21 t727.length co21 : Value).ownBlock) ∧ some k_ ≠ (.slice Ao29 t737.length co29 : Value).ownBlock)) (n := t720.length) (c := co15) ?_).2.2; exact (pR (Kd.R_mono (Kd.R_far (p := ⟨gb740, 1, none⟩) (Kd.R_far (p := ⟨gb740, 0, none⟩) (Kd.R_types HO722.out BK740.out (by decide)) (fun _ hk => hk.2) (.slice Ao25 t734.length co25)) (fun _ hk => hk.2) (.slice Ao29 t737.length co29)) (fun _ h_ => h_.1)))); (case side4 => exact (Kd.R_reads' HO722.out).2.1); rintro e w31 ⟨v742, v745, rfl, ho0, ho1, hb⟩; refine ⟨_, rfl, ?_⟩; have n0_ := Aside0.mk (Kd.R_elder' (pR (Kd.R_mono (Kd.R_far (p := ⟨gb740, 1, none⟩) (Kd.R_far (p := ⟨gb740, 0, none⟩) (Kd.R_types HO719.out BK740.out (by decide)) (fun _ hk => hk.2) (.slice Ao25 t734.length co25)) (fun _ hk => hk.2) (.slice Ao29 t737.length co29)) (fun _ h_ => h_.1))) (Kd.R_base ho0) hb); have n1_ := Aside0.mk (Kd.R_elder' (pR (Kd.R_mono (Kd.R_far (p := ⟨gb740, 1, none⟩) (Kd.R_far (p := ⟨gb740, 0, none⟩) (Kd.R_types HO722.out BK740.out (by decide)) (fun _ hk => hk.2) (.slice Ao25 t734.length co25)) (fun _ hk => hk.2) (.slice Ao29 t737.length co29)) (fun _ h_ => h_.1))) (Kd.R_base ho1) hb); have n2_ := Aside0.mk (Kd.R_elder' (pR (Kd.R_mono (Kd.R_far (p := ⟨gb740, 1, none⟩) (Kd.R_far (p := ⟨gb740, 0, none⟩) (Kd.R_types HO726.out BK740.out (by decide)) (fun _ hk => hk.2) (.slice Ao25 t734.length co25)) (fun _ hk => hk.2) (.slice Ao29 t737.length co29)) (fun _ h_ => h_.1))) (Kd.R_base ho0) hb); have n3_ := Aside0.mk (Kd.R_elder' (pR (Kd.R_mono (Kd.R_far (p := ⟨gb740, 1, none⟩) (Kd.R_far (p := ⟨gb740, 0, none⟩) (Kd.R_types HO729.out BK740.out (by decide)) (fun _ hk => hk.2) (.slice Ao25 t734.length co25)) (fun _ hk => hk.2) (.slice Ao29 t737.length co29)) (fun _ h_ => h_.1))) (Kd.R_base ho1) hb); have n4_ := Aside0.mk (Kd.R_below (pR (Kd.R_mono (Kd.R_far (p := ⟨gb740, 1, none⟩) (Kd.R_far (p := ⟨gb740, 0, none⟩) (Kd.R_types HO732.out BK740.out (by decide)) (fun _ hk => hk.2) (.slice Ao25 t734.length co25)) (fun _ hk => hk.2) (.slice Ao29 t737.length co29)) (fun _ h_ => h_.1))) hb); have n5_ := Aside0.mk (Kd.R_elder' (pR (Kd.R_mono (Kd.R_far (p := ⟨gb740, 1, none⟩) (Kd.R_far (p := ⟨gb740, 0, none⟩) (Kd.R_types HO736.out BK740.out (by decide)) (fun _ hk => hk.2) (.slice Ao25 t734.length co25)) (fun _ hk => hk.2) (.slice Ao29 t737.length co29)) (fun _ h_ => h_.1))) (Kd.R_base ho0) hb); have n6_ := Aside0.mk (Kd.R_elder' (pR (Kd.R_mono (Kd.R_far (p := ⟨gb740, 1, none⟩) (Kd.R_far (p := ⟨gb740, 0, none⟩) (Kd.R_types HO739.out BK740.out (by decide)) (fun _ hk => hk.2) (.slice Ao25 t734.length co25)) (fun _ hk => hk.2) (.slice Ao29 t737.length co29)) (fun _ h_ => h_.1))) (Kd.R_base ho1) hb); have n7_ := Aside0.mk (Kd.R_lower (Kd.R_new' (Kd.R_new' (Kd.R_new' ho0 (Kd.R_lt (pR (Kd.R_mono (Kd.R_far (p := ⟨gb740, 1, none⟩) (Kd.R_far (p := ⟨gb740, 0, none⟩) (Kd.R_types HO719.out BK740.out (by decide)) (fun _ hk => hk.2) (.slice Ao25 t734.length co25)) (fun _ hk => hk.2) (.slice Ao29 t737.length co29)) (fun _ h_ => h_.1))))) (Kd.R_lt (pR (Kd.R_mono (Kd.R_far (p := ⟨gb740, 1, none⟩) (Kd.R_far (p := ⟨gb740, 0, none⟩) (Kd.R_types HO726.out BK740.out (by decide)) (fun _ hk => hk.2) (.slice Ao25 t734.length co25)) (fun _ hk => hk.2) (.slice Ao29 t737.length co29)) (fun _ h_ => h_.1))))) (Kd.R_lt (pR (Kd.R_mono (Kd.R_far (p := ⟨gb740, 1, none⟩) (Kd.R_far (p := ⟨gb740, 0, none⟩) (Kd.R_types HO736.out BK740.out (by decide)) (fun _ hk => hk.2) (.slice Ao25 t734.length co25)) (fun _ hk => hk.2) (.slice Ao29 t737.length co29)) (fun _ h_ => h_.1))))) (below_size (by repeat (first | (with_reducible first | exact HB.out | apply below_alloc | apply pw_below_drewN | apply below_drew1 | refine below_set ?_ GE723.out | refine below_set ?_ GE733.out | refine below_set ?_ GE740.out) | exact HB.out)))); have n8_ := Aside0.mk (Kd.R_lower (Kd.R_new' (Kd.R_new' (Kd.R_new' ho1 (Kd.R_lt (pR (Kd.R_mono (Kd.R_far (p := ⟨gb740, 1, none⟩) (Kd.R_far (p := ⟨gb740, 0, none⟩) (Kd.R_types HO722.out BK740.out (by decide)) (fun _ hk => hk.2) (.slice Ao25 t734.length co25)) (fun _ hk => hk.2) (.slice Ao29 t737.length co29)) (fun _ h_ => h_.1))))) (Kd.R_lt (pR (Kd.R_mono (Kd.R_far (p := ⟨gb740, 1, none⟩) (Kd.R_far (p := ⟨gb740, 0, none⟩) (Kd.R_types HO729.out BK740.out (by decide)) (fun _ hk => hk.2) (.slice Ao25 t734.length co25)) (fun _ hk => hk.2) (.slice Ao29 t737.length co29)) (fun _ h_ => h_.1))))) (Kd.R_lt (pR (Kd.R_mono (Kd.R_far (p := ⟨gb740, 1, none⟩) (Kd.R_far (p := ⟨gb740, 0, none⟩) (Kd.R_types HO739.out BK740.out (by decide)) (fun _ hk => hk.2) (.slice Ao25 t734.length co25)) (fun _ hk => hk.2) (.slice Ao29 t737.length co29)) (fun _ h_ => h_.1))))) (below_size (by repeat (first | (with_reducible first | exact HB.out | apply below_alloc | apply pw_below_drewN | apply below_drew1 | refine below_set ?_ GE723.out | refine below_set ?_ GE733.out | refine below_set ?_ GE740.out) | exact HB.out)))); have n9_ := Aside0.mk (blk_below (g := gb723) (o := .cells #[.slice Ao13 t717.length co13, .slice Ao15 t720.length co15] 26 (0, 0)) (by (with_reducible repeat (first | refine blk_drewN ?_ _ | refine blk_drew ?_ | refine blk_alloc ?_ _)); refine blk_far ?_ NB723_740.out _; (with_reducible repeat (first | refine blk_drewN ?_ _ | refine blk_drew ?_ | refine blk_alloc ?_ _)); refine blk_far ?_ NB723_740.out _; (with_reducible repeat (first | refine blk_drewN ?_ _ | refine blk_drew ?_ | refine blk_alloc ?_ _)); exact BK723.out) hb); have n10_ := Aside0.mk (blk_below (g := gb733) (o := .cells #[.slice Ao18 t724.length co18, .slice Ao21 t727.length co21] 26 (0, 0)) (by (with_reducible repeat (first | refine blk_drewN ?_ _ | refine blk_drew ?_ | refine blk_alloc ?_ _)); refine blk_far ?_ NB733_740.out _; (with_reducible repeat (first | refine blk_drewN ?_ _ | refine blk_drew ?_ | refine blk_alloc ?_ _)); refine blk_far ?_ NB733_740.out _; (with_reducible repeat (first | refine blk_drewN ?_ _ | refine blk_drew ?_ | refine blk_alloc ?_ _)); exact BK733.out) hb); have n11_ := Aside0.mk (blk_below (g := gb740) (o := .cells #[.slice Ao25 t734.length co25, .slice Ao29 t737.length co29] 26 (0, 0)) (by (with_reducible repeat (first | refine blk_drewN ?_ _ | refine blk_drew ?_ | refine blk_alloc ?_ _)); refine blk_put (cs := #[.slice Ao25 t734.length co25, .slice none 0 0]) ?_ 1 _ rfl; (with_reducible repeat (first | refine blk_drewN ?_ _ | refine blk_drew ?_ | refine blk_alloc ?_ _)); refine blk_put (cs := #[.slice none 0 0, .slice none 0 0]) ?_ 0 _ rfl; (with_reducible repeat (first | refine blk_drewN ?_ _ | refine blk_drew ?_ | refine blk_alloc ?_ _)); exact BK740.out) hb); have n12_ := Aside0.mk (below_step (by repeat (first | (with_reducible first | exact HB.out | apply below_alloc | apply pw_below_drewN | apply below_drew1 | refine below_set ?_ GE723.out | refine below_set ?_ GE733.out | refine below_set ?_ GE740.out) | exact HB.out)) hb); clear HO719; clear HO722; clear HO726; clear HO729; clear HO732; clear HO736; clear HO739; clear BK723; clear BK733; clear BK740; clear HB; have HO719 := n0_; have HO722 := n1_; have HO726 := n2_; have HO729 := n3_; have HO732 := n4_; have HO736 := n5_; have HO739 := n6_; have HO743 := n7_; have HO746 := n8_; have BK723 := n9_; have BK733 := n10_; have BK740 := n11_; have HB := n12_; clear n0_ n1_ n2_ n3_ n4_ n5_ n6_ n7_ n8_ n9_ n10_ n11_ n12_; (try clear hb); (try clear hb2); (try clear hk); (try clear hi); (try clear ho0); (try clear ho1)) | ((with_reducible refine gate_dst (N := 9) rfl ?_); (try (refine gate_guard (by rfl) ?_; dsimp only)); refine box_event ?hg (N := 9) ?hd (cs := #[.slice none 0 0, .slice none 0 0]) (t := 26) ?hr ?_; (case hd => rfl); (case hg => rfl); (case hr => first | (go_simp; done) | (go_simp; rfl)); intro gb747 hg w32 hbox hb; have n0_ := Aside0.mk (Kd.R_below (pR HO719.out) hb); have n1_ := Aside0.mk (Kd.R_below (pR HO722.out) hb); have n2_ := Aside0.mk (Kd.R_below (pR HO726.out) hb); have n3_ := Aside0.mk (Kd.R_below (pR HO729.out) hb); have n4_ := Aside0.mk (Kd.R_below (pR HO732.out) hb); have n5_ := Aside0.mk (Kd.R_below (pR HO736.out) hb); have n6_ := Aside0.mk (Kd.R_below (pR HO739.out) hb); have n7_ := Aside0.mk (Kd.R_below (pR HO743.out) hb); have n8_ := Aside0.mk (Kd.R_below (pR HO746.out) hb); have n9_ := Aside0.mk (blk_below (g := gb723) (o := .cells #[.slice Ao13 t717.length co13, .slice Ao15 t720.length co15] 26 (0, 0)) (pK BK723.out) hb); have n10_ := Aside0.mk (blk_below (g := gb733) (o := .cells #[.slice Ao18 t724.length co18, .slice Ao21 t727.length co21] 26 (0, 0)) (pK BK733.out) hb); have n11_ := Aside0.mk (blk_below (g := gb740) (o := .cells #[.slice Ao25 t734.length co25, .slice Ao29 t737.length co29] 26 (0, 0)) (pK BK740.out) hb); have n12_ := Aside0.mk (below_step (by repeat (first | (with_reducible first | exact HB.out | apply below_alloc | apply pw_below_drewN | apply below_drew1 | refine below_set ?_ GE723.out | refine below_set ?_ GE733.out | refine below_set ?_ GE740.out) | exact HB.out)) hb); have n13_ := Aside0.mk (hbox); have n14_ := Aside0.mk ((by rw [hg]; exact (below_size (by repeat (first | (with_reducible first | exact HB.out | apply below_alloc | apply pw_below_drewN | apply below_drew1 | refine below_set ?_ GE723.out | refine below_set ?_ GE733.out | refine below_set ?_ GE740.out) | exact HB.out))) : w.heap.size ≤ gb747)); have n15_ := Aside0.mk ((by rw [hg]; exact (below_size (by repeat (first | (with_reducible first | exact HB.out | apply below_alloc | apply pw_below_drewN | apply below_drew1 | refine below_set ?_ GE723.out | refine below_set ?_ GE733.out | refine below_set ?_ GE740.out) | exact HB.out))) : w.heap.size ≤ gb747)); have n16_ := Aside0.mk ((by rw [hg]; exact Nat.ne_of_lt (blk_lt (g := gb723) (o := .cells #[.slice Ao13 t717.length co13, .slice Ao15 t720.length co15] 26 (0, 0)) (pK BK723.out)) : gb723 ≠ gb747)); have n17_ := Aside0.mk ((by rw [hg]; exact Nat.ne_of_gt (blk_lt (g := gb723) (o := .cells #[.slice Ao13 t717.length co13, .slice Ao15 t720.length co15] 26 (0, 0)) (pK BK723.out)) : gb747 ≠ gb723)); have n18_ := Aside0.mk ((by rw [hg]; exact Nat.ne_of_lt (blk_lt (g := gb733) (o := .cells #[.slice Ao18 t724.length co18, .slice Ao21 t727.length co21] 26 (0, 0)) (pK BK733.out)) : gb733 ≠ gb747)); have n19_ := Aside0.mk ((by rw [hg]; exact Nat.ne_of_gt (blk_lt (g := gb733) (o := .cells #[.slice Ao18 t724.length co18, .slice Ao21 t727.length co21] 26 (0, 0)) (pK BK733.out)) : gb747 ≠ gb733)); have n20_ := Aside0.mk ((by rw [hg]; exact Nat.ne_of_lt (blk_lt (g := gb740) (o := .cells #[.slice Ao25 t734.length co25, .slice Ao29 t737.length co29] 26 (0, 0)) (pK BK740.out)) : gb740 ≠ gb747)); have n21_ := Aside0.mk ((by rw [hg]; exact Nat.ne_of_gt (blk_lt (g := gb740) (o := .cells #[.slice Ao25 t734.length co25, .slice Ao29 t737.length co29] 26 (0, 0)) (pK BK740.out)) : gb747 ≠ gb740)); clear HO719; clear HO722; clear HO726; clear HO729; clear HO732; clear HO736; clear HO739; clear HO743; clear HO746; clear BK723; clear BK733; clear BK740; clear HB; have HO719 := n0_; have HO722 := n1_; have HO726 := n2_; have HO729 := n3_; have HO732 := n4_; have HO736 := n5_; have HO739 := n6_; have HO743 := n7_; have HO746 := n8_; have BK723 := n9_; have BK733 := n10_; have BK740 := n11_; have HB := n12_; have BK747 := n13_; have GW747 := n14_; have GE747 := n15_; have NB723_747 := n16_; have NB747_723 := n17_; have NB733_747 := n18_; have NB747_733 := n19_; have NB740_747 := n20_; have NB747_740 := n21_; clear n0_ n1_ n2_ n3_ n4_ n5_ n6_ n7_ n8_ n9_ n10_ n11_ n12_ n13_ n14_ n15_ n16_ n17_ n18_ n19_ n20_ n21_; clear hb hbox hg; obtain ⟨Ao33, co33, eo33⟩ := Kd.R_slice HO743.out; subst eo33; have hnb34 := NB747_723.out; have hnc34 := NB723_747.out; have hnb35 := NB747_733.out; have hnc35 := NB733_747.out; have hnb36 := NB747_740.out; have hnc36 := NB740_747.out; have hcz37_0 : w32.cell? ⟨gb747, 0, none⟩ = some (.slice none 0 0) := (blk_cell BK747.out 0).trans rfl; have hcz37_1 : w32.cell? ⟨gb747, 1, none⟩ = some (.slice none 0 0) := (blk_cell BK747.out 1).trans rfl; have hfz37_0 := blk_frozen BK747.out 0; have hfz37_1 := blk_frozen BK747.out 1; obtain ⟨Ao38, co38, eo38⟩ := Kd.R_slice HO746.out; subst eo38))
    (try simp only [Act.put, List.setIfInBounds_toArray, List.set_cons_zero, List.set_cons_succ])
    go_cut [41] (fun v41 wc => ∃ (kq : Nat) (x41_9 : Bool), v41 = .bool x41_9 ∧ Aside0 (laws_FnSecFlush.j1 kq x41_9 t717 t720 t741 t744 = some r) ∧ Aside0 (kq ≤ kj2) ∧ Aside0 (Kd.R Kd.string 9 wc w.heap.size (fun k_ => some k_ ≠ ((.slice Ao18 t724.length co18) : Value).ownBlock ∧ some k_ ≠ ((.slice Ao25 t734.length co25) : Value).ownBlock ∧ some k_ ≠ ((.slice Ao33 t741.length co33) : Value).ownBlock) (.slice Ao13 t717.length co13) t717) ∧ Aside0 (Kd.R k54 54 wc w.heap.size (fun k_ => some k_ ≠ ((.slice Ao21 t727.length co21) : Value).ownBlock ∧ some k_ ≠ ((.slice Ao29 t737.length co29) : Value).ownBlock ∧ some k_ ≠ ((.slice Ao38 t744.length co38) : Value).ownBlock) (.slice Ao15 t720.length co15) t720) ∧ Aside0 (Kd.R Kd.string 9 wc w.heap.size (fun k_ => some k_ ≠ ((.slice Ao13 t717.length co13) : Value).ownBlock ∧ some k_ ≠ ((.slice Ao25 t734.length co25) : Value).ownBlock ∧ some k_ ≠ ((.slice Ao33 t741.length co33) : Value).ownBlock) (.slice Ao18 t724.length co18) t724) ∧ Aside0 (Kd.R k54 54 wc w.heap.size (fun k_ => some k_ ≠ ((.slice Ao15 t720.length co15) : Value).ownBlock ∧ some k_ ≠ ((.slice Ao29 t737.length co29) : Value).ownBlock ∧ some k_ ≠ ((.slice Ao38 t744.length co38) : Value).ownBlock) (.slice Ao21 t727.length co21) t727) ∧ Aside0 (Kd.R Kd.string 9 wc w.heap.size (fun k_ => some k_ ≠ ((.slice Ao13 t717.length co13) : Value).ownBlock ∧ some k_ ≠ ((.slice Ao18 t724.length co18) : Value).ownBlock ∧ some k_ ≠ ((.slice Ao33 t741.length co33) : Value).ownBlock) (.slice Ao25 t734.length co25) t734) ∧ Aside0 (Kd.R k54 54 wc w.heap.size (fun k_ => some k_ ≠ ((.slice Ao15 t720.length co15) : Value).ownBlock ∧ some k_ ≠ ((.slice Ao21 t727.length co21) : Value).ownBlock ∧ some k_ ≠ ((.slice Ao38 t744.length co38) : Value).ownBlock) (.slice Ao29 t737.length co29) t737) ∧ Aside0 (Kd.R Kd.string 9 wc w.heap.size (fun k_ => some k_ ≠ ((.slice Ao13 t717.length co13) : Value).ownBlock ∧ some k_ ≠ ((.slice Ao18 t724.length co18) : Value).ownBlock ∧ some k_ ≠ ((.slice Ao25 t734.length co25) : Value).ownBlock) (.slice Ao33 t741.length co33) t741) ∧ Aside0 (Kd.R k54 54 wc w.heap.size (fun k_ => some k_ ≠ ((.slice Ao15 t720.length co15) : Value).ownBlock ∧ some k_ ≠ ((.slice Ao21 t727.length co21) : Value).ownBlock ∧ some k_ ≠ ((.slice Ao29 t737.length co29) : Value).ownBlock) (.slice Ao38 t744.length co38) t744) ∧ Aside0 (wc.heap[gb723]? = some (.cells #[(.slice Ao13 t717.length co13), (.slice Ao15 t720.length co15)] 26 (0, 0))) ∧ Aside0 (wc.heap[gb733]? = some (.cells #[(.slice Ao18 t724.length co18), (.slice Ao21 t727.length co21)] 26 (0, 0))) ∧ Aside0 (wc.heap[gb740]? = some (.cells #[(.slice Ao25 t734.length co25), (.slice Ao29 t737.length co29)] 26 (0, 0))) ∧ Aside0 (wc.heap[gb747]? = some (.cells #[(.slice Ao33 t741.length co33), (.slice Ao38 t744.length co38)] 26 (0, 0))) ∧ Aside0 (Below w.heap.size w wc))
    case first =>
     have H := HC10.out
     clear HC10
     replace H := Option.bind_eq_some_iff.mp H
     obtain ⟨t748, A390, H⟩ := H
     replace H : (if t748 = true then ((impl_SecCut.f kj2 t741 t744 t730).bind fun bt749 => ((laws_lpSec.f kj2 bt749.1 bt749.2 t741 t744).bind fun t755 => (laws_FnSecFlush.j1 kj2 (!t755) t717 t720 t741 t744))) else (laws_FnSecFlush.j1 kj2 true t717 t720 t741 t744)) = some r := H
     have A39 := Aside0.mk A390
     clear A390
     by_cases c40 : t748 = true
     ·subst c40
      have H1 : ((impl_SecCut.f kj2 t741 t744 t730).bind fun bt749 => ((laws_lpSec.f kj2 bt749.1 bt749.2 t741 t744).bind fun t755 => (laws_FnSecFlush.j1 kj2 (!t755) t717 t720 t741 t744))) = some r := by rw [if_pos rfl] at H; exact H
      clear H
      have H := H1
      clear H1
      replace H := Option.bind_eq_some_iff.mp H
      obtain ⟨⟨t749, t752⟩, A410, H⟩ := H
      replace H : ((laws_lpSec.f kj2 t749 t752 t741 t744).bind fun t755 => (laws_FnSecFlush.j1 kj2 (!t755) t717 t720 t741 t744)) = some r := H
      have A41 := Aside0.mk A410
      clear A410
      replace H := Option.bind_eq_some_iff.mp H
      obtain ⟨t755, A420, H⟩ := H
      replace H : (laws_FnSecFlush.j1 kj2 (!t755) t717 t720 t741 t744) = some r := H
      have A42 := Aside0.mk A420
      clear A420
      have H' := Aside0.mk H
      clear H
      try go_wp2
      have n0_ : Aside0 (Kd.R Kd.string 9 ((w32.setCell ⟨gb747, 0, none⟩ (.slice Ao33 t741.length co33)).setCell ⟨gb747, 1, none⟩ (.slice Ao38 t744.length co38)) w.heap.size (fun k_ => some k_ ≠ (.slice Ao18 t724.length co18 : Value).ownBlock ∧ some k_ ≠ (.slice Ao25 t734.length co25 : Value).ownBlock ∧ some k_ ≠ (.slice Ao33 t741.length co33 : Value).ownBlock) (.slice Ao13 t717.length co13) t717) := ⟨pR (Kd.R_mono (Kd.R_far (p := ⟨gb747, 1, none⟩) (Kd.R_far (p := ⟨gb747, 0, none⟩) (Kd.R_types HO719.out BK747.out (by decide)) (fun _ hk => hk.2) (.slice Ao33 t741.length co33)) (fun _ hk => hk.2) (.slice Ao38 t744.length co38)) (fun _ hk => ⟨hk.1.1.1.2, ⟨hk.1.1.2, hk.1.2⟩⟩))⟩
      have n1_ : Aside0 (Kd.R k54 54 ((w32.setCell ⟨gb747, 0, none⟩ (.slice Ao33 t741.length co33)).setCell ⟨gb747, 1, none⟩ (.slice Ao38 t744.length co38)) w.heap.size (fun k_ => some k_ ≠ (.slice Ao21 t727.length co21 : Value).ownBlock ∧ some k_ ≠ (.slice Ao29 t737.length co29 : Value).ownBlock ∧ some k_ ≠ (.slice Ao38 t744.length co38 : Value).ownBlock) (.slice Ao15 t720.length co15) t720) := ⟨pR (Kd.R_mono (Kd.R_far (p := ⟨gb747, 1, none⟩) (Kd.R_far (p := ⟨gb747, 0, none⟩) (Kd.R_types HO722.out BK747.out (by decide)) (fun _ hk => hk.2) (.slice Ao33 t741.length co33)) (fun _ hk => hk.2) (.slice Ao38 t744.length co38)) (fun _ hk => ⟨hk.1.1.1.2, ⟨hk.1.1.2, hk.1.2⟩⟩))⟩
      have n2_ : Aside0 (Kd.R Kd.string 9 ((w32.setCell ⟨gb747, 0, none⟩ (.slice Ao33 t741.length co33)).setCell ⟨gb747, 1, none⟩ (.slice Ao38 t744.length co38)) w.heap.size (fun k_ => some k_ ≠ (.slice Ao13 t717.length co13 : Value).ownBlock ∧ some k_ ≠ (.slice Ao25 t734.length co25 : Value).ownBlock ∧ some k_ ≠ (.slice Ao33 t741.length co33 : Value).ownBlock) (.slice Ao18 t724.length co18) t724) := ⟨pR (Kd.R_mono (Kd.R_far (p := ⟨gb747, 1, none⟩) (Kd.R_far (p := ⟨gb747, 0, none⟩) (Kd.R_types HO726.out BK747.out (by decide)) (fun _ hk => hk.2) (.slice Ao33 t741.length co33)) (fun _ hk => hk.2) (.slice Ao38 t744.length co38)) (fun _ hk => ⟨hk.1.1.1.2, ⟨hk.1.1.2, hk.1.2⟩⟩))⟩
      have n3_ : Aside0 (Kd.R k54 54 ((w32.setCell ⟨gb747, 0, none⟩ (.slice Ao33 t741.length co33)).setCell ⟨gb747, 1, none⟩ (.slice Ao38 t744.length co38)) w.heap.size (fun k_ => some k_ ≠ (.slice Ao15 t720.length co15 : Value).ownBlock ∧ some k_ ≠ (.slice Ao29 t737.length co29 : Value).ownBlock ∧ some k_ ≠ (.slice Ao38 t744.length co38 : Value).ownBlock) (.slice Ao21 t727.length co21) t727) := ⟨pR (Kd.R_mono (Kd.R_far (p := ⟨gb747, 1, none⟩) (Kd.R_far (p := ⟨gb747, 0, none⟩) (Kd.R_types HO729.out BK747.out (by decide)) (fun _ hk => hk.2) (.slice Ao33 t741.length co33)) (fun _ hk => hk.2) (.slice Ao38 t744.length co38)) (fun _ hk => ⟨hk.1.1.1.2, ⟨hk.1.1.2, hk.1.2⟩⟩))⟩
      have n4_ : Aside0 (Kd.R (Kd.int .i64) 3 ((w32.setCell ⟨gb747, 0, none⟩ (.slice Ao33 t741.length co33)).setCell ⟨gb747, 1, none⟩ (.slice Ao38 t744.length co38)) w.heap.size (fun _ => True) v731 t730) := ⟨pR (Kd.R_mono (Kd.R_far (p := ⟨gb747, 1, none⟩) (Kd.R_far (p := ⟨gb747, 0, none⟩) (Kd.R_types HO732.out BK747.out (by decide)) (fun _ hk => hk.2) (.slice Ao33 t741.length co33)) (fun _ hk => hk.2) (.slice Ao38 t744.length co38)) (fun _ hk => trivial))⟩
      have n5_ : Aside0 (Kd.R Kd.string 9 ((w32.setCell ⟨gb747, 0, none⟩ (.slice Ao33 t741.length co33)).setCell ⟨gb747, 1, none⟩ (.slice Ao38 t744.length co38)) w.heap.size (fun k_ => some k_ ≠ (.slice Ao13 t717.length co13 : Value).ownBlock ∧ some k_ ≠ (.slice Ao18 t724.length co18 : Value).ownBlock ∧ some k_ ≠ (.slice Ao33 t741.length co33 : Value).ownBlock) (.slice Ao25 t734.length co25) t734) := ⟨pR (Kd.R_mono (Kd.R_far (p := ⟨gb747, 1, none⟩) (Kd.R_far (p := ⟨gb747, 0, none⟩) (Kd.R_types HO736.out BK747.out (by decide)) (fun _ hk => hk.2) (.slice Ao33 t741.length co33)) (fun _ hk => hk.2) (.slice Ao38 t744.length co38)) (fun _ hk => ⟨hk.1.1.1.2, ⟨hk.1.1.2, hk.1.2⟩⟩))⟩
      have n6_ : Aside0 (Kd.R k54 54 ((w32.setCell ⟨gb747, 0, none⟩ (.slice Ao33 t741.length co33)).setCell ⟨gb747, 1, none⟩ (.slice Ao38 t744.length co38)) w.heap.size (fun k_ => some k_ ≠ (.slice Ao15 t720.length co15 : Value).ownBlock ∧ some k_ ≠ (.slice Ao21 t727.length co21 : Value).ownBlock ∧ some k_ ≠ (.slice Ao38 t744.length co38 : Value).ownBlock) (.slice Ao29 t737.length co29) t737) := ⟨pR (Kd.R_mono (Kd.R_far (p := ⟨gb747, 1, none⟩) (Kd.R_far (p := ⟨gb747, 0, none⟩) (Kd.R_types HO739.out BK747.out (by decide)) (fun _ hk => hk.2) (.slice Ao33 t741.length co33)) (fun _ hk => hk.2) (.slice Ao38 t744.length co38)) (fun _ hk => ⟨hk.1.1.1.2, ⟨hk.1.1.2, hk.1.2⟩⟩))⟩
      have n7_ : Aside0 (Kd.R Kd.string 9 ((w32.setCell ⟨gb747, 0, none⟩ (.slice Ao33 t741.length co33)).setCell ⟨gb747, 1, none⟩ (.slice Ao38 t744.length co38)) w.heap.size (fun k_ => some k_ ≠ (.slice Ao13 t717.length co13 : Value).ownBlock ∧ some k_ ≠ (.slice Ao18 t724.length co18 : Value).ownBlock ∧ some k_ ≠ (.slice Ao25 t734.length co25 : Value).ownBlock) (.slice Ao33 t741.length co33) t741) := ⟨pR (Kd.R_mono (Kd.R_far (p := ⟨gb747, 1, none⟩) (Kd.R_far (p := ⟨gb747, 0, none⟩) (Kd.R_types HO743.out BK747.out (by decide)) (fun _ hk => hk.2) (.slice Ao33 t741.length co33)) (fun _ hk => hk.2) (.slice Ao38 t744.length co38)) (fun _ hk => ⟨hk.1.1.1.2, ⟨hk.1.1.2, hk.1.2⟩⟩))⟩
      have n8_ : Aside0 (Kd.R k54 54 ((w32.setCell ⟨gb747, 0, none⟩ (.slice Ao33 t741.length co33)).setCell ⟨gb747, 1, none⟩ (.slice Ao38 t744.length co38)) w.heap.size (fun k_ => some k_ ≠ (.slice Ao15 t720.length co15 : Value).ownBlock ∧ some k_ ≠ (.slice Ao21 t727.length co21 : Value).ownBlock ∧ some k_ ≠ (.slice Ao29 t737.length co29 : Value).ownBlock) (.slice Ao38 t744.length co38) t744) := ⟨pR (Kd.R_mono (Kd.R_far (p := ⟨gb747, 1, none⟩) (Kd.R_far (p := ⟨gb747, 0, none⟩) (Kd.R_types HO746.out BK747.out (by decide)) (fun _ hk => hk.2) (.slice Ao33 t741.length co33)) (fun _ hk => hk.2) (.slice Ao38 t744.length co38)) (fun _ hk => ⟨hk.1.1.1.2, ⟨hk.1.1.2, hk.1.2⟩⟩))⟩
      have n9_ : Aside0 (((w32.setCell ⟨gb747, 0, none⟩ (.slice Ao33 t741.length co33)).setCell ⟨gb747, 1, none⟩ (.slice Ao38 t744.length co38)).heap[gb723]? = some (.cells #[.slice Ao13 t717.length co13, .slice Ao15 t720.length co15] 26 (0, 0))) := ⟨by (with_reducible repeat (first | refine blk_drewN ?_ _ | refine blk_drew ?_ | refine blk_alloc ?_ _)); refine blk_far ?_ NB723_747.out _; (with_reducible repeat (first | refine blk_drewN ?_ _ | refine blk_drew ?_ | refine blk_alloc ?_ _)); refine blk_far ?_ NB723_747.out _; (with_reducible repeat (first | refine blk_drewN ?_ _ | refine blk_drew ?_ | refine blk_alloc ?_ _)); exact BK723.out⟩
      have n10_ : Aside0 (((w32.setCell ⟨gb747, 0, none⟩ (.slice Ao33 t741.length co33)).setCell ⟨gb747, 1, none⟩ (.slice Ao38 t744.length co38)).heap[gb733]? = some (.cells #[.slice Ao18 t724.length co18, .slice Ao21 t727.length co21] 26 (0, 0))) := ⟨by (with_reducible repeat (first | refine blk_drewN ?_ _ | refine blk_drew ?_ | refine blk_alloc ?_ _)); refine blk_far ?_ NB733_747.out _; (with_reducible repeat (first | refine blk_drewN ?_ _ | refine blk_drew ?_ | refine blk_alloc ?_ _)); refine blk_far ?_ NB733_747.out _; (with_reducible repeat (first | refine blk_drewN ?_ _ | refine blk_drew ?_ | refine blk_alloc ?_ _)); exact BK733.out⟩
      have n11_ : Aside0 (((w32.setCell ⟨gb747, 0, none⟩ (.slice Ao33 t741.length co33)).setCell ⟨gb747, 1, none⟩ (.slice Ao38 t744.length co38)).heap[gb740]? = some (.cells #[.slice Ao25 t734.length co25, .slice Ao29 t737.length co29] 26 (0, 0))) := ⟨by (with_reducible repeat (first | refine blk_drewN ?_ _ | refine blk_drew ?_ | refine blk_alloc ?_ _)); refine blk_far ?_ NB740_747.out _; (with_reducible repeat (first | refine blk_drewN ?_ _ | refine blk_drew ?_ | refine blk_alloc ?_ _)); refine blk_far ?_ NB740_747.out _; (with_reducible repeat (first | refine blk_drewN ?_ _ | refine blk_drew ?_ | refine blk_alloc ?_ _)); exact BK740.out⟩
      have n12_ : Aside0 (((w32.setCell ⟨gb747, 0, none⟩ (.slice Ao33 t741.length co33)).setCell ⟨gb747, 1, none⟩ (.slice Ao38 t744.length co38)).heap[gb747]? = some (.cells #[.slice Ao33 t741.length co33, .slice Ao38 t744.length co38] 26 (0, 0))) := ⟨by (with_reducible repeat (first | refine blk_drewN ?_ _ | refine blk_drew ?_ | refine blk_alloc ?_ _)); refine blk_put (cs := #[.slice Ao33 t741.length co33, .slice none 0 0]) ?_ 1 _ rfl; (with_reducible repeat (first | refine blk_drewN ?_ _ | refine blk_drew ?_ | refine blk_alloc ?_ _)); refine blk_put (cs := #[.slice none 0 0, .slice none 0 0]) ?_ 0 _ rfl; (with_reducible repeat (first | refine blk_drewN ?_ _ | refine blk_drew ?_ | refine blk_alloc ?_ _)); exact BK747.out⟩
      have n13_ : Aside0 (Below w.heap.size w ((w32.setCell ⟨gb747, 0, none⟩ (.slice Ao33 t741.length co33)).setCell ⟨gb747, 1, none⟩ (.slice Ao38 t744.length co38))) := ⟨by repeat (first | (with_reducible first | exact HB.out | apply below_alloc | apply pw_below_drewN | apply below_drew1 | refine below_set ?_ GE723.out | refine below_set ?_ GE733.out | refine below_set ?_ GE740.out | refine below_set ?_ GE747.out) | exact HB.out)⟩
      (try clear HO719)
      (try clear HO722)
      (try clear HO726)
      (try clear HO729)
      (try clear HO732)
      (try clear HO736)
      (try clear HO739)
      (try clear HO743)
      (try clear HO746)
      (try clear BK723)
      (try clear BK733)
      (try clear BK740)
      (try clear BK747)
      (try clear HB)
      generalize ((w32.setCell ⟨gb747, 0, none⟩ (.slice Ao33 t741.length co33)).setCell ⟨gb747, 1, none⟩ (.slice Ao38 t744.length co38)) = w43 at n0_ n1_ n2_ n3_ n4_ n5_ n6_ n7_ n8_ n9_ n10_ n11_ n12_ n13_ ⊢
      have HO719 := n0_
      have HO722 := n1_
      have HO726 := n2_
      have HO729 := n3_
      have HO732 := n4_
      have HO736 := n5_
      have HO739 := n6_
      have HO743 := n7_
      have HO746 := n8_
      have BK723 := n9_
      have BK733 := n10_
      have BK740 := n11_
      have BK747 := n12_
      have HB := n13_
      clear n0_ n1_ n2_ n3_ n4_ n5_ n6_ n7_ n8_ n9_ n10_ n11_ n12_ n13_
      have n0_ := Aside0.mk (Kd.R_drew HO719.out)
      have n1_ := Aside0.mk (Kd.R_drew HO722.out)
      have n2_ := Aside0.mk (Kd.R_drew HO726.out)
      have n3_ := Aside0.mk (Kd.R_drew HO729.out)
      have n4_ := Aside0.mk (Kd.R_drew HO732.out)
      have n5_ := Aside0.mk (Kd.R_drew HO736.out)
      have n6_ := Aside0.mk (Kd.R_drew HO739.out)
      have n7_ := Aside0.mk (Kd.R_drew HO743.out)
      have n8_ := Aside0.mk (Kd.R_drew HO746.out)
      have n9_ := Aside0.mk (blk_drew BK723.out)
      have n10_ := Aside0.mk (blk_drew BK733.out)
      have n11_ := Aside0.mk (blk_drew BK740.out)
      have n12_ := Aside0.mk (blk_drew BK747.out)
      have n13_ := Aside0.mk (below_drew1 HB.out)
      clear HO719
      clear HO722
      clear HO726
      clear HO729
      clear HO732
      clear HO736
      clear HO739
      clear HO743
      clear HO746
      clear BK723
      clear BK733
      clear BK740
      clear BK747
      clear HB
      have HO719 := n0_
      have HO722 := n1_
      have HO726 := n2_
      have HO729 := n3_
      have HO732 := n4_
      have HO736 := n5_
      have HO739 := n6_
      have HO743 := n7_
      have HO746 := n8_
      have BK723 := n9_
      have BK733 := n10_
      have BK740 := n11_
      have BK747 := n12_
      have HB := n13_
      clear n0_ n1_ n2_ n3_ n4_ n5_ n6_ n7_ n8_ n9_ n10_ n11_ n12_ n13_
      refine start_ (n := 12) (S := fun w' => w'.cell? ⟨gb747, 0, none⟩ = some (.slice Ao33 t741.length co33) ∧ w'.cell? ⟨gb747, 1, none⟩ = some (.slice Ao38 t744.length co38) ∧ w'.cell? ⟨gb740, 0, none⟩ = some (.slice Ao25 t734.length co25) ∧ w'.cell? ⟨gb740, 1, none⟩ = some (.slice Ao29 t737.length co29)) (ds := []) #[false, false, false, false, false, false, false, false, false, false, false, false] (by kernel_rfl) rfl rfl ⟨(blk_cell BK747.out 0).trans rfl, (blk_cell BK747.out 1).trans rfl, (blk_cell BK740.out 0).trans rfl, (blk_cell BK740.out 1).trans rfl⟩ (fun hHeld => ?_); refine with_tabW laws_FnSecFlush.tab7 laws_FnSecFlush.bits7 (fun HT_ HW_ => ?_)
      generalize w43.drew = w44 at HO719 HO722 HO726 HO729 HO732 HO736 HO739 HO743 HO746 BK723 BK733 BK740 BK747 HB hHeld ⊢
      refine take_ (i := 0) (N := some 30) (v := ?_) (a' := ?_) #[true, false, false, false, false, false, false, false, false, false, false, false] rfl rfl (take_ofW HT_.out HW_.out (by kernel_rfl)) (fun _ _ _ h => h) (Or.inl ⟨by rfl, ?_⟩) hHeld ?_ ?_
      rotate_left
      ·rintro w' ⟨s0, s1, s2, s3⟩
       go_simp
       with_reducible rfl
      rotate_left
      ·simp only [Act.put, List.setIfInBounds_toArray, List.set_cons_zero, List.set_cons_succ, i64_w, i32_w]
       rfl
      refine take_ (i := 1) (N := some 31) (v := ?_) (a' := ?_) #[true, true, false, false, false, false, false, false, false, false, false, false] rfl rfl (take_ofW HT_.out HW_.out (by kernel_rfl)) (fun _ _ _ h => h) (Or.inl ⟨by rfl, ?_⟩) hHeld ?_ ?_
      rotate_left
      ·rintro w' ⟨s0, s1, s2, s3⟩
       go_simp
       with_reducible rfl
      rotate_left
      ·simp only [Act.put, List.setIfInBounds_toArray, List.set_cons_zero, List.set_cons_succ, i64_w, i32_w]
       rfl
      refine one_ (i := 2) (N := some 32) #[true, true, true, false, false, false, false, false, false, false, false, false] rfl rfl (one_of HT_.out (by kernel_rfl)) (by decide) (fun K hK => ?_)
      refine goes_ Try.func31 (by kernel_rfl) rfl #[.agg #[.slice Ao33 t741.length co33, .slice Ao38 t744.length co38], .agg #[.slice Ao25 t734.length co25, .slice Ao29 t737.length co29]] (by rfl) rfl rfl bM ?_
      with_reducible refine (laws_lpSec.calls kj2 _ _ t741 _ _ t744 _ _ t734 _ _ t737 true _ ?side1 ?side2 ?side3 ?side4 ?side5 ?side6 ?side7 ?side8 A39.out).mono ?_
      (case side1 => exact pC (Kd.R_reads' HO743.out).2.2)
      (case side2 => exact (Kd.R_reads' HO743.out).2.1)
      (case side3 => exact pC (Kd.R_reads' HO746.out).2.2)
      (case side4 => exact (Kd.R_reads' HO746.out).2.1)
      (case side5 => exact pC (Kd.R_reads' HO736.out).2.2)
      (case side6 => exact (Kd.R_reads' HO736.out).2.1)
      (case side7 => exact pC (Kd.R_reads' HO739.out).2.2)
      (case side8 => exact (Kd.R_reads' HO739.out).2.1)
      rintro e w45 ⟨rfl, hb⟩
      refine ⟨_, rfl, ?_⟩
      have n0_ := Aside0.mk (Kd.R_below (pR HO719.out) hb)
      have n1_ := Aside0.mk (Kd.R_below (pR HO722.out) hb)
      have n2_ := Aside0.mk (Kd.R_below (pR HO726.out) hb)
      have n3_ := Aside0.mk (Kd.R_below (pR HO729.out) hb)
      have n4_ := Aside0.mk (Kd.R_below (pR HO732.out) hb)
      have n5_ := Aside0.mk (Kd.R_below (pR HO736.out) hb)
      have n6_ := Aside0.mk (Kd.R_below (pR HO739.out) hb)
      have n7_ := Aside0.mk (Kd.R_below (pR HO743.out) hb)
      have n8_ := Aside0.mk (Kd.R_below (pR HO746.out) hb)
      have n9_ := Aside0.mk (blk_below (g := gb723) (o := .cells #[.slice Ao13 t717.length co13, .slice Ao15 t720.length co15] 26 (0, 0)) (pK BK723.out) hb)
      have n10_ := Aside0.mk (blk_below (g := gb733) (o := .cells #[.slice Ao18 t724.length co18, .slice Ao21 t727.length co21] 26 (0, 0)) (pK BK733.out) hb)
      have n11_ := Aside0.mk (blk_below (g := gb740) (o := .cells #[.slice Ao25 t734.length co25, .slice Ao29 t737.length co29] 26 (0, 0)) (pK BK740.out) hb)
      have n12_ := Aside0.mk (blk_below (g := gb747) (o := .cells #[.slice Ao33 t741.length co33, .slice Ao38 t744.length co38] 26 (0, 0)) (pK BK747.out) hb)
      have n13_ := Aside0.mk (below_step (by repeat (first | (with_reducible first | exact HB.out | apply below_alloc | apply pw_below_drewN | apply below_drew1 | refine below_set ?_ GE723.out | refine below_set ?_ GE733.out | refine below_set ?_ GE740.out | refine below_set ?_ GE747.out) | exact HB.out)) hb)
      clear HO719
      clear HO722
      clear HO726
      clear HO729
      clear HO732
      clear HO736
      clear HO739
      clear HO743
      clear HO746
      clear BK723
      clear BK733
      clear BK740
      clear BK747
      clear HB
      have HO719 := n0_
      have HO722 := n1_
      have HO726 := n2_
      have HO729 := n3_
      have HO732 := n4_
      have HO736 := n5_
      have HO739 := n6_
      have HO743 := n7_
      have HO746 := n8_
      have BK723 := n9_
      have BK733 := n10_
      have BK740 := n11_
      have BK747 := n12_
      have HB := n13_
      clear n0_ n1_ n2_ n3_ n4_ n5_ n6_ n7_ n8_ n9_ n10_ n11_ n12_ n13_
      (try clear hb)
      (try clear hb2)
      (try clear hk)
      (try clear hi)
      obtain ⟨Ao46, co46, eo46⟩ := Kd.R_slice HO732.out
      (first | subst eo46 | (injection eo46 with f1_ f2_ f3_; have f4_ := f1_.symm; have f5_ := f3_.symm; clear f1_ f2_ f3_; subst f4_; subst f5_))
      refine hK.out _ _ ⟨(blk_cell BK747.out 0).trans rfl, (blk_cell BK747.out 1).trans rfl, (blk_cell BK740.out 0).trans rfl, (blk_cell BK740.out 1).trans rfl⟩ (fun hHeld => ?_)
      clear hK K
      refine norm_ (a' := ?_) ?_ ?_
      rotate_left
      ·show Act.put _ (some 32) _ = _
       simp only [Act.put, List.setIfInBounds_toArray, List.set_cons_zero, List.set_cons_succ, i64_w, i32_w]
       rfl
      refine pure_ (i := 3) (N := some 33) (v := ?_) (a' := ?_) #[true, true, true, true, false, false, false, false, false, false, false, false] rfl rfl (any_of HT_.out (by kernel_rfl)) (fun _ _ _ h => h) (Or.inl ⟨by rfl, ?_⟩) ?_ ?_
      rotate_left
      ·intro w'
       go_simp
       with_reducible rfl
      rotate_left
      ·simp only [Act.put, List.setIfInBounds_toArray, List.set_cons_zero, List.set_cons_succ, i64_w, i32_w]
       rfl
      refine pure_ (i := 4) (N := some 34) (v := ?_) (a' := ?_) #[true, true, true, true, true, false, false, false, false, false, false, false] rfl rfl (any_of HT_.out (by kernel_rfl)) (fun _ _ _ h => h) (Or.inl ⟨by rfl, ?_⟩) ?_ ?_
      rotate_left
      ·intro w'
       go_simp
       with_reducible rfl
      rotate_left
      ·simp only [Act.put, List.setIfInBounds_toArray, List.set_cons_zero, List.set_cons_succ, i64_w, i32_w]
       rfl
      refine pure_ (i := 6) (N := some 36) (v := ?_) (a' := ?_) #[true, true, true, true, true, false, true, false, false, false, false, false] rfl rfl (any_of HT_.out (by kernel_rfl)) (fun _ _ _ h => h) (Or.inl ⟨by rfl, ?_⟩) ?_ ?_
      rotate_left
      ·intro w'
       go_simp
       with_reducible rfl
      rotate_left
      ·simp only [Act.put, List.setIfInBounds_toArray, List.set_cons_zero, List.set_cons_succ, i64_w, i32_w]
       rfl
      refine take_ (i := 5) (N := some 35) (v := ?_) (a' := ?_) #[true, true, true, true, true, true, true, false, false, false, false, false] rfl rfl (take_ofW HT_.out HW_.out (by kernel_rfl)) (fun _ _ _ h => h) (Or.inl ⟨by rfl, ?_⟩) hHeld ?_ ?_
      rotate_left
      ·rintro w' ⟨s0, s1, s2, s3⟩
       go_simp
       with_reducible rfl
      rotate_left
      ·simp only [Act.put, List.setIfInBounds_toArray, List.set_cons_zero, List.set_cons_succ, i64_w, i32_w]
       rfl
      refine take_ (i := 8) (N := some 38) (v := ?_) (a' := ?_) #[true, true, true, true, true, true, true, false, true, false, false, false] rfl rfl (take_ofW HT_.out HW_.out (by kernel_rfl)) (fun _ _ _ h => h) (Or.inl ⟨by rfl, ?_⟩) hHeld ?_ ?_
      rotate_left
      ·rintro w' ⟨s0, s1, s2, s3⟩
       go_simp
       with_reducible rfl
      rotate_left
      ·simp only [Act.put, List.setIfInBounds_toArray, List.set_cons_zero, List.set_cons_succ, i64_w, i32_w]
       rfl
      refine one_ (i := 7) (N := some 37) #[true, true, true, true, true, true, true, true, true, false, false, false] rfl rfl (one_of HT_.out (by kernel_rfl)) (by decide) (fun K hK => ?_)
      refine goes_ Try.func35 (by kernel_rfl) rfl #[.agg #[.slice Ao33 t741.length co33, .slice Ao38 t744.length co38], .slice Ao46 t730.length co46] (by rfl) rfl rfl bM ?_
      with_reducible refine (impl_SecCut.calls kj2 _ _ t741 _ _ t744 _ _ t730 t749 t752 _ ?side1 ?side2 ?side3 ?side4 ?side5 ?side6 A41.out).mono ?_
      (case side1 => exact pC (Kd.R_reads' HO743.out).2.2)
      (case side2 => exact (Kd.R_reads' HO743.out).2.1)
      (case side3 => exact pC (Kd.R_reads' HO746.out).2.2)
      (case side4 => exact (Kd.R_reads' HO746.out).2.1)
      (case side5 => exact pC (Kd.R_reads' HO732.out).2.2)
      (case side6 => exact (Kd.R_reads' HO732.out).2.1)
      rintro e w47 ⟨v750, v753, rfl, ho0, ho1, hb⟩
      refine ⟨_, rfl, ?_⟩
      have n0_ := Aside0.mk (Kd.R_elder' (pR HO719.out) (Kd.R_base ho0) hb)
      have n1_ := Aside0.mk (Kd.R_elder' (pR HO722.out) (Kd.R_base ho1) hb)
      have n2_ := Aside0.mk (Kd.R_elder' (pR HO726.out) (Kd.R_base ho0) hb)
      have n3_ := Aside0.mk (Kd.R_elder' (pR HO729.out) (Kd.R_base ho1) hb)
      have n4_ := Aside0.mk (Kd.R_below (pR HO732.out) hb)
      have n5_ := Aside0.mk (Kd.R_elder' (pR HO736.out) (Kd.R_base ho0) hb)
      have n6_ := Aside0.mk (Kd.R_elder' (pR HO739.out) (Kd.R_base ho1) hb)
      have n7_ := Aside0.mk (Kd.R_elder' (pR HO743.out) (Kd.R_base ho0) hb)
      have n8_ := Aside0.mk (Kd.R_elder' (pR HO746.out) (Kd.R_base ho1) hb)
      have n9_ := Aside0.mk (Kd.R_lower (Kd.R_new' (Kd.R_new' (Kd.R_new' (Kd.R_new' ho0 (Kd.R_lt (pR HO719.out))) (Kd.R_lt (pR HO726.out))) (Kd.R_lt (pR HO736.out))) (Kd.R_lt (pR HO743.out))) (below_size (by repeat (first | (with_reducible first | exact HB.out | apply below_alloc | apply pw_below_drewN | apply below_drew1 | refine below_set ?_ GE723.out | refine below_set ?_ GE733.out | refine below_set ?_ GE740.out | refine below_set ?_ GE747.out) | exact HB.out))))
      have n10_ := Aside0.mk (Kd.R_lower (Kd.R_new' (Kd.R_new' (Kd.R_new' (Kd.R_new' ho1 (Kd.R_lt (pR HO722.out))) (Kd.R_lt (pR HO729.out))) (Kd.R_lt (pR HO739.out))) (Kd.R_lt (pR HO746.out))) (below_size (by repeat (first | (with_reducible first | exact HB.out | apply below_alloc | apply pw_below_drewN | apply below_drew1 | refine below_set ?_ GE723.out | refine below_set ?_ GE733.out | refine below_set ?_ GE740.out | refine below_set ?_ GE747.out) | exact HB.out))))
      have n11_ := Aside0.mk (blk_below (g := gb723) (o := .cells #[.slice Ao13 t717.length co13, .slice Ao15 t720.length co15] 26 (0, 0)) (pK BK723.out) hb)
      have n12_ := Aside0.mk (blk_below (g := gb733) (o := .cells #[.slice Ao18 t724.length co18, .slice Ao21 t727.length co21] 26 (0, 0)) (pK BK733.out) hb)
      have n13_ := Aside0.mk (blk_below (g := gb740) (o := .cells #[.slice Ao25 t734.length co25, .slice Ao29 t737.length co29] 26 (0, 0)) (pK BK740.out) hb)
      have n14_ := Aside0.mk (blk_below (g := gb747) (o := .cells #[.slice Ao33 t741.length co33, .slice Ao38 t744.length co38] 26 (0, 0)) (pK BK747.out) hb)
      have n15_ := Aside0.mk (below_step (by repeat (first | (with_reducible first | exact HB.out | apply below_alloc | apply pw_below_drewN | apply below_drew1 | refine below_set ?_ GE723.out | refine below_set ?_ GE733.out | refine below_set ?_ GE740.out | refine below_set ?_ GE747.out) | exact HB.out)) hb)
      clear HO719
      clear HO722
      clear HO726
      clear HO729
      clear HO732
      clear HO736
      clear HO739
      clear HO743
      clear HO746
      clear BK723
      clear BK733
      clear BK740
      clear BK747
      clear HB
      have HO719 := n0_
      have HO722 := n1_
      have HO726 := n2_
      have HO729 := n3_
      have HO732 := n4_
      have HO736 := n5_
      have HO739 := n6_
      have HO743 := n7_
      have HO746 := n8_
      have HO751 := n9_
      have HO754 := n10_
      have BK723 := n11_
      have BK733 := n12_
      have BK740 := n13_
      have BK747 := n14_
      have HB := n15_
      clear n0_ n1_ n2_ n3_ n4_ n5_ n6_ n7_ n8_ n9_ n10_ n11_ n12_ n13_ n14_ n15_
      (try clear hb)
      (try clear hb2)
      (try clear hk)
      (try clear hi)
      (try clear ho0)
      (try clear ho1)
      obtain ⟨Ao48, co48, eo48⟩ := Kd.R_slice HO751.out
      (first | subst eo48 | (injection eo48 with f1_ f2_ f3_; have f4_ := f1_.symm; have f5_ := f3_.symm; clear f1_ f2_ f3_; subst f4_; subst f5_))
      obtain ⟨Ao49, co49, eo49⟩ := Kd.R_slice HO754.out
      (first | subst eo49 | (injection eo49 with f1_ f2_ f3_; have f4_ := f1_.symm; have f5_ := f3_.symm; clear f1_ f2_ f3_; subst f4_; subst f5_))
      refine hK.out _ _ ⟨(blk_cell BK747.out 0).trans rfl, (blk_cell BK747.out 1).trans rfl, (blk_cell BK740.out 0).trans rfl, (blk_cell BK740.out 1).trans rfl⟩ (fun hHeld => ?_)
      clear hK K
      refine norm_ (a' := ?_) ?_ ?_
      rotate_left
      ·show Act.put _ (some 37) _ = _
       simp only [Act.put, List.setIfInBounds_toArray, List.set_cons_zero, List.set_cons_succ, i64_w, i32_w]
       rfl
      refine one_ (i := 9) (N := some 39) #[true, true, true, true, true, true, true, true, true, true, false, false] rfl rfl (one_of HT_.out (by kernel_rfl)) (by decide) (fun K hK => ?_)
      refine goes_ Try.func31 (by kernel_rfl) rfl #[.agg #[.slice Ao48 t749.length co48, .slice Ao49 t752.length co49], .agg #[.slice Ao33 t741.length co33, .slice Ao38 t744.length co38]] (by rfl) rfl rfl bM ?_
      with_reducible refine (laws_lpSec.calls kj2 _ _ t749 _ _ t752 _ _ t741 _ _ t744 t755 _ ?side1 ?side2 ?side3 ?side4 ?side5 ?side6 ?side7 ?side8 A42.out).mono ?_
      (case side1 => exact pC (Kd.R_reads' HO751.out).2.2)
      (case side2 => exact (Kd.R_reads' HO751.out).2.1)
      (case side3 => exact pC (Kd.R_reads' HO754.out).2.2)
      (case side4 => exact (Kd.R_reads' HO754.out).2.1)
      (case side5 => exact pC (Kd.R_reads' HO743.out).2.2)
      (case side6 => exact (Kd.R_reads' HO743.out).2.1)
      (case side7 => exact pC (Kd.R_reads' HO746.out).2.2)
      (case side8 => exact (Kd.R_reads' HO746.out).2.1)
      rintro e w50 ⟨rfl, hb⟩
      refine ⟨_, rfl, ?_⟩
      have n0_ := Aside0.mk (Kd.R_below (pR HO719.out) hb)
      have n1_ := Aside0.mk (Kd.R_below (pR HO722.out) hb)
      have n2_ := Aside0.mk (Kd.R_below (pR HO726.out) hb)
      have n3_ := Aside0.mk (Kd.R_below (pR HO729.out) hb)
      have n4_ := Aside0.mk (Kd.R_below (pR HO732.out) hb)
      have n5_ := Aside0.mk (Kd.R_below (pR HO736.out) hb)
      have n6_ := Aside0.mk (Kd.R_below (pR HO739.out) hb)
      have n7_ := Aside0.mk (Kd.R_below (pR HO743.out) hb)
      have n8_ := Aside0.mk (Kd.R_below (pR HO746.out) hb)
      have n9_ := Aside0.mk (Kd.R_below (pR HO751.out) hb)
      have n10_ := Aside0.mk (Kd.R_below (pR HO754.out) hb)
      have n11_ := Aside0.mk (blk_below (g := gb723) (o := .cells #[.slice Ao13 t717.length co13, .slice Ao15 t720.length co15] 26 (0, 0)) (pK BK723.out) hb)
      have n12_ := Aside0.mk (blk_below (g := gb733) (o := .cells #[.slice Ao18 t724.length co18, .slice Ao21 t727.length co21] 26 (0, 0)) (pK BK733.out) hb)
      have n13_ := Aside0.mk (blk_below (g := gb740) (o := .cells #[.slice Ao25 t734.length co25, .slice Ao29 t737.length co29] 26 (0, 0)) (pK BK740.out) hb)
      have n14_ := Aside0.mk (blk_below (g := gb747) (o := .cells #[.slice Ao33 t741.length co33, .slice Ao38 t744.length co38] 26 (0, 0)) (pK BK747.out) hb)
      have n15_ := Aside0.mk (below_step (by repeat (first | (with_reducible first | exact HB.out | apply below_alloc | apply pw_below_drewN | apply below_drew1 | refine below_set ?_ GE723.out | refine below_set ?_ GE733.out | refine below_set ?_ GE740.out | refine below_set ?_ GE747.out) | exact HB.out)) hb)
      clear HO719
      clear HO722
      clear HO726
      clear HO729
      clear HO732
      clear HO736
      clear HO739
      clear HO743
      clear HO746
      clear HO751
      clear HO754
      clear BK723
      clear BK733
      clear BK740
      clear BK747
      clear HB
      have HO719 := n0_
      have HO722 := n1_
      have HO726 := n2_
      have HO729 := n3_
      have HO732 := n4_
      have HO736 := n5_
      have HO739 := n6_
      have HO743 := n7_
      have HO746 := n8_
      have HO751 := n9_
      have HO754 := n10_
      have BK723 := n11_
      have BK733 := n12_
      have BK740 := n13_
      have BK747 := n14_
      have HB := n15_
      clear n0_ n1_ n2_ n3_ n4_ n5_ n6_ n7_ n8_ n9_ n10_ n11_ n12_ n13_ n14_ n15_
      (try clear hb)
      (try clear hb2)
      (try clear hk)
      (try clear hi)
      refine hK.out _ _ ⟨(blk_cell BK747.out 0).trans rfl, (blk_cell BK747.out 1).trans rfl, (blk_cell BK740.out 0).trans rfl, (blk_cell BK740.out 1).trans rfl⟩ (fun hHeld => ?_)
      clear hK K
      refine norm_ (a' := ?_) ?_ ?_
      rotate_left
      ·show Act.put _ (some 39) _ = _
       simp only [Act.put, List.setIfInBounds_toArray, List.set_cons_zero, List.set_cons_succ, i64_w, i32_w]
       rfl
      refine pure_ (i := 10) (N := some 40) (v := ?_) (a' := ?_) #[true, true, true, true, true, true, true, true, true, true, true, false] rfl rfl (any_of HT_.out (by kernel_rfl)) (fun _ _ _ h => h) (Or.inl ⟨by rfl, ?_⟩) ?_ ?_
      rotate_left
      ·intro w'
       go_simp
       with_reducible rfl
      rotate_left
      ·simp only [Act.put, List.setIfInBounds_toArray, List.set_cons_zero, List.set_cons_succ, i64_w, i32_w]
       rfl
      refine pure_ (i := 11) (N := some 41) (v := ?_) (a' := ?_) #[true, true, true, true, true, true, true, true, true, true, true, true] rfl rfl (any_of HT_.out (by kernel_rfl)) (fun _ _ _ h => h) (Or.inl ⟨by rfl, ?_⟩) ?_ ?_
      rotate_left
      ·intro w'
       go_simp
       with_reducible rfl
      rotate_left
      ·simp only [Act.put, List.setIfInBounds_toArray, List.set_cons_zero, List.set_cons_succ, i64_w, i32_w]
       rfl
      refine done_ (done_of HT_.out (by kernel_rfl)) ?_
      try go_wp2
      go_meet
      case rel => exact ⟨_, (!t755), (by first | rfl | (simp; done) | (simp [*]; done)), H', ⟨by have := HJ2.out; first | omega | exact Nat.le_refl _⟩, ⟨pR (Kd.R_mono HO719.out (fun _ hk => ⟨hk.1.1, ⟨hk.1.2.1, hk.1.2.2⟩⟩))⟩, ⟨pR (Kd.R_mono HO722.out (fun _ hk => ⟨hk.1.1, ⟨hk.1.2.1, hk.1.2.2⟩⟩))⟩, ⟨pR (Kd.R_mono HO726.out (fun _ hk => ⟨hk.1.1, ⟨hk.1.2.1, hk.1.2.2⟩⟩))⟩, ⟨pR (Kd.R_mono HO729.out (fun _ hk => ⟨hk.1.1, ⟨hk.1.2.1, hk.1.2.2⟩⟩))⟩, ⟨pR (Kd.R_mono HO736.out (fun _ hk => ⟨hk.1.1, ⟨hk.1.2.1, hk.1.2.2⟩⟩))⟩, ⟨pR (Kd.R_mono HO739.out (fun _ hk => ⟨hk.1.1, ⟨hk.1.2.1, hk.1.2.2⟩⟩))⟩, ⟨pR (Kd.R_mono HO743.out (fun _ hk => ⟨hk.1.1, ⟨hk.1.2.1, hk.1.2.2⟩⟩))⟩, ⟨pR (Kd.R_mono HO746.out (fun _ hk => ⟨hk.1.1, ⟨hk.1.2.1, hk.1.2.2⟩⟩))⟩, ⟨pK BK723.out⟩, ⟨pK BK733.out⟩, ⟨pK BK740.out⟩, ⟨pK BK747.out⟩, ⟨by repeat (first | (with_reducible first | exact HB.out | apply below_alloc | apply pw_below_drewN | apply below_drew1 | refine below_set ?_ GE723.out | refine below_set ?_ GE733.out | refine below_set ?_ GE740.out | refine below_set ?_ GE747.out) | exact HB.out)⟩⟩
     ·replace c40 := Bool.eq_false_iff.mpr c40
      subst c40
      have H1 : (laws_FnSecFlush.j1 kj2 true t717 t720 t741 t744) = some r := by rw [if_neg (show ¬ (false = true) by decide)] at H; exact H
      clear H
      have H := H1
      clear H1
      have H' := Aside0.mk H
      clear H
      try go_wp2
      have n0_ : Aside0 (Kd.R Kd.string 9 ((w32.setCell ⟨gb747, 0, none⟩ (.slice Ao33 t741.length co33)).setCell ⟨gb747, 1, none⟩ (.slice Ao38 t744.length co38)) w.heap.size (fun k_ => some k_ ≠ (.slice Ao18 t724.length co18 : Value).ownBlock ∧ some k_ ≠ (.slice Ao25 t734.length co25 : Value).ownBlock ∧ some k_ ≠ (.slice Ao33 t741.length co33 : Value).ownBlock) (.slice Ao13 t717.length co13) t717) := ⟨pR (Kd.R_mono (Kd.R_far (p := ⟨gb747, 1, none⟩) (Kd.R_far (p := ⟨gb747, 0, none⟩) (Kd.R_types HO719.out BK747.out (by decide)) (fun _ hk => hk.2) (.slice Ao33 t741.length co33)) (fun _ hk => hk.2) (.slice Ao38 t744.length co38)) (fun _ hk => ⟨hk.1.1.1.2, ⟨hk.1.1.2, hk.1.2⟩⟩))⟩
      have n1_ : Aside0 (Kd.R k54 54 ((w32.setCell ⟨gb747, 0, none⟩ (.slice Ao33 t741.length co33)).setCell ⟨gb747, 1, none⟩ (.slice Ao38 t744.length co38)) w.heap.size (fun k_ => some k_ ≠ (.slice Ao21 t727.length co21 : Value).ownBlock ∧ some k_ ≠ (.slice Ao29 t737.length co29 : Value).ownBlock ∧ some k_ ≠ (.slice Ao38 t744.length co38 : Value).ownBlock) (.slice Ao15 t720.length co15) t720) := ⟨pR (Kd.R_mono (Kd.R_far (p := ⟨gb747, 1, none⟩) (Kd.R_far (p := ⟨gb747, 0, none⟩) (Kd.R_types HO722.out BK747.out (by decide)) (fun _ hk => hk.2) (.slice Ao33 t741.length co33)) (fun _ hk => hk.2) (.slice Ao38 t744.length co38)) (fun _ hk => ⟨hk.1.1.1.2, ⟨hk.1.1.2, hk.1.2⟩⟩))⟩
      have n2_ : Aside0 (Kd.R Kd.string 9 ((w32.setCell ⟨gb747, 0, none⟩ (.slice Ao33 t741.length co33)).setCell ⟨gb747, 1, none⟩ (.slice Ao38 t744.length co38)) w.heap.size (fun k_ => some k_ ≠ (.slice Ao13 t717.length co13 : Value).ownBlock ∧ some k_ ≠ (.slice Ao25 t734.length co25 : Value).ownBlock ∧ some k_ ≠ (.slice Ao33 t741.length co33 : Value).ownBlock) (.slice Ao18 t724.length co18) t724) := ⟨pR (Kd.R_mono (Kd.R_far (p := ⟨gb747, 1, none⟩) (Kd.R_far (p := ⟨gb747, 0, none⟩) (Kd.R_types HO726.out BK747.out (by decide)) (fun _ hk => hk.2) (.slice Ao33 t741.length co33)) (fun _ hk => hk.2) (.slice Ao38 t744.length co38)) (fun _ hk => ⟨hk.1.1.1.2, ⟨hk.1.1.2, hk.1.2⟩⟩))⟩
      have n3_ : Aside0 (Kd.R k54 54 ((w32.setCell ⟨gb747, 0, none⟩ (.slice Ao33 t741.length co33)).setCell ⟨gb747, 1, none⟩ (.slice Ao38 t744.length co38)) w.heap.size (fun k_ => some k_ ≠ (.slice Ao15 t720.length co15 : Value).ownBlock ∧ some k_ ≠ (.slice Ao29 t737.length co29 : Value).ownBlock ∧ some k_ ≠ (.slice Ao38 t744.length co38 : Value).ownBlock) (.slice Ao21 t727.length co21) t727) := ⟨pR (Kd.R_mono (Kd.R_far (p := ⟨gb747, 1, none⟩) (Kd.R_far (p := ⟨gb747, 0, none⟩) (Kd.R_types HO729.out BK747.out (by decide)) (fun _ hk => hk.2) (.slice Ao33 t741.length co33)) (fun _ hk => hk.2) (.slice Ao38 t744.length co38)) (fun _ hk => ⟨hk.1.1.1.2, ⟨hk.1.1.2, hk.1.2⟩⟩))⟩
      have n4_ : Aside0 (Kd.R (Kd.int .i64) 3 ((w32.setCell ⟨gb747, 0, none⟩ (.slice Ao33 t741.length co33)).setCell ⟨gb747, 1, none⟩ (.slice Ao38 t744.length co38)) w.heap.size (fun _ => True) v731 t730) := ⟨pR (Kd.R_mono (Kd.R_far (p := ⟨gb747, 1, none⟩) (Kd.R_far (p := ⟨gb747, 0, none⟩) (Kd.R_types HO732.out BK747.out (by decide)) (fun _ hk => hk.2) (.slice Ao33 t741.length co33)) (fun _ hk => hk.2) (.slice Ao38 t744.length co38)) (fun _ hk => trivial))⟩
      have n5_ : Aside0 (Kd.R Kd.string 9 ((w32.setCell ⟨gb747, 0, none⟩ (.slice Ao33 t741.length co33)).setCell ⟨gb747, 1, none⟩ (.slice Ao38 t744.length co38)) w.heap.size (fun k_ => some k_ ≠ (.slice Ao13 t717.length co13 : Value).ownBlock ∧ some k_ ≠ (.slice Ao18 t724.length co18 : Value).ownBlock ∧ some k_ ≠ (.slice Ao33 t741.length co33 : Value).ownBlock) (.slice Ao25 t734.length co25) t734) := ⟨pR (Kd.R_mono (Kd.R_far (p := ⟨gb747, 1, none⟩) (Kd.R_far (p := ⟨gb747, 0, none⟩) (Kd.R_types HO736.out BK747.out (by decide)) (fun _ hk => hk.2) (.slice Ao33 t741.length co33)) (fun _ hk => hk.2) (.slice Ao38 t744.length co38)) (fun _ hk => ⟨hk.1.1.1.2, ⟨hk.1.1.2, hk.1.2⟩⟩))⟩
      have n6_ : Aside0 (Kd.R k54 54 ((w32.setCell ⟨gb747, 0, none⟩ (.slice Ao33 t741.length co33)).setCell ⟨gb747, 1, none⟩ (.slice Ao38 t744.length co38)) w.heap.size (fun k_ => some k_ ≠ (.slice Ao15 t720.length co15 : Value).ownBlock ∧ some k_ ≠ (.slice Ao21 t727.length co21 : Value).ownBlock ∧ some k_ ≠ (.slice Ao38 t744.length co38 : Value).ownBlock) (.slice Ao29 t737.length co29) t737) := ⟨pR (Kd.R_mono (Kd.R_far (p := ⟨gb747, 1, none⟩) (Kd.R_far (p := ⟨gb747, 0, none⟩) (Kd.R_types HO739.out BK747.out (by decide)) (fun _ hk => hk.2) (.slice Ao33 t741.length co33)) (fun _ hk => hk.2) (.slice Ao38 t744.length co38)) (fun _ hk => ⟨hk.1.1.1.2, ⟨hk.1.1.2, hk.1.2⟩⟩))⟩
      have n7_ : Aside0 (Kd.R Kd.string 9 ((w32.setCell ⟨gb747, 0, none⟩ (.slice Ao33 t741.length co33)).setCell ⟨gb747, 1, none⟩ (.slice Ao38 t744.length co38)) w.heap.size (fun k_ => some k_ ≠ (.slice Ao13 t717.length co13 : Value).ownBlock ∧ some k_ ≠ (.slice Ao18 t724.length co18 : Value).ownBlock ∧ some k_ ≠ (.slice Ao25 t734.length co25 : Value).ownBlock) (.slice Ao33 t741.length co33) t741) := ⟨pR (Kd.R_mono (Kd.R_far (p := ⟨gb747, 1, none⟩) (Kd.R_far (p := ⟨gb747, 0, none⟩) (Kd.R_types HO743.out BK747.out (by decide)) (fun _ hk => hk.2) (.slice Ao33 t741.length co33)) (fun _ hk => hk.2) (.slice Ao38 t744.length co38)) (fun _ hk => ⟨hk.1.1.1.2, ⟨hk.1.1.2, hk.1.2⟩⟩))⟩
      have n8_ : Aside0 (Kd.R k54 54 ((w32.setCell ⟨gb747, 0, none⟩ (.slice Ao33 t741.length co33)).setCell ⟨gb747, 1, none⟩ (.slice Ao38 t744.length co38)) w.heap.size (fun k_ => some k_ ≠ (.slice Ao15 t720.length co15 : Value).ownBlock ∧ some k_ ≠ (.slice Ao21 t727.length co21 : Value).ownBlock ∧ some k_ ≠ (.slice Ao29 t737.length co29 : Value).ownBlock) (.slice Ao38 t744.length co38) t744) := ⟨pR (Kd.R_mono (Kd.R_far (p := ⟨gb747, 1, none⟩) (Kd.R_far (p := ⟨gb747, 0, none⟩) (Kd.R_types HO746.out BK747.out (by decide)) (fun _ hk => hk.2) (.slice Ao33 t741.length co33)) (fun _ hk => hk.2) (.slice Ao38 t744.length co38)) (fun _ hk => ⟨hk.1.1.1.2, ⟨hk.1.1.2, hk.1.2⟩⟩))⟩
      have n9_ : Aside0 (((w32.setCell ⟨gb747, 0, none⟩ (.slice Ao33 t741.length co33)).setCell ⟨gb747, 1, none⟩ (.slice Ao38 t744.length co38)).heap[gb723]? = some (.cells #[.slice Ao13 t717.length co13, .slice Ao15 t720.length co15] 26 (0, 0))) := ⟨by (with_reducible repeat (first | refine blk_drewN ?_ _ | refine blk_drew ?_ | refine blk_alloc ?_ _)); refine blk_far ?_ NB723_747.out _; (with_reducible repeat (first | refine blk_drewN ?_ _ | refine blk_drew ?_ | refine blk_alloc ?_ _)); refine blk_far ?_ NB723_747.out _; (with_reducible repeat (first | refine blk_drewN ?_ _ | refine blk_drew ?_ | refine blk_alloc ?_ _)); exact BK723.out⟩
      have n10_ : Aside0 (((w32.setCell ⟨gb747, 0, none⟩ (.slice Ao33 t741.length co33)).setCell ⟨gb747, 1, none⟩ (.slice Ao38 t744.length co38)).heap[gb733]? = some (.cells #[.slice Ao18 t724.length co18, .slice Ao21 t727.length co21] 26 (0, 0))) := ⟨by (with_reducible repeat (first | refine blk_drewN ?_ _ | refine blk_drew ?_ | refine blk_alloc ?_ _)); refine blk_far ?_ NB733_747.out _; (with_reducible repeat (first | refine blk_drewN ?_ _ | refine blk_drew ?_ | refine blk_alloc ?_ _)); refine blk_far ?_ NB733_747.out _; (with_reducible repeat (first | refine blk_drewN ?_ _ | refine blk_drew ?_ | refine blk_alloc ?_ _)); exact BK733.out⟩
      have n11_ : Aside0 (((w32.setCell ⟨gb747, 0, none⟩ (.slice Ao33 t741.length co33)).setCell ⟨gb747, 1, none⟩ (.slice Ao38 t744.length co38)).heap[gb740]? = some (.cells #[.slice Ao25 t734.length co25, .slice Ao29 t737.length co29] 26 (0, 0))) := ⟨by (with_reducible repeat (first | refine blk_drewN ?_ _ | refine blk_drew ?_ | refine blk_alloc ?_ _)); refine blk_far ?_ NB740_747.out _; (with_reducible repeat (first | refine blk_drewN ?_ _ | refine blk_drew ?_ | refine blk_alloc ?_ _)); refine blk_far ?_ NB740_747.out _; (with_reducible repeat (first | refine blk_drewN ?_ _ | refine blk_drew ?_ | refine blk_alloc ?_ _)); exact BK740.out⟩
      have n12_ : Aside0 (((w32.setCell ⟨gb747, 0, none⟩ (.slice Ao33 t741.length co33)).setCell ⟨gb747, 1, none⟩ (.slice Ao38 t744.length co38)).heap[gb747]? = some (.cells #[.slice Ao33 t741.length co33, .slice Ao38 t744.length co38] 26 (0, 0))) := ⟨by (with_reducible repeat (first | refine blk_drewN ?_ _ | refine blk_drew ?_ | refine blk_alloc ?_ _)); refine blk_put (cs := #[.slice Ao33 t741.length co33, .slice none 0 0]) ?_ 1 _ rfl; (with_reducible repeat (first | refine blk_drewN ?_ _ | refine blk_drew ?_ | refine blk_alloc ?_ _)); refine blk_put (cs := #[.slice none 0 0, .slice none 0 0]) ?_ 0 _ rfl; (with_reducible repeat (first | refine blk_drewN ?_ _ | refine blk_drew ?_ | refine blk_alloc ?_ _)); exact BK747.out⟩
      have n13_ : Aside0 (Below w.heap.size w ((w32.setCell ⟨gb747, 0, none⟩ (.slice Ao33 t741.length co33)).setCell ⟨gb747, 1, none⟩ (.slice Ao38 t744.length co38))) := ⟨by repeat (first | (with_reducible first | exact HB.out | apply below_alloc | apply pw_below_drewN | apply below_drew1 | refine below_set ?_ GE723.out | refine below_set ?_ GE733.out | refine below_set ?_ GE740.out | refine below_set ?_ GE747.out) | exact HB.out)⟩
      (try clear HO719)
      (try clear HO722)
      (try clear HO726)
      (try clear HO729)
      (try clear HO732)
      (try clear HO736)
      (try clear HO739)
      (try clear HO743)
      (try clear HO746)
      (try clear BK723)
      (try clear BK733)
      (try clear BK740)
      (try clear BK747)
      (try clear HB)
      generalize ((w32.setCell ⟨gb747, 0, none⟩ (.slice Ao33 t741.length co33)).setCell ⟨gb747, 1, none⟩ (.slice Ao38 t744.length co38)) = w51 at n0_ n1_ n2_ n3_ n4_ n5_ n6_ n7_ n8_ n9_ n10_ n11_ n12_ n13_ ⊢
      have HO719 := n0_
      have HO722 := n1_
      have HO726 := n2_
      have HO729 := n3_
      have HO732 := n4_
      have HO736 := n5_
      have HO739 := n6_
      have HO743 := n7_
      have HO746 := n8_
      have BK723 := n9_
      have BK733 := n10_
      have BK740 := n11_
      have BK747 := n12_
      have HB := n13_
      clear n0_ n1_ n2_ n3_ n4_ n5_ n6_ n7_ n8_ n9_ n10_ n11_ n12_ n13_
      have n0_ := Aside0.mk (Kd.R_drew HO719.out)
      have n1_ := Aside0.mk (Kd.R_drew HO722.out)
      have n2_ := Aside0.mk (Kd.R_drew HO726.out)
      have n3_ := Aside0.mk (Kd.R_drew HO729.out)
      have n4_ := Aside0.mk (Kd.R_drew HO732.out)
      have n5_ := Aside0.mk (Kd.R_drew HO736.out)
      have n6_ := Aside0.mk (Kd.R_drew HO739.out)
      have n7_ := Aside0.mk (Kd.R_drew HO743.out)
      have n8_ := Aside0.mk (Kd.R_drew HO746.out)
      have n9_ := Aside0.mk (blk_drew BK723.out)
      have n10_ := Aside0.mk (blk_drew BK733.out)
      have n11_ := Aside0.mk (blk_drew BK740.out)
      have n12_ := Aside0.mk (blk_drew BK747.out)
      have n13_ := Aside0.mk (below_drew1 HB.out)
      clear HO719
      clear HO722
      clear HO726
      clear HO729
      clear HO732
      clear HO736
      clear HO739
      clear HO743
      clear HO746
      clear BK723
      clear BK733
      clear BK740
      clear BK747
      clear HB
      have HO719 := n0_
      have HO722 := n1_
      have HO726 := n2_
      have HO729 := n3_
      have HO732 := n4_
      have HO736 := n5_
      have HO739 := n6_
      have HO743 := n7_
      have HO746 := n8_
      have BK723 := n9_
      have BK733 := n10_
      have BK740 := n11_
      have BK747 := n12_
      have HB := n13_
      clear n0_ n1_ n2_ n3_ n4_ n5_ n6_ n7_ n8_ n9_ n10_ n11_ n12_ n13_
      refine start_ (n := 12) (S := fun w' => w'.cell? ⟨gb747, 0, none⟩ = some (.slice Ao33 t741.length co33) ∧ w'.cell? ⟨gb747, 1, none⟩ = some (.slice Ao38 t744.length co38) ∧ w'.cell? ⟨gb740, 0, none⟩ = some (.slice Ao25 t734.length co25) ∧ w'.cell? ⟨gb740, 1, none⟩ = some (.slice Ao29 t737.length co29)) (ds := []) #[false, false, false, false, false, false, false, false, false, false, false, false] (by kernel_rfl) rfl rfl ⟨(blk_cell BK747.out 0).trans rfl, (blk_cell BK747.out 1).trans rfl, (blk_cell BK740.out 0).trans rfl, (blk_cell BK740.out 1).trans rfl⟩ (fun hHeld => ?_); refine with_tabW laws_FnSecFlush.tab7 laws_FnSecFlush.bits7 (fun HT_ HW_ => ?_)
      generalize w51.drew = w52 at HO719 HO722 HO726 HO729 HO732 HO736 HO739 HO743 HO746 BK723 BK733 BK740 BK747 HB hHeld ⊢
      refine take_ (i := 0) (N := some 30) (v := ?_) (a' := ?_) #[true, false, false, false, false, false, false, false, false, false, false, false] rfl rfl (take_ofW HT_.out HW_.out (by kernel_rfl)) (fun _ _ _ h => h) (Or.inl ⟨by rfl, ?_⟩) hHeld ?_ ?_
      rotate_left
      ·rintro w' ⟨s0, s1, s2, s3⟩
       go_simp
       with_reducible rfl
      rotate_left
      ·simp only [Act.put, List.setIfInBounds_toArray, List.set_cons_zero, List.set_cons_succ, i64_w, i32_w]
       rfl
      refine take_ (i := 1) (N := some 31) (v := ?_) (a' := ?_) #[true, true, false, false, false, false, false, false, false, false, false, false] rfl rfl (take_ofW HT_.out HW_.out (by kernel_rfl)) (fun _ _ _ h => h) (Or.inl ⟨by rfl, ?_⟩) hHeld ?_ ?_
      rotate_left
      ·rintro w' ⟨s0, s1, s2, s3⟩
       go_simp
       with_reducible rfl
      rotate_left
      ·simp only [Act.put, List.setIfInBounds_toArray, List.set_cons_zero, List.set_cons_succ, i64_w, i32_w]
       rfl
      refine one_ (i := 2) (N := some 32) #[true, true, true, false, false, false, false, false, false, false, false, false] rfl rfl (one_of HT_.out (by kernel_rfl)) (by decide) (fun K hK => ?_)
      refine goes_ Try.func31 (by kernel_rfl) rfl #[.agg #[.slice Ao33 t741.length co33, .slice Ao38 t744.length co38], .agg #[.slice Ao25 t734.length co25, .slice Ao29 t737.length co29]] (by rfl) rfl rfl bM ?_
      with_reducible refine (laws_lpSec.calls kj2 _ _ t741 _ _ t744 _ _ t734 _ _ t737 false _ ?side1 ?side2 ?side3 ?side4 ?side5 ?side6 ?side7 ?side8 A39.out).mono ?_
      (case side1 => exact pC (Kd.R_reads' HO743.out).2.2)
      (case side2 => exact (Kd.R_reads' HO743.out).2.1)
      (case side3 => exact pC (Kd.R_reads' HO746.out).2.2)
      (case side4 => exact (Kd.R_reads' HO746.out).2.1)
      (case side5 => exact pC (Kd.R_reads' HO736.out).2.2)
      (case side6 => exact (Kd.R_reads' HO736.out).2.1)
      (case side7 => exact pC (Kd.R_reads' HO739.out).2.2)
      (case side8 => exact (Kd.R_reads' HO739.out).2.1)
      rintro e w53 ⟨rfl, hb⟩
      refine ⟨_, rfl, ?_⟩
      have n0_ := Aside0.mk (Kd.R_below (pR HO719.out) hb)
      have n1_ := Aside0.mk (Kd.R_below (pR HO722.out) hb)
      have n2_ := Aside0.mk (Kd.R_below (pR HO726.out) hb)
      have n3_ := Aside0.mk (Kd.R_below (pR HO729.out) hb)
      have n4_ := Aside0.mk (Kd.R_below (pR HO732.out) hb)
      have n5_ := Aside0.mk (Kd.R_below (pR HO736.out) hb)
      have n6_ := Aside0.mk (Kd.R_below (pR HO739.out) hb)
      have n7_ := Aside0.mk (Kd.R_below (pR HO743.out) hb)
      have n8_ := Aside0.mk (Kd.R_below (pR HO746.out) hb)
      have n9_ := Aside0.mk (blk_below (g := gb723) (o := .cells #[.slice Ao13 t717.length co13, .slice Ao15 t720.length co15] 26 (0, 0)) (pK BK723.out) hb)
      have n10_ := Aside0.mk (blk_below (g := gb733) (o := .cells #[.slice Ao18 t724.length co18, .slice Ao21 t727.length co21] 26 (0, 0)) (pK BK733.out) hb)
      have n11_ := Aside0.mk (blk_below (g := gb740) (o := .cells #[.slice Ao25 t734.length co25, .slice Ao29 t737.length co29] 26 (0, 0)) (pK BK740.out) hb)
      have n12_ := Aside0.mk (blk_below (g := gb747) (o := .cells #[.slice Ao33 t741.length co33, .slice Ao38 t744.length co38] 26 (0, 0)) (pK BK747.out) hb)
      have n13_ := Aside0.mk (below_step (by repeat (first | (with_reducible first | exact HB.out | apply below_alloc | apply pw_below_drewN | apply below_drew1 | refine below_set ?_ GE723.out | refine below_set ?_ GE733.out | refine below_set ?_ GE740.out | refine below_set ?_ GE747.out) | exact HB.out)) hb)
      clear HO719
      clear HO722
      clear HO726
      clear HO729
      clear HO732
      clear HO736
      clear HO739
      clear HO743
      clear HO746
      clear BK723
      clear BK733
      clear BK740
      clear BK747
      clear HB
      have HO719 := n0_
      have HO722 := n1_
      have HO726 := n2_
      have HO729 := n3_
      have HO732 := n4_
      have HO736 := n5_
      have HO739 := n6_
      have HO743 := n7_
      have HO746 := n8_
      have BK723 := n9_
      have BK733 := n10_
      have BK740 := n11_
      have BK747 := n12_
      have HB := n13_
      clear n0_ n1_ n2_ n3_ n4_ n5_ n6_ n7_ n8_ n9_ n10_ n11_ n12_ n13_
      (try clear hb)
      (try clear hb2)
      (try clear hk)
      (try clear hi)
      refine hK.out _ _ ⟨(blk_cell BK747.out 0).trans rfl, (blk_cell BK747.out 1).trans rfl, (blk_cell BK740.out 0).trans rfl, (blk_cell BK740.out 1).trans rfl⟩ (fun hHeld => ?_)
      clear hK K
      refine norm_ (a' := ?_) ?_ ?_
      rotate_left
      ·show Act.put _ (some 32) _ = _
       simp only [Act.put, List.setIfInBounds_toArray, List.set_cons_zero, List.set_cons_succ, i64_w, i32_w]
       rfl
      refine pure_ (i := 3) (N := some 33) (v := ?_) (a' := ?_) #[true, true, true, true, false, false, false, false, false, false, false, false] rfl rfl (any_of HT_.out (by kernel_rfl)) (fun _ _ _ h => h) (Or.inl ⟨by rfl, ?_⟩) ?_ ?_
      rotate_left
      ·intro w'
       go_simp
       with_reducible rfl
      rotate_left
      ·simp only [Act.put, List.setIfInBounds_toArray, List.set_cons_zero, List.set_cons_succ, i64_w, i32_w]
       rfl
      refine pure_ (i := 4) (N := some 34) (v := ?_) (a' := ?_) #[true, true, true, true, true, false, false, false, false, false, false, false] rfl rfl (any_of HT_.out (by kernel_rfl)) (fun _ _ _ h => h) (Or.inl ⟨by rfl, ?_⟩) ?_ ?_
      rotate_left
      ·intro w'
       go_simp
       with_reducible rfl
      rotate_left
      ·simp only [Act.put, List.setIfInBounds_toArray, List.set_cons_zero, List.set_cons_succ, i64_w, i32_w]
       rfl
      refine pure_ (i := 5) (N := some 35) (v := undef) (a' := ?_) #[true, true, true, true, true, true, false, false, false, false, false, false] rfl rfl (any_of HT_.out (by kernel_rfl)) (fun _ _ _ h => h) (Or.inr ⟨by rfl, rfl⟩) ?_ ?_
      rotate_left
      ·simp only [Act.put, List.setIfInBounds_toArray, List.set_cons_zero, List.set_cons_succ, i64_w, i32_w]
       rfl
      refine pure_ (i := 6) (N := some 36) (v := undef) (a' := ?_) #[true, true, true, true, true, true, true, false, false, false, false, false] rfl rfl (any_of HT_.out (by kernel_rfl)) (fun _ _ _ h => h) (Or.inr ⟨by rfl, rfl⟩) ?_ ?_
      rotate_left
      ·simp only [Act.put, List.setIfInBounds_toArray, List.set_cons_zero, List.set_cons_succ, i64_w, i32_w]
       rfl
      refine pure_ (i := 7) (N := some 37) (v := undef) (a' := ?_) #[true, true, true, true, true, true, true, true, false, false, false, false] rfl rfl (any_of HT_.out (by kernel_rfl)) (fun _ _ _ h => h) (Or.inr ⟨by rfl, rfl⟩) ?_ ?_
      rotate_left
      ·simp only [Act.put, List.setIfInBounds_toArray, List.set_cons_zero, List.set_cons_succ, i64_w, i32_w]
       rfl
      refine pure_ (i := 8) (N := some 38) (v := undef) (a' := ?_) #[true, true, true, true, true, true, true, true, true, false, false, false] rfl rfl (any_of HT_.out (by kernel_rfl)) (fun _ _ _ h => h) (Or.inr ⟨by rfl, rfl⟩) ?_ ?_
      rotate_left
      ·simp only [Act.put, List.setIfInBounds_toArray, List.set_cons_zero, List.set_cons_succ, i64_w, i32_w]
       rfl
      refine pure_ (i := 9) (N := some 39) (v := undef) (a' := ?_) #[true, true, true, true, true, true, true, true, true, true, false, false] rfl rfl (any_of HT_.out (by kernel_rfl)) (fun _ _ _ h => h) (Or.inr ⟨by rfl, rfl⟩) ?_ ?_
      rotate_left
      ·simp only [Act.put, List.setIfInBounds_toArray, List.set_cons_zero, List.set_cons_succ, i64_w, i32_w]
       rfl
      refine pure_ (i := 10) (N := some 40) (v := undef) (a' := ?_) #[true, true, true, true, true, true, true, true, true, true, true, false] rfl rfl (any_of HT_.out (by kernel_rfl)) (fun _ _ _ h => h) (Or.inr ⟨by rfl, rfl⟩) ?_ ?_
      rotate_left
      ·simp only [Act.put, List.setIfInBounds_toArray, List.set_cons_zero, List.set_cons_succ, i64_w, i32_w]
       rfl
      refine pure_ (i := 11) (N := some 41) (v := ?_) (a' := ?_) #[true, true, true, true, true, true, true, true, true, true, true, true] rfl rfl (any_of HT_.out (by kernel_rfl)) (fun _ _ _ h => h) (Or.inl ⟨by rfl, ?_⟩) ?_ ?_
      rotate_left
      ·intro w'
       go_simp
       with_reducible rfl
      rotate_left
      ·simp only [Act.put, List.setIfInBounds_toArray, List.set_cons_zero, List.set_cons_succ, i64_w, i32_w]
       rfl
      refine done_ (done_of HT_.out (by kernel_rfl)) ?_
      try go_wp2
      go_meet
      case rel => exact ⟨_, (true), (by first | rfl | (simp; done) | (simp [*]; done)), H', ⟨by have := HJ2.out; first | omega | exact Nat.le_refl _⟩, ⟨pR HO719.out⟩, ⟨pR HO722.out⟩, ⟨pR HO726.out⟩, ⟨pR HO729.out⟩, ⟨pR HO736.out⟩, ⟨pR HO739.out⟩, ⟨pR HO743.out⟩, ⟨pR HO746.out⟩, ⟨pK BK723.out⟩, ⟨pK BK733.out⟩, ⟨pK BK740.out⟩, ⟨pK BK747.out⟩, ⟨by repeat (first | (with_reducible first | exact HB.out | apply below_alloc | apply pw_below_drewN | apply below_drew1 | refine below_set ?_ GE723.out | refine below_set ?_ GE733.out | refine below_set ?_ GE740.out | refine below_set ?_ GE747.out) | exact HB.out)⟩⟩
    case rest =>
     clear HC10
     try clear p2
     try clear c3
     try clear c4
     try clear c31
     try clear c35
     try clear c40
     obtain ⟨kq, x41_9, rfl, HA, HJ9, HO_724000, HO_724001, HO_734000, HO_734001, HO_741000, HO_741001, HO_748000, HO_748001, BK723, BK733, BK740, BK747, HB⟩ := hcut
     cases kq with
     | zero => exact absurd HA.out (by simp [laws_FnSecFlush.j1])
     | succ kj9 =>
      have H := HA.out
      clear HA
      simp only [laws_FnSecFlush.j1] at H
      by_cases c54 : x41_9 = true
      ·subst c54
       have H1 : (some false) = some r := by rw [if_pos rfl] at H; exact H
       clear H
       have H := H1
       clear H1
       obtain rfl := Option.some.inj H
       go_wp2
       go_ret
       exact ⟨by first | rfl | (simp [errW_none, errW_some] <;> rfl) | (simp [*, errW_none, errW_some] <;> rfl), by repeat (first | (with_reducible first | exact HB.out | apply below_alloc | apply pw_below_drewN | apply below_drew1 | refine below_set ?_ GE723.out | refine below_set ?_ GE733.out | refine below_set ?_ GE740.out | refine below_set ?_ GE747.out) | exact HB.out)⟩
      ·replace c54 := Bool.eq_false_iff.mpr c54
       subst c54
       have H1 : (laws_FnSecFlush.l0 kj9 0 t717 t720 t741 t744) = some r := by rw [if_neg (show ¬ (false = true) by decide)] at H; exact H
       clear H
       have H := H1
       clear H1
       have H' := Aside0.mk H
       clear H
       go_wp2
       go_loopg [10] kj9 (fun kq v10 w' => ∃ (x10_3 : Int), v10 = .int .i64 x10_3 ∧ Aside0 (laws_FnSecFlush.l0 kq x10_3 t717 t720 t741 t744 = some r) ∧ Aside0 (kq ≤ kj9) ∧ Aside0 (Kd.R Kd.string 9 w' w.heap.size (fun k_ => some k_ ≠ ((.slice Ao18 t724.length co18) : Value).ownBlock ∧ some k_ ≠ ((.slice Ao25 t734.length co25) : Value).ownBlock ∧ some k_ ≠ ((.slice Ao33 t741.length co33) : Value).ownBlock) (.slice Ao13 t717.length co13) t717) ∧ Aside0 (Kd.R k54 54 w' w.heap.size (fun k_ => some k_ ≠ ((.slice Ao21 t727.length co21) : Value).ownBlock ∧ some k_ ≠ ((.slice Ao29 t737.length co29) : Value).ownBlock ∧ some k_ ≠ ((.slice Ao38 t744.length co38) : Value).ownBlock) (.slice Ao15 t720.length co15) t720) ∧ Aside0 (Kd.R Kd.string 9 w' w.heap.size (fun k_ => some k_ ≠ ((.slice Ao13 t717.length co13) : Value).ownBlock ∧ some k_ ≠ ((.slice Ao25 t734.length co25) : Value).ownBlock ∧ some k_ ≠ ((.slice Ao33 t741.length co33) : Value).ownBlock) (.slice Ao18 t724.length co18) t724) ∧ Aside0 (Kd.R k54 54 w' w.heap.size (fun k_ => some k_ ≠ ((.slice Ao15 t720.length co15) : Value).ownBlock ∧ some k_ ≠ ((.slice Ao29 t737.length co29) : Value).ownBlock ∧ some k_ ≠ ((.slice Ao38 t744.length co38) : Value).ownBlock) (.slice Ao21 t727.length co21) t727) ∧ Aside0 (Kd.R Kd.string 9 w' w.heap.size (fun k_ => some k_ ≠ ((.slice Ao13 t717.length co13) : Value).ownBlock ∧ some k_ ≠ ((.slice Ao18 t724.length co18) : Value).ownBlock ∧ some k_ ≠ ((.slice Ao33 t741.length co33) : Value).ownBlock) (.slice Ao25 t734.length co25) t734) ∧ Aside0 (Kd.R k54 54 w' w.heap.size (fun k_ => some k_ ≠ ((.slice Ao15 t720.length co15) : Value).ownBlock ∧ some k_ ≠ ((.slice Ao21 t727.length co21) : Value).ownBlock ∧ some k_ ≠ ((.slice Ao38 t744.length co38) : Value).ownBlock) (.slice Ao29 t737.length co29) t737) ∧ Aside0 (Kd.R Kd.string 9 w' w.heap.size (fun k_ => some k_ ≠ ((.slice Ao13 t717.length co13) : Value).ownBlock ∧ some k_ ≠ ((.slice Ao18 t724.length co18) : Value).ownBlock ∧ some k_ ≠ ((.slice Ao25 t734.length co25) : Value).ownBlock) (.slice Ao33 t741.length co33) t741) ∧ Aside0 (Kd.R k54 54 w' w.heap.size (fun k_ => some k_ ≠ ((.slice Ao15 t720.length co15) : Value).ownBlock ∧ some k_ ≠ ((.slice Ao21 t727.length co21) : Value).ownBlock ∧ some k_ ≠ ((.slice Ao29 t737.length co29) : Value).ownBlock) (.slice Ao38 t744.length co38) t744) ∧ Aside0 (w'.heap[gb723]? = some (.cells #[(.slice Ao13 t717.length co13), (.slice Ao15 t720.length co15)] 26 (0, 0))) ∧ Aside0 (w'.heap[gb733]? = some (.cells #[(.slice Ao18 t724.length co18), (.slice Ao21 t727.length co21)] 26 (0, 0))) ∧ Aside0 (w'.heap[gb740]? = some (.cells #[(.slice Ao25 t734.length co25), (.slice Ao29 t737.length co29)] 26 (0, 0))) ∧ Aside0 (w'.heap[gb747]? = some (.cells #[(.slice Ao33 t741.length co33), (.slice Ao38 t744.length co38)] 26 (0, 0))) ∧ Aside0 (Below w.heap.size w w'))
       case atStart => exact ⟨(0), (by first | rfl | (simp; done) | (simp [*]; done)), H', ⟨Nat.le_refl _⟩, ⟨pR HO_724000.out⟩, ⟨pR HO_724001.out⟩, ⟨pR HO_734000.out⟩, ⟨pR HO_734001.out⟩, ⟨pR HO_741000.out⟩, ⟨pR HO_741001.out⟩, ⟨pR HO_748000.out⟩, ⟨pR HO_748001.out⟩, ⟨pK BK723.out⟩, ⟨pK BK733.out⟩, ⟨pK BK740.out⟩, ⟨pK BK747.out⟩, ⟨by repeat (first | (with_reducible first | exact HB.out | apply below_alloc | apply pw_below_drewN | apply below_drew1 | refine below_set ?_ GE723.out | refine below_set ?_ GE733.out | refine below_set ?_ GE740.out | refine below_set ?_ GE747.out) | exact HB.out)⟩⟩
       case round =>
        clear H'
        try clear p2
        try clear c3
        try clear c4
        try clear c5
        try clear c31
        try clear c35
        try clear c40
        try clear c54
        try clear p2
        obtain ⟨x10_3, rfl, HA, HK3, HO_724000, HO_724001, HO_734000, HO_734001, HO_741000, HO_741001, HO_748000, HO_748001, BK723, BK733, BK740, BK747, HB⟩ := hrel
        cases gk with
        | zero => exact absurd HA.out (by simp [laws_FnSecFlush.l0])
        | succ k3 =>
         have H := HA.out
         clear HA
         simp only [laws_FnSecFlush.l0] at H
         have HC55 := Aside0.mk H
         clear H
         go_upto_region 10 with (fail)
         go_cut [50] (fun v50 wc => ∃ (kq : Nat) (x50_54 : Bool), v50 = .bool x50_54 ∧ Aside0 (laws_FnSecFlush.j3 kq x10_3 x50_54 t717 t720 t741 t744 = some r) ∧ Aside0 (kq ≤ k3) ∧ Aside0 (Kd.R Kd.string 9 wc w.heap.size (fun k_ => some k_ ≠ ((.slice Ao18 t724.length co18) : Value).ownBlock ∧ some k_ ≠ ((.slice Ao25 t734.length co25) : Value).ownBlock ∧ some k_ ≠ ((.slice Ao33 t741.length co33) : Value).ownBlock) (.slice Ao13 t717.length co13) t717) ∧ Aside0 (Kd.R k54 54 wc w.heap.size (fun k_ => some k_ ≠ ((.slice Ao21 t727.length co21) : Value).ownBlock ∧ some k_ ≠ ((.slice Ao29 t737.length co29) : Value).ownBlock ∧ some k_ ≠ ((.slice Ao38 t744.length co38) : Value).ownBlock) (.slice Ao15 t720.length co15) t720) ∧ Aside0 (Kd.R Kd.string 9 wc w.heap.size (fun k_ => some k_ ≠ ((.slice Ao13 t717.length co13) : Value).ownBlock ∧ some k_ ≠ ((.slice Ao25 t734.length co25) : Value).ownBlock ∧ some k_ ≠ ((.slice Ao33 t741.length co33) : Value).ownBlock) (.slice Ao18 t724.length co18) t724) ∧ Aside0 (Kd.R k54 54 wc w.heap.size (fun k_ => some k_ ≠ ((.slice Ao15 t720.length co15) : Value).ownBlock ∧ some k_ ≠ ((.slice Ao29 t737.length co29) : Value).ownBlock ∧ some k_ ≠ ((.slice Ao38 t744.length co38) : Value).ownBlock) (.slice Ao21 t727.length co21) t727) ∧ Aside0 (Kd.R Kd.string 9 wc w.heap.size (fun k_ => some k_ ≠ ((.slice Ao13 t717.length co13) : Value).ownBlock ∧ some k_ ≠ ((.slice Ao18 t724.length co18) : Value).ownBlock ∧ some k_ ≠ ((.slice Ao33 t741.length co33) : Value).ownBlock) (.slice Ao25 t734.length co25) t734) ∧ Aside0 (Kd.R k54 54 wc w.heap.size (fun k_ => some k_ ≠ ((.slice Ao15 t720.length co15) : Value).ownBlock ∧ some k_ ≠ ((.slice Ao21 t727.length co21) : Value).ownBlock ∧ some k_ ≠ ((.slice Ao38 t744.length co38) : Value).ownBlock) (.slice Ao29 t737.length co29) t737) ∧ Aside0 (Kd.R Kd.string 9 wc w.heap.size (fun k_ => some k_ ≠ ((.slice Ao13 t717.length co13) : Value).ownBlock ∧ some k_ ≠ ((.slice Ao18 t724.length co18) : Value).ownBlock ∧ some k_ ≠ ((.slice Ao25 t734.length co25) : Value).ownBlock) (.slice Ao33 t741.length co33) t741) ∧ Aside0 (Kd.R k54 54 wc w.heap.size (fun k_ => some k_ ≠ ((.slice Ao15 t720.length co15) : Value).ownBlock ∧ some k_ ≠ ((.slice Ao21 t727.length co21) : Value).ownBlock ∧ some k_ ≠ ((.slice Ao29 t737.length co29) : Value).ownBlock) (.slice Ao38 t744.length co38) t744) ∧ Aside0 (wc.heap[gb723]? = some (.cells #[(.slice Ao13 t717.length co13), (.slice Ao15 t720.length co15)] 26 (0, 0))) ∧ Aside0 (wc.heap[gb733]? = some (.cells #[(.slice Ao18 t724.length co18), (.slice Ao21 t727.length co21)] 26 (0, 0))) ∧ Aside0 (wc.heap[gb740]? = some (.cells #[(.slice Ao25 t734.length co25), (.slice Ao29 t737.length co29)] 26 (0, 0))) ∧ Aside0 (wc.heap[gb747]? = some (.cells #[(.slice Ao33 t741.length co33), (.slice Ao38 t744.length co38)] 26 (0, 0))) ∧ Aside0 (Below w.heap.size w wc))
         case first =>
          have H := HC55.out
          clear HC55
          by_cases c56 : x10_3 < (t717.length : Int)
          ·rw [if_pos c56] at H
           have c56b0 : decide (x10_3 < (t717.length : Int)) = true := decide_eq_true c56
           clear c56
           (first | rw [c56b0] | (simp only [i64_w, i32_w]; rw [c56b0]) | skip)
           replace H := Option.bind_eq_some_iff.mp H
           obtain ⟨t756, A570, H⟩ := H
           replace H : (laws_FnSecFlush.j3 k3 x10_3 t756 t717 t720 t741 t744) = some r := H
           have A57 := Aside0.mk A570
           clear A570
           have H' := Aside0.mk H
           clear H
           have hnb58 := NB723_733.out
           have hnc58 := NB733_723.out
           have hnb59 := NB723_740.out
           have hnc59 := NB740_723.out
           have hnb60 := NB723_747.out
           have hnc60 := NB747_723.out
           have hcz61_0 : wr.cell? ⟨gb723, 0, none⟩ = some (.slice Ao13 t717.length co13) := (blk_cell BK723.out 0).trans rfl
           have hcz61_1 : wr.cell? ⟨gb723, 1, none⟩ = some (.slice Ao15 t720.length co15) := (blk_cell BK723.out 1).trans rfl
           have hfz61_0 := blk_frozen BK723.out 0
           have hfz61_1 := blk_frozen BK723.out 1
           go_wp2_with (first | (go_at_call 23; (with_reducible refine (spec_SecOk.calls k3 _ _ t717 _ _ t720 t756 _ ?side1 ?side2 ?side3 ?side4 A57.out).mono ?_); (case side1 => exact pC (Kd.R_reads' HO_724000.out).2.2); (case side2 => exact (Kd.R_reads' HO_724000.out).2.1); (case side3 => exact pC (Kd.R_reads' HO_724001.out).2.2); (case side4 => exact (Kd.R_reads' HO_724001.out).2.1); rintro e w62 ⟨rfl, hb⟩; have n0_ := Aside0.mk (Kd.R_below (pR HO_724000.out) hb); have n1_ := Aside0.mk (Kd.R_below (pR HO_724001.out) hb); have n2_ := Aside0.mk (Kd.R_below (pR HO_734000.out) hb); have n3_ := Aside0.mk (Kd.R_below (pR HO_734001.out) hb); have n4_ := Aside0.mk (Kd.R_below (pR HO_741000.out) hb); have n5_ := Aside0.mk (Kd.R_below (pR HO_741001.out) hb); have n6_ := Aside0.mk (Kd.R_below (pR HO_748000.out) hb); have n7_ := Aside0.mk (Kd.R_below (pR HO_748001.out) hb); have n8_ := Aside0.mk (blk_below (g := gb723) (o := .cells #[.slice Ao13 t717.length co13, .slice Ao15 t720.length co15] 26 (0, 0)) (pK BK723.out) hb); have n9_ := Aside0.mk (blk_below (g := gb733) (o := .cells #[.slice Ao18 t724.length co18, .slice Ao21 t727.length co21] 26 (0, 0)) (pK BK733.out) hb); have n10_ := Aside0.mk (blk_below (g := gb740) (o := .cells #[.slice Ao25 t734.length co25, .slice Ao29 t737.length co29] 26 (0, 0)) (pK BK740.out) hb); have n11_ := Aside0.mk (blk_below (g := gb747) (o := .cells #[.slice Ao33 t741.length co33, .slice Ao38 t744.length co38] 26 (0, 0)) (pK BK747.out) hb); have n12_ := Aside0.mk (below_step (by repeat (first | (with_reducible first | exact HB.out | apply below_alloc | apply pw_below_drewN | apply below_drew1 | refine below_set ?_ GE723.out | refine below_set ?_ GE733.out | refine below_set ?_ GE740.out | refine below_set ?_ GE747.out) | exact HB.out)) hb); clear HO_724000; clear HO_724001; clear HO_734000; clear HO_734001; clear HO_741000; clear HO_741001; clear HO_748000; clear HO_748001; clear BK723; clear BK733; clear BK740; clear BK747; clear HB; have HO_724000 := n0_; have HO_724001 := n1_; have HO_734000 := n2_; have HO_734001 := n3_; have HO_741000 := n4_; have HO_741001 := n5_; have HO_748000 := n6_; have HO_748001 := n7_; have BK723 := n8_; have BK733 := n9_; have BK740 := n10_; have BK747 := n11_; have HB := n12_; clear n0_ n1_ n2_ n3_ n4_ n5_ n6_ n7_ n8_ n9_ n10_ n11_ n12_; (try clear hb); (try clear hb2); (try clear hk); (try clear hi)))
           go_meet
           case rel => exact ⟨_, (t756), (by first | rfl | (simp; done) | (simp [*]; done)), H', ⟨by have := HJ2.out; have := HJ9.out; have := HK3.out; first | omega | exact Nat.le_refl _⟩, ⟨pR HO_724000.out⟩, ⟨pR HO_724001.out⟩, ⟨pR HO_734000.out⟩, ⟨pR HO_734001.out⟩, ⟨pR HO_741000.out⟩, ⟨pR HO_741001.out⟩, ⟨pR HO_748000.out⟩, ⟨pR HO_748001.out⟩, ⟨pK BK723.out⟩, ⟨pK BK733.out⟩, ⟨pK BK740.out⟩, ⟨pK BK747.out⟩, ⟨by repeat (first | (with_reducible first | exact HB.out | apply below_alloc | apply pw_below_drewN | apply below_drew1 | refine below_set ?_ GE723.out | refine below_set ?_ GE733.out | refine below_set ?_ GE740.out | refine below_set ?_ GE747.out) | exact HB.out)⟩⟩
          ·rw [if_neg c56] at H
           have c56b0 : decide (x10_3 < (t717.length : Int)) = false := decide_eq_false c56
           clear c56
           (first | rw [c56b0] | (simp only [i64_w, i32_w]; rw [c56b0]) | skip)
           have H' := Aside0.mk H
           clear H
           have hnb63 := NB723_733.out
           have hnc63 := NB733_723.out
           have hnb64 := NB723_740.out
           have hnc64 := NB740_723.out
           have hnb65 := NB723_747.out
           have hnc65 := NB747_723.out
           have hcz66_0 : wr.cell? ⟨gb723, 0, none⟩ = some (.slice Ao13 t717.length co13) := (blk_cell BK723.out 0).trans rfl
           have hcz66_1 : wr.cell? ⟨gb723, 1, none⟩ = some (.slice Ao15 t720.length co15) := (blk_cell BK723.out 1).trans rfl
           have hfz66_0 := blk_frozen BK723.out 0
           have hfz66_1 := blk_frozen BK723.out 1
           go_wp2
           go_meet
           case rel => exact ⟨_, (false), (by first | rfl | (simp; done) | (simp [*]; done)), H', ⟨by have := HJ2.out; have := HJ9.out; have := HK3.out; first | omega | exact Nat.le_refl _⟩, ⟨pR HO_724000.out⟩, ⟨pR HO_724001.out⟩, ⟨pR HO_734000.out⟩, ⟨pR HO_734001.out⟩, ⟨pR HO_741000.out⟩, ⟨pR HO_741001.out⟩, ⟨pR HO_748000.out⟩, ⟨pR HO_748001.out⟩, ⟨pK BK723.out⟩, ⟨pK BK733.out⟩, ⟨pK BK740.out⟩, ⟨pK BK747.out⟩, ⟨by repeat (first | (with_reducible first | exact HB.out | apply below_alloc | apply pw_below_drewN | apply below_drew1 | refine below_set ?_ GE723.out | refine below_set ?_ GE733.out | refine below_set ?_ GE740.out | refine below_set ?_ GE747.out) | exact HB.out)⟩⟩
         case rest =>
          clear HC55
          try clear p2
          try clear c3
          try clear c4
          try clear c5
          try clear c6
          try clear c31
          try clear c35
          try clear c40
          try clear c54
          try clear c56
          try clear c56b0
          try clear c58
          try clear c59
          try clear c60
          try clear c63
          try clear c64
          try clear c65
          try clear hcz61_0
          try clear hcz61_1
          try clear hcz66_0
          try clear hcz66_1
          try clear hfz61_0
          try clear hfz61_1
          try clear hfz66_0
          try clear hfz66_1
          try clear p2
          obtain ⟨kq, x50_54, rfl, HA, HJ54, HO_724000, HO_724001, HO_734000, HO_734001, HO_741000, HO_741001, HO_748000, HO_748001, BK723, BK733, BK740, BK747, HB⟩ := hcut
          cases kq with
          | zero => exact absurd HA.out (by simp [laws_FnSecFlush.j3])
          | succ kj54 =>
           have H := HA.out
           clear HA
           simp only [laws_FnSecFlush.j3] at H
           by_cases c67 : x50_54 = true
           ·subst c67
            have H1 : ((impl_SecLook.f kj54 t741 t744 x10_3).bind fun t757 => ((impl_SecLook.f kj54 t717 t720 x10_3).bind fun t758 => (if t757.toList = t758.toList then (laws_FnSecFlush.l0 kj54 (wrap64 (x10_3 + 1)) t717 t720 t741 t744) else (some false)))) = some r := by rw [if_pos rfl] at H; exact H
            clear H
            have H := H1
            clear H1
            replace H := Option.bind_eq_some_iff.mp H
            obtain ⟨t757, A680, H⟩ := H
            replace H : ((impl_SecLook.f kj54 t717 t720 x10_3).bind fun t758 => (if t757.toList = t758.toList then (laws_FnSecFlush.l0 kj54 (wrap64 (x10_3 + 1)) t717 t720 t741 t744) else (some false))) = some r := H
            have A68 := Aside0.mk A680
            clear A680
            replace H := Option.bind_eq_some_iff.mp H
            obtain ⟨t758, A690, H⟩ := H
            replace H : (if t757.toList = t758.toList then (laws_FnSecFlush.l0 kj54 (wrap64 (x10_3 + 1)) t717 t720 t741 t744) else (some false)) = some r := H
            have A69 := Aside0.mk A690
            clear A690
            by_cases c70 : t757.toList = t758.toList
            ·rw [if_pos c70] at H
             have c70b0 : (t757.toList == t758.toList) = true := beq_iff_eq.mpr c70
             have c70b1 : (t757.toList != t758.toList) = false := bne_eq_false_iff_eq.mpr c70
             clear c70
             have H' := Aside0.mk H
             clear H
             try go_wp2
             have n0_ := Aside0.mk (Kd.R_drew HO_724000.out)
             have n1_ := Aside0.mk (Kd.R_drew HO_724001.out)
             have n2_ := Aside0.mk (Kd.R_drew HO_734000.out)
             have n3_ := Aside0.mk (Kd.R_drew HO_734001.out)
             have n4_ := Aside0.mk (Kd.R_drew HO_741000.out)
             have n5_ := Aside0.mk (Kd.R_drew HO_741001.out)
             have n6_ := Aside0.mk (Kd.R_drew HO_748000.out)
             have n7_ := Aside0.mk (Kd.R_drew HO_748001.out)
             have n8_ := Aside0.mk (blk_drew BK723.out)
             have n9_ := Aside0.mk (blk_drew BK733.out)
             have n10_ := Aside0.mk (blk_drew BK740.out)
             have n11_ := Aside0.mk (blk_drew BK747.out)
             have n12_ := Aside0.mk (below_drew1 HB.out)
             clear HO_724000
             clear HO_724001
             clear HO_734000
             clear HO_734001
             clear HO_741000
             clear HO_741001
             clear HO_748000
             clear HO_748001
             clear BK723
             clear BK733
             clear BK740
             clear BK747
             clear HB
             have HO_724000 := n0_
             have HO_724001 := n1_
             have HO_734000 := n2_
             have HO_734001 := n3_
             have HO_741000 := n4_
             have HO_741001 := n5_
             have HO_748000 := n6_
             have HO_748001 := n7_
             have BK723 := n8_
             have BK733 := n9_
             have BK740 := n10_
             have BK747 := n11_
             have HB := n12_
             clear n0_ n1_ n2_ n3_ n4_ n5_ n6_ n7_ n8_ n9_ n10_ n11_ n12_
             refine start_ (n := 7) (S := fun w' => w'.cell? ⟨gb747, 0, none⟩ = some (.slice Ao33 t741.length co33) ∧ w'.cell? ⟨gb747, 1, none⟩ = some (.slice Ao38 t744.length co38) ∧ w'.cell? ⟨gb723, 0, none⟩ = some (.slice Ao13 t717.length co13) ∧ w'.cell? ⟨gb723, 1, none⟩ = some (.slice Ao15 t720.length co15)) (ds := []) #[false, false, false, false, false, false, false] (by kernel_rfl) rfl rfl ⟨(blk_cell BK747.out 0).trans rfl, (blk_cell BK747.out 1).trans rfl, (blk_cell BK723.out 0).trans rfl, (blk_cell BK723.out 1).trans rfl⟩ (fun hHeld => ?_)
             generalize wc.drew = w71 at HO_724000 HO_724001 HO_734000 HO_734001 HO_741000 HO_741001 HO_748000 HO_748001 BK723 BK733 BK740 BK747 HB hHeld ⊢
             refine pure_ (i := 1) (N := some 54) (v := ?_) (a' := ?_) #[false, true, false, false, false, false, false] rfl rfl (by kernel_rfl) (fun _ _ _ h => h) (Or.inl ⟨by rfl, ?_⟩) ?_ ?_
             rotate_left
             ·intro w'
              go_simp
              with_reducible rfl
             rotate_left
             ·simp only [Act.put, List.setIfInBounds_toArray, List.set_cons_zero, List.set_cons_succ, i64_w, i32_w]
              rfl
             refine pure_ (i := 4) (N := some 57) (v := ?_) (a' := ?_) #[false, true, false, false, true, false, false] rfl rfl (by kernel_rfl) (fun _ _ _ h => h) (Or.inl ⟨by rfl, ?_⟩) ?_ ?_
             rotate_left
             ·intro w'
              go_simp
              with_reducible rfl
             rotate_left
             ·simp only [Act.put, List.setIfInBounds_toArray, List.set_cons_zero, List.set_cons_succ, i64_w, i32_w]
              rfl
             refine take_ (i := 0) (N := some 53) (v := ?_) (a' := ?_) #[true, true, false, false, true, false, false] rfl rfl (by kernel_rfl) (fun _ _ _ h => h) (Or.inl ⟨by rfl, ?_⟩) hHeld ?_ ?_
             rotate_left
             ·rintro w' ⟨s0, s1, s2, s3⟩
              go_simp
              with_reducible rfl
             rotate_left
             ·simp only [Act.put, List.setIfInBounds_toArray, List.set_cons_zero, List.set_cons_succ, i64_w, i32_w]
              rfl
             refine take_ (i := 3) (N := some 56) (v := ?_) (a' := ?_) #[true, true, false, true, true, false, false] rfl rfl (by kernel_rfl) (fun _ _ _ h => h) (Or.inl ⟨by rfl, ?_⟩) hHeld ?_ ?_
             rotate_left
             ·rintro w' ⟨s0, s1, s2, s3⟩
              go_simp
              with_reducible rfl
             rotate_left
             ·simp only [Act.put, List.setIfInBounds_toArray, List.set_cons_zero, List.set_cons_succ, i64_w, i32_w]
              rfl
             refine one_ (i := 2) (N := some 55) #[true, true, true, true, true, false, false] rfl rfl (by kernel_rfl) (by decide) (fun K hK => ?_)
             refine goes_ Try.func27 (by kernel_rfl) rfl #[.agg #[.slice Ao33 t741.length co33, .slice Ao38 t744.length co38], .int .i64 x10_3] (by rfl) rfl rfl bM ?_
             with_reducible refine (impl_SecLook.calls kj54 _ _ t741 _ _ t744 x10_3 t757 _ ?side1 ?side2 ?side3 ?side4 A68.out).mono ?_
             (case side1 => exact pC (Kd.R_reads' HO_748000.out).2.2)
             (case side2 => exact (Kd.R_reads' HO_748000.out).2.1)
             (case side3 => exact pC (Kd.R_reads' HO_748001.out).2.2)
             (case side4 => exact (Kd.R_reads' HO_748001.out).2.1)
             rintro e w72 ⟨rfl, hb⟩
             refine ⟨_, rfl, ?_⟩
             have n0_ := Aside0.mk (Kd.R_below (pR HO_724000.out) hb)
             have n1_ := Aside0.mk (Kd.R_below (pR HO_724001.out) hb)
             have n2_ := Aside0.mk (Kd.R_below (pR HO_734000.out) hb)
             have n3_ := Aside0.mk (Kd.R_below (pR HO_734001.out) hb)
             have n4_ := Aside0.mk (Kd.R_below (pR HO_741000.out) hb)
             have n5_ := Aside0.mk (Kd.R_below (pR HO_741001.out) hb)
             have n6_ := Aside0.mk (Kd.R_below (pR HO_748000.out) hb)
             have n7_ := Aside0.mk (Kd.R_below (pR HO_748001.out) hb)
             have n8_ := Aside0.mk (blk_below (g := gb723) (o := .cells #[.slice Ao13 t717.length co13, .slice Ao15 t720.length co15] 26 (0, 0)) (pK BK723.out) hb)
             have n9_ := Aside0.mk (blk_below (g := gb733) (o := .cells #[.slice Ao18 t724.length co18, .slice Ao21 t727.length co21] 26 (0, 0)) (pK BK733.out) hb)
             have n10_ := Aside0.mk (blk_below (g := gb740) (o := .cells #[.slice Ao25 t734.length co25, .slice Ao29 t737.length co29] 26 (0, 0)) (pK BK740.out) hb)
             have n11_ := Aside0.mk (blk_below (g := gb747) (o := .cells #[.slice Ao33 t741.length co33, .slice Ao38 t744.length co38] 26 (0, 0)) (pK BK747.out) hb)
             have n12_ := Aside0.mk (below_step (by repeat (first | (with_reducible first | exact HB.out | apply below_alloc | apply pw_below_drewN | apply below_drew1 | refine below_set ?_ GE723.out | refine below_set ?_ GE733.out | refine below_set ?_ GE740.out | refine below_set ?_ GE747.out) | exact HB.out)) hb)
             clear HO_724000
             clear HO_724001
             clear HO_734000
             clear HO_734001
             clear HO_741000
             clear HO_741001
             clear HO_748000
             clear HO_748001
             clear BK723
             clear BK733
             clear BK740
             clear BK747
             clear HB
             have HO_724000 := n0_
             have HO_724001 := n1_
             have HO_734000 := n2_
             have HO_734001 := n3_
             have HO_741000 := n4_
             have HO_741001 := n5_
             have HO_748000 := n6_
             have HO_748001 := n7_
             have BK723 := n8_
             have BK733 := n9_
             have BK740 := n10_
             have BK747 := n11_
             have HB := n12_
             clear n0_ n1_ n2_ n3_ n4_ n5_ n6_ n7_ n8_ n9_ n10_ n11_ n12_
             (try clear hb)
             (try clear hb2)
             (try clear hk)
             (try clear hi)
             refine hK.out _ _ ⟨(blk_cell BK747.out 0).trans rfl, (blk_cell BK747.out 1).trans rfl, (blk_cell BK723.out 0).trans rfl, (blk_cell BK723.out 1).trans rfl⟩ (fun hHeld => ?_)
             clear hK K
             refine norm_ (a' := ?_) ?_ ?_
             rotate_left
             ·show Act.put _ (some 55) _ = _
              simp only [Act.put, List.setIfInBounds_toArray, List.set_cons_zero, List.set_cons_succ, i64_w, i32_w]
              rfl
             refine one_ (i := 5) (N := some 58) #[true, true, true, true, true, true, false] rfl rfl (by kernel_rfl) (by decide) (fun K hK => ?_)
             refine goes_ Try.func27 (by kernel_rfl) rfl #[.agg #[.slice Ao13 t717.length co13, .slice Ao15 t720.length co15], .int .i64 x10_3] (by rfl) rfl rfl bM ?_
             with_reducible refine (impl_SecLook.calls kj54 _ _ t717 _ _ t720 x10_3 t758 _ ?side1 ?side2 ?side3 ?side4 A69.out).mono ?_
             (case side1 => exact pC (Kd.R_reads' HO_724000.out).2.2)
             (case side2 => exact (Kd.R_reads' HO_724000.out).2.1)
             (case side3 => exact pC (Kd.R_reads' HO_724001.out).2.2)
             (case side4 => exact (Kd.R_reads' HO_724001.out).2.1)
             rintro e w73 ⟨rfl, hb⟩
             refine ⟨_, rfl, ?_⟩
             have n0_ := Aside0.mk (Kd.R_below (pR HO_724000.out) hb)
             have n1_ := Aside0.mk (Kd.R_below (pR HO_724001.out) hb)
             have n2_ := Aside0.mk (Kd.R_below (pR HO_734000.out) hb)
             have n3_ := Aside0.mk (Kd.R_below (pR HO_734001.out) hb)
             have n4_ := Aside0.mk (Kd.R_below (pR HO_741000.out) hb)
             have n5_ := Aside0.mk (Kd.R_below (pR HO_741001.out) hb)
             have n6_ := Aside0.mk (Kd.R_below (pR HO_748000.out) hb)
             have n7_ := Aside0.mk (Kd.R_below (pR HO_748001.out) hb)
             have n8_ := Aside0.mk (blk_below (g := gb723) (o := .cells #[.slice Ao13 t717.length co13, .slice Ao15 t720.length co15] 26 (0, 0)) (pK BK723.out) hb)
             have n9_ := Aside0.mk (blk_below (g := gb733) (o := .cells #[.slice Ao18 t724.length co18, .slice Ao21 t727.length co21] 26 (0, 0)) (pK BK733.out) hb)
             have n10_ := Aside0.mk (blk_below (g := gb740) (o := .cells #[.slice Ao25 t734.length co25, .slice Ao29 t737.length co29] 26 (0, 0)) (pK BK740.out) hb)
             have n11_ := Aside0.mk (blk_below (g := gb747) (o := .cells #[.slice Ao33 t741.length co33, .slice Ao38 t744.length co38] 26 (0, 0)) (pK BK747.out) hb)
             have n12_ := Aside0.mk (below_step (by repeat (first | (with_reducible first | exact HB.out | apply below_alloc | apply pw_below_drewN | apply below_drew1 | refine below_set ?_ GE723.out | refine below_set ?_ GE733.out | refine below_set ?_ GE740.out | refine below_set ?_ GE747.out) | exact HB.out)) hb)
             clear HO_724000
             clear HO_724001
             clear HO_734000
             clear HO_734001
             clear HO_741000
             clear HO_741001
             clear HO_748000
             clear HO_748001
             clear BK723
             clear BK733
             clear BK740
             clear BK747
             clear HB
             have HO_724000 := n0_
             have HO_724001 := n1_
             have HO_734000 := n2_
             have HO_734001 := n3_
             have HO_741000 := n4_
             have HO_741001 := n5_
             have HO_748000 := n6_
             have HO_748001 := n7_
             have BK723 := n8_
             have BK733 := n9_
             have BK740 := n10_
             have BK747 := n11_
             have HB := n12_
             clear n0_ n1_ n2_ n3_ n4_ n5_ n6_ n7_ n8_ n9_ n10_ n11_ n12_
             (try clear hb)
             (try clear hb2)
             (try clear hk)
             (try clear hi)
             refine hK.out _ _ ⟨(blk_cell BK747.out 0).trans rfl, (blk_cell BK747.out 1).trans rfl, (blk_cell BK723.out 0).trans rfl, (blk_cell BK723.out 1).trans rfl⟩ (fun hHeld => ?_)
             clear hK K
             refine norm_ (a' := ?_) ?_ ?_
             rotate_left
             ·show Act.put _ (some 58) _ = _
              simp only [Act.put, List.setIfInBounds_toArray, List.set_cons_zero, List.set_cons_succ, i64_w, i32_w]
              rfl
             refine pure_ (i := 6) (N := some 59) (v := ?_) (a' := ?_) #[true, true, true, true, true, true, true] rfl rfl (by kernel_rfl) (fun _ _ _ h => h) (Or.inl ⟨by rfl, ?_⟩) ?_ ?_
             rotate_left
             ·intro w'
              go_simp
              with_reducible rfl
             rotate_left
             ·simp only [Act.put, List.setIfInBounds_toArray, List.set_cons_zero, List.set_cons_succ, i64_w, i32_w]
              rfl
             refine done_ (by kernel_rfl) ?_
             try go_wp2
             go_roundg kj54
             case measure => have := HJ2.out; have := HJ9.out; have := HK3.out; have := HJ54.out; omega
             case rel => exact ⟨(wrap64 (x10_3 + 1)), (by first | rfl | (simp; done) | (simp [*]; done)), H', ⟨by have := HJ2.out; have := HJ9.out; have := HK3.out; have := HJ54.out; omega⟩, ⟨pR HO_724000.out⟩, ⟨pR HO_724001.out⟩, ⟨pR HO_734000.out⟩, ⟨pR HO_734001.out⟩, ⟨pR HO_741000.out⟩, ⟨pR HO_741001.out⟩, ⟨pR HO_748000.out⟩, ⟨pR HO_748001.out⟩, ⟨pK BK723.out⟩, ⟨pK BK733.out⟩, ⟨pK BK740.out⟩, ⟨pK BK747.out⟩, ⟨by repeat (first | (with_reducible first | exact HB.out | apply below_alloc | apply pw_below_drewN | apply below_drew1 | refine below_set ?_ GE723.out | refine below_set ?_ GE733.out | refine below_set ?_ GE740.out | refine below_set ?_ GE747.out) | exact HB.out)⟩⟩
            ·rw [if_neg c70] at H
             have c70b0 : (t757.toList == t758.toList) = false := beq_eq_false_iff_ne.mpr c70
             have c70b1 : (t757.toList != t758.toList) = true := bne_iff_ne.mpr c70
             obtain rfl := Option.some.inj H
             try go_wp2
             have n0_ := Aside0.mk (Kd.R_drew HO_724000.out)
             have n1_ := Aside0.mk (Kd.R_drew HO_724001.out)
             have n2_ := Aside0.mk (Kd.R_drew HO_734000.out)
             have n3_ := Aside0.mk (Kd.R_drew HO_734001.out)
             have n4_ := Aside0.mk (Kd.R_drew HO_741000.out)
             have n5_ := Aside0.mk (Kd.R_drew HO_741001.out)
             have n6_ := Aside0.mk (Kd.R_drew HO_748000.out)
             have n7_ := Aside0.mk (Kd.R_drew HO_748001.out)
             have n8_ := Aside0.mk (blk_drew BK723.out)
             have n9_ := Aside0.mk (blk_drew BK733.out)
             have n10_ := Aside0.mk (blk_drew BK740.out)
             have n11_ := Aside0.mk (blk_drew BK747.out)
             have n12_ := Aside0.mk (below_drew1 HB.out)
             clear HO_724000
             clear HO_724001
             clear HO_734000
             clear HO_734001
             clear HO_741000
             clear HO_741001
             clear HO_748000
             clear HO_748001
             clear BK723
             clear BK733
             clear BK740
             clear BK747
             clear HB
             have HO_724000 := n0_
             have HO_724001 := n1_
             have HO_734000 := n2_
             have HO_734001 := n3_
             have HO_741000 := n4_
             have HO_741001 := n5_
             have HO_748000 := n6_
             have HO_748001 := n7_
             have BK723 := n8_
             have BK733 := n9_
             have BK740 := n10_
             have BK747 := n11_
             have HB := n12_
             clear n0_ n1_ n2_ n3_ n4_ n5_ n6_ n7_ n8_ n9_ n10_ n11_ n12_
             refine start_ (n := 7) (S := fun w' => w'.cell? ⟨gb747, 0, none⟩ = some (.slice Ao33 t741.length co33) ∧ w'.cell? ⟨gb747, 1, none⟩ = some (.slice Ao38 t744.length co38) ∧ w'.cell? ⟨gb723, 0, none⟩ = some (.slice Ao13 t717.length co13) ∧ w'.cell? ⟨gb723, 1, none⟩ = some (.slice Ao15 t720.length co15)) (ds := []) #[false, false, false, false, false, false, false] (by kernel_rfl) rfl rfl ⟨(blk_cell BK747.out 0).trans rfl, (blk_cell BK747.out 1).trans rfl, (blk_cell BK723.out 0).trans rfl, (blk_cell BK723.out 1).trans rfl⟩ (fun hHeld => ?_)
             generalize wc.drew = w74 at HO_724000 HO_724001 HO_734000 HO_734001 HO_741000 HO_741001 HO_748000 HO_748001 BK723 BK733 BK740 BK747 HB hHeld ⊢
             refine pure_ (i := 1) (N := some 54) (v := ?_) (a' := ?_) #[false, true, false, false, false, false, false] rfl rfl (by kernel_rfl) (fun _ _ _ h => h) (Or.inl ⟨by rfl, ?_⟩) ?_ ?_
             rotate_left
             ·intro w'
              go_simp
              with_reducible rfl
             rotate_left
             ·simp only [Act.put, List.setIfInBounds_toArray, List.set_cons_zero, List.set_cons_succ, i64_w, i32_w]
              rfl
             refine pure_ (i := 4) (N := some 57) (v := ?_) (a' := ?_) #[false, true, false, false, true, false, false] rfl rfl (by kernel_rfl) (fun _ _ _ h => h) (Or.inl ⟨by rfl, ?_⟩) ?_ ?_
             rotate_left
             ·intro w'
              go_simp
              with_reducible rfl
             rotate_left
             ·simp only [Act.put, List.setIfInBounds_toArray, List.set_cons_zero, List.set_cons_succ, i64_w, i32_w]
              rfl
             refine take_ (i := 0) (N := some 53) (v := ?_) (a' := ?_) #[true, true, false, false, true, false, false] rfl rfl (by kernel_rfl) (fun _ _ _ h => h) (Or.inl ⟨by rfl, ?_⟩) hHeld ?_ ?_
             rotate_left
             ·rintro w' ⟨s0, s1, s2, s3⟩
              go_simp
              with_reducible rfl
             rotate_left
             ·simp only [Act.put, List.setIfInBounds_toArray, List.set_cons_zero, List.set_cons_succ, i64_w, i32_w]
              rfl
             refine take_ (i := 3) (N := some 56) (v := ?_) (a' := ?_) #[true, true, false, true, true, false, false] rfl rfl (by kernel_rfl) (fun _ _ _ h => h) (Or.inl ⟨by rfl, ?_⟩) hHeld ?_ ?_
             rotate_left
             ·rintro w' ⟨s0, s1, s2, s3⟩
              go_simp
              with_reducible rfl
             rotate_left
             ·simp only [Act.put, List.setIfInBounds_toArray, List.set_cons_zero, List.set_cons_succ, i64_w, i32_w]
              rfl
             refine one_ (i := 2) (N := some 55) #[true, true, true, true, true, false, false] rfl rfl (by kernel_rfl) (by decide) (fun K hK => ?_)
             refine goes_ Try.func27 (by kernel_rfl) rfl #[.agg #[.slice Ao33 t741.length co33, .slice Ao38 t744.length co38], .int .i64 x10_3] (by rfl) rfl rfl bM ?_
             with_reducible refine (impl_SecLook.calls kj54 _ _ t741 _ _ t744 x10_3 t757 _ ?side1 ?side2 ?side3 ?side4 A68.out).mono ?_
             (case side1 => exact pC (Kd.R_reads' HO_748000.out).2.2)
             (case side2 => exact (Kd.R_reads' HO_748000.out).2.1)
             (case side3 => exact pC (Kd.R_reads' HO_748001.out).2.2)
             (case side4 => exact (Kd.R_reads' HO_748001.out).2.1)
             rintro e w75 ⟨rfl, hb⟩
             refine ⟨_, rfl, ?_⟩
             have n0_ := Aside0.mk (Kd.R_below (pR HO_724000.out) hb)
             have n1_ := Aside0.mk (Kd.R_below (pR HO_724001.out) hb)
             have n2_ := Aside0.mk (Kd.R_below (pR HO_734000.out) hb)
             have n3_ := Aside0.mk (Kd.R_below (pR HO_734001.out) hb)
             have n4_ := Aside0.mk (Kd.R_below (pR HO_741000.out) hb)
             have n5_ := Aside0.mk (Kd.R_below (pR HO_741001.out) hb)
             have n6_ := Aside0.mk (Kd.R_below (pR HO_748000.out) hb)
             have n7_ := Aside0.mk (Kd.R_below (pR HO_748001.out) hb)
             have n8_ := Aside0.mk (blk_below (g := gb723) (o := .cells #[.slice Ao13 t717.length co13, .slice Ao15 t720.length co15] 26 (0, 0)) (pK BK723.out) hb)
             have n9_ := Aside0.mk (blk_below (g := gb733) (o := .cells #[.slice Ao18 t724.length co18, .slice Ao21 t727.length co21] 26 (0, 0)) (pK BK733.out) hb)
             have n10_ := Aside0.mk (blk_below (g := gb740) (o := .cells #[.slice Ao25 t734.length co25, .slice Ao29 t737.length co29] 26 (0, 0)) (pK BK740.out) hb)
             have n11_ := Aside0.mk (blk_below (g := gb747) (o := .cells #[.slice Ao33 t741.length co33, .slice Ao38 t744.length co38] 26 (0, 0)) (pK BK747.out) hb)
             have n12_ := Aside0.mk (below_step (by repeat (first | (with_reducible first | exact HB.out | apply below_alloc | apply pw_below_drewN | apply below_drew1 | refine below_set ?_ GE723.out | refine below_set ?_ GE733.out | refine below_set ?_ GE740.out | refine below_set ?_ GE747.out) | exact HB.out)) hb)
             clear HO_724000
             clear HO_724001
             clear HO_734000
             clear HO_734001
             clear HO_741000
             clear HO_741001
             clear HO_748000
             clear HO_748001
             clear BK723
             clear BK733
             clear BK740
             clear BK747
             clear HB
             have HO_724000 := n0_
             have HO_724001 := n1_
             have HO_734000 := n2_
             have HO_734001 := n3_
             have HO_741000 := n4_
             have HO_741001 := n5_
             have HO_748000 := n6_
             have HO_748001 := n7_
             have BK723 := n8_
             have BK733 := n9_
             have BK740 := n10_
             have BK747 := n11_
             have HB := n12_
             clear n0_ n1_ n2_ n3_ n4_ n5_ n6_ n7_ n8_ n9_ n10_ n11_ n12_
             (try clear hb)
             (try clear hb2)
             (try clear hk)
             (try clear hi)
             refine hK.out _ _ ⟨(blk_cell BK747.out 0).trans rfl, (blk_cell BK747.out 1).trans rfl, (blk_cell BK723.out 0).trans rfl, (blk_cell BK723.out 1).trans rfl⟩ (fun hHeld => ?_)
             clear hK K
             refine norm_ (a' := ?_) ?_ ?_
             rotate_left
             ·show Act.put _ (some 55) _ = _
              simp only [Act.put, List.setIfInBounds_toArray, List.set_cons_zero, List.set_cons_succ, i64_w, i32_w]
              rfl
             refine one_ (i := 5) (N := some 58) #[true, true, true, true, true, true, false] rfl rfl (by kernel_rfl) (by decide) (fun K hK => ?_)
             refine goes_ Try.func27 (by kernel_rfl) rfl #[.agg #[.slice Ao13 t717.length co13, .slice Ao15 t720.length co15], .int .i64 x10_3] (by rfl) rfl rfl bM ?_
             with_reducible refine (impl_SecLook.calls kj54 _ _ t717 _ _ t720 x10_3 t758 _ ?side1 ?side2 ?side3 ?side4 A69.out).mono ?_
             (case side1 => exact pC (Kd.R_reads' HO_724000.out).2.2)
             (case side2 => exact (Kd.R_reads' HO_724000.out).2.1)
             (case side3 => exact pC (Kd.R_reads' HO_724001.out).2.2)
             (case side4 => exact (Kd.R_reads' HO_724001.out).2.1)
             rintro e w76 ⟨rfl, hb⟩
             refine ⟨_, rfl, ?_⟩
             have n0_ := Aside0.mk (Kd.R_below (pR HO_724000.out) hb)
             have n1_ := Aside0.mk (Kd.R_below (pR HO_724001.out) hb)
             have n2_ := Aside0.mk (Kd.R_below (pR HO_734000.out) hb)
             have n3_ := Aside0.mk (Kd.R_below (pR HO_734001.out) hb)
             have n4_ := Aside0.mk (Kd.R_below (pR HO_741000.out) hb)
             have n5_ := Aside0.mk (Kd.R_below (pR HO_741001.out) hb)
             have n6_ := Aside0.mk (Kd.R_below (pR HO_748000.out) hb)
             have n7_ := Aside0.mk (Kd.R_below (pR HO_748001.out) hb)
             have n8_ := Aside0.mk (blk_below (g := gb723) (o := .cells #[.slice Ao13 t717.length co13, .slice Ao15 t720.length co15] 26 (0, 0)) (pK BK723.out) hb)
             have n9_ := Aside0.mk (blk_below (g := gb733) (o := .cells #[.slice Ao18 t724.length co18, .slice Ao21 t727.length co21] 26 (0, 0)) (pK BK733.out) hb)
             have n10_ := Aside0.mk (blk_below (g := gb740) (o := .cells #[.slice Ao25 t734.length co25, .slice Ao29 t737.length co29] 26 (0, 0)) (pK BK740.out) hb)
             have n11_ := Aside0.mk (blk_below (g := gb747) (o := .cells #[.slice Ao33 t741.length co33, .slice Ao38 t744.length co38] 26 (0, 0)) (pK BK747.out) hb)
             have n12_ := Aside0.mk (below_step (by repeat (first | (with_reducible first | exact HB.out | apply below_alloc | apply pw_below_drewN | apply below_drew1 | refine below_set ?_ GE723.out | refine below_set ?_ GE733.out | refine below_set ?_ GE740.out | refine below_set ?_ GE747.out) | exact HB.out)) hb)
             clear HO_724000
             clear HO_724001
             clear HO_734000
             clear HO_734001
             clear HO_741000
             clear HO_741001
             clear HO_748000
             clear HO_748001
             clear BK723
             clear BK733
             clear BK740
             clear BK747
             clear HB
             have HO_724000 := n0_
             have HO_724001 := n1_
             have HO_734000 := n2_
             have HO_734001 := n3_
             have HO_741000 := n4_
             have HO_741001 := n5_
             have HO_748000 := n6_
             have HO_748001 := n7_
             have BK723 := n8_
             have BK733 := n9_
             have BK740 := n10_
             have BK747 := n11_
             have HB := n12_
             clear n0_ n1_ n2_ n3_ n4_ n5_ n6_ n7_ n8_ n9_ n10_ n11_ n12_
             (try clear hb)
             (try clear hb2)
             (try clear hk)
             (try clear hi)
             refine hK.out _ _ ⟨(blk_cell BK747.out 0).trans rfl, (blk_cell BK747.out 1).trans rfl, (blk_cell BK723.out 0).trans rfl, (blk_cell BK723.out 1).trans rfl⟩ (fun hHeld => ?_)
             clear hK K
             refine norm_ (a' := ?_) ?_ ?_
             rotate_left
             ·show Act.put _ (some 58) _ = _
              simp only [Act.put, List.setIfInBounds_toArray, List.set_cons_zero, List.set_cons_succ, i64_w, i32_w]
              rfl
             refine pure_ (i := 6) (N := some 59) (v := ?_) (a' := ?_) #[true, true, true, true, true, true, true] rfl rfl (by kernel_rfl) (fun _ _ _ h => h) (Or.inl ⟨by rfl, ?_⟩) ?_ ?_
             rotate_left
             ·intro w'
              go_simp
              with_reducible rfl
             rotate_left
             ·simp only [Act.put, List.setIfInBounds_toArray, List.set_cons_zero, List.set_cons_succ, i64_w, i32_w]
              rfl
             refine done_ (by kernel_rfl) ?_
             try go_wp2
             go_ret
             exact ⟨by first | rfl | (simp [errW_none, errW_some] <;> rfl) | (simp [*, errW_none, errW_some] <;> rfl), by repeat (first | (with_reducible first | exact HB.out | apply below_alloc | apply pw_below_drewN | apply below_drew1 | refine below_set ?_ GE723.out | refine below_set ?_ GE733.out | refine below_set ?_ GE740.out | refine below_set ?_ GE747.out) | exact HB.out)⟩
           ·replace c67 := Bool.eq_false_iff.mpr c67
            subst c67
            have H1 : (some true) = some r := by rw [if_neg (show ¬ (false = true) by decide)] at H; exact H
            clear H
            have H := H1
            clear H1
            obtain rfl := Option.some.inj H
            go_wp2
            go_ret
            exact ⟨by first | rfl | (simp [errW_none, errW_some] <;> rfl) | (simp [*, errW_none, errW_some] <;> rfl), by repeat (first | (with_reducible first | exact HB.out | apply below_alloc | apply pw_below_drewN | apply below_drew1 | refine below_set ?_ GE723.out | refine below_set ?_ GE733.out | refine below_set ?_ GE740.out | refine below_set ?_ GE747.out) | exact HB.out)⟩

/-- THE ONE PURE STATEMENT of laws_FnSecFlush: yours. -/
def laws_FnSecFlush.Pure : Prop := ∀ (l0 : List Int) (l1 : List Int), l0.length ≤ maxLen → l0.length * 1 ≤ 140737488351232 → (∀ x ∈ l0, (Lit.int .u8 x).wf = true) → l1.length ≤ maxLen → l1.length * 1 ≤ 140737488351232 → (∀ x ∈ l1, (Lit.int .u8 x).wf = true) → ∃ k, laws_FnSecFlush.f k l0 l1 = some true
theorem laws_FnSecFlush.walk (P : laws_FnSecFlush.Pure) (a0 : Option Addr) (len0 cap0 : Nat) (z0 : List Int) (a1 : Option Addr) (len1 cap1 : Nat) (z1 : List Int) (w : World) (w0 : (a0 = none ∧ len0 = 0 ∧ cap0 = 0 ∧ z0 = []) ∨ ∃ x, a0 = some x ∧ len0 ≤ cap0 ∧ cap0 ≤ maxLen ∧ z0.length = cap0 ∧ (∀ i, i < z0.length → w.cell? (x.add i) = some (.int .u8 (z0.getD i 0))) ∧ ∀ n ∈ z0, (Lit.int .u8 n).wf = true) (y0 : len0 * 1 ≤ 140737488351232) (w1 : (a1 = none ∧ len1 = 0 ∧ cap1 = 0 ∧ z1 = []) ∨ ∃ x, a1 = some x ∧ len1 ≤ cap1 ∧ cap1 ≤ maxLen ∧ z1.length = cap1 ∧ (∀ i, i < z1.length → w.cell? (x.add i) = some (.int .u8 (z1.getD i 0))) ∧ ∀ n ∈ z1, (Lit.int .u8 n).wf = true) (y1 : len1 * 1 ≤ 140737488351232) :
  Calls Try.prog 11 #[.slice a0 len0 cap0, .slice a1 len1 cap1] w fun e w' => e = .returned (.bool true) ∧ Below w.heap.size w w' := by
 obtain ⟨l0, rfl, hr0, hm0, hw0, hc0⟩ := ReadsInt.ofRowC w0
 obtain ⟨l1, rfl, hr1, hm1, hw1, hc1⟩ := ReadsInt.ofRowC w1
 obtain ⟨k, h⟩ := P l0 l1 hm0 y0 hw0 hm1 y1 hw1
 refine (laws_FnSecFlush.calls k _ _ l0 _ _ l1 true w (Kd.C_of_reads (d := (0 : Int)) (h1 := fun _ => rfl) hr0) hc0 (Kd.C_of_reads (d := (0 : Int)) (h1 := fun _ => rfl) hr1) hc1 h).mono ?_
 rintro e w' ⟨rfl, hd⟩
 exact ⟨rfl, hd⟩

end Go.Proofs.Ythkdhcaojhbfoaa.P
