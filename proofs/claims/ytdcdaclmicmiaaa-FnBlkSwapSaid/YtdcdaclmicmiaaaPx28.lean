-- printed by pprint.py (this session's program over the kit's printer) out of the translation. Lean checks it.
import Derived.Test.YtdcdaclmicmiaaaPx0
import Derived.Test.YtdcdaclmicmiaaaPx8
import Derived.Test.YtdcdaclmicmiaaaPx10
import Derived.Test.YtdcdaclmicmiaaaPx13
import Derived.Test.YtdcdaclmicmiaaaPx14
namespace Go.Proofs.Ytdcdaclmicmiaaa.P
open Go.RowKit Go.Proofs.YtdcdaclmicmiaaaX Go.Proofs.YtdcdaclmicmiaaaW.PrintWords Go.Proofs.YtdcdaclmicmiaaaW.PrintLast Go.Proofs.YtdcdaclmicmiaaaW.PrintMore
attribute [local go_sem] max2_int min2_int max_two min_two max_three min_three max_four min_four   -- for this text's walks alone
set_option linter.unusedVariables false
set_option linter.unusedSimpArgs false

/-! ### laws_FnBlkSwap: function 9 -/
mutual
def laws_FnBlkSwap.j0 : Nat → List Int → List Int → Bool → Option (Bool)
 | 0, _, _, _ => none
 | k + 1, x0, x1, x30 => if x30 = true then (some true) else ((spec_DrawBlkPut.f k x0).bind fun bt543 => ((spec_DrawBlkPut.f k x1).bind fun bt550 => ((spec_BlkPut.f k bt543.1 bt543.2.1 bt543.2.2.1 bt543.2.2.2.1 bt543.2.2.2.2).bind fun bt557 => ((impl_BlkPut.f k bt543.1 bt543.2.1 bt543.2.2.1 bt543.2.2.2.1 bt543.2.2.2.2).bind fun bt561 => (if (bt561.2 != bt557.2) = true then (laws_FnBlkSwap.j1 k bt543.1 bt543.2.1 bt543.2.2.1 bt543.2.2.2.1 bt543.2.2.2.2 bt550.2.1 bt550.2.2.1 bt550.2.2.2.1 bt550.2.2.2.2 bt557.1 bt557.2 bt561.1 bt561.2 true) else ((laws_lpPieces.f k bt561.1 bt557.1).bind fun t565 => (if t565 = true then (if bt543.2.1 = bt550.2.1 then (if bt543.2.2.1 = bt550.2.2.1 then (laws_FnBlkSwap.j1 k bt543.1 bt543.2.1 bt543.2.2.1 bt543.2.2.2.1 bt543.2.2.2.2 bt550.2.1 bt550.2.2.1 bt550.2.2.2.1 bt550.2.2.2.2 bt557.1 bt557.2 bt561.1 bt561.2 (bt543.2.2.2.1 == bt550.2.2.2.1)) else (laws_FnBlkSwap.j1 k bt543.1 bt543.2.1 bt543.2.2.1 bt543.2.2.2.1 bt543.2.2.2.2 bt550.2.1 bt550.2.2.1 bt550.2.2.2.1 bt550.2.2.2.2 bt557.1 bt557.2 bt561.1 bt561.2 false)) else (laws_FnBlkSwap.j1 k bt543.1 bt543.2.1 bt543.2.2.1 bt543.2.2.2.1 bt543.2.2.2.2 bt550.2.1 bt550.2.2.1 bt550.2.2.2.1 bt550.2.2.2.2 bt557.1 bt557.2 bt561.1 bt561.2 false)) else (laws_FnBlkSwap.j1 k bt543.1 bt543.2.1 bt543.2.2.1 bt543.2.2.2.1 bt543.2.2.2.2 bt550.2.1 bt550.2.2.1 bt550.2.2.2.1 bt550.2.2.2.2 bt557.1 bt557.2 bt561.1 bt561.2 true))))))))
def laws_FnBlkSwap.j1 : Nat → List (S55) → Int → Int → Int → Int → Int → Int → Int → Int → List (S55) → Bool → List (S55) → Bool → Bool → Option (Bool)
 | 0, _, _, _, _, _, _, _, _, _, _, _, _, _, _ => none
 | k + 1, x5, x6, x7, x8, x9, x11, x12, x13, x14, x15, x16, x17, x18, x88 => if x88 = true then (if (x18 == x16) = true then ((laws_lpPieces.f k x17 x15).bind fun t566 => (some t566)) else (some false)) else ((impl_BlkPut.f k x17 x11 x12 x13 x14).bind fun bt567 => ((impl_BlkPut.f k x5 x11 x12 x13 x14).bind fun bt571 => ((impl_BlkPut.f k bt571.1 x6 x7 x8 x9).bind fun bt575 => (if x18 = true then (if bt567.2 = true then (if bt571.2 = true then (if bt575.2 = true then ((laws_lpPieces.f k bt567.1 bt575.1).bind fun t579 => (some t579)) else (some true)) else (some true)) else (some true)) else (some true)))))
end
def laws_FnBlkSwap.f (k : Nat) (l0 : List Int) (l1 : List Int) : Option (Bool) := if (l0.length : Int) > 1048576 then (laws_FnBlkSwap.j0 k l0 l1 true) else (laws_FnBlkSwap.j0 k l0 l1 (decide ((l1.length : Int) > 1048576)))
theorem laws_FnBlkSwap.mono_l : ∀ k, (∀ y0 y1 y2, LeO (laws_FnBlkSwap.j0 k y0 y1 y2) (laws_FnBlkSwap.j0 (k + 1) y0 y1 y2)) ∧ (∀ y0 y1 y2 y3 y4 y5 y6 y7 y8 y9 y10 y11 y12 y13, LeO (laws_FnBlkSwap.j1 k y0 y1 y2 y3 y4 y5 y6 y7 y8 y9 y10 y11 y12 y13) (laws_FnBlkSwap.j1 (k + 1) y0 y1 y2 y3 y4 y5 y6 y7 y8 y9 y10 y11 y12 y13))
 | 0 => ⟨fun _ _ _ r h => by simp [laws_FnBlkSwap.j0] at h, fun _ _ _ _ _ _ _ _ _ _ _ _ _ _ r h => by simp [laws_FnBlkSwap.j1] at h⟩
 | k + 1 => by
  obtain ⟨ih0, ih1⟩ := laws_FnBlkSwap.mono_l k
  refine ⟨?_, ?_⟩
  ·intro y0 y1 y2
   unfold laws_FnBlkSwap.j0
   repeat' first
   | (with_reducible exact ih0 _ _ _)
   | (with_reducible exact ih1 _ _ _ _ _ _ _ _ _ _ _ _ _ _)
   | (with_reducible exact impl_BlkPut.mono _ _ _ _ _ _)
   | (with_reducible exact laws_lpPieces.mono _ _ _)
   | (with_reducible exact spec_BlkPut.mono _ _ _ _ _ _)
   | (with_reducible exact spec_DrawBlkPut.mono _ _)
   | (with_reducible exact LeO.refl _)
   | (with_reducible exact LeO.none _)
   | (with_reducible refine LeO.ite ?_ ?_)
   | (with_reducible refine LeO.bind ?_ (fun _ => ?_))
   | exact ih0 _ _ _
   | exact ih1 _ _ _ _ _ _ _ _ _ _ _ _ _ _
   | exact impl_BlkPut.mono _ _ _ _ _ _
   | exact laws_lpPieces.mono _ _ _
   | exact spec_BlkPut.mono _ _ _ _ _ _
   | exact spec_DrawBlkPut.mono _ _
   | exact LeO.none _
   | refine LeO.ite ?_ ?_
   | refine LeO.bind ?_ (fun _ => ?_)
  ·intro y0 y1 y2 y3 y4 y5 y6 y7 y8 y9 y10 y11 y12 y13
   unfold laws_FnBlkSwap.j1
   repeat' first
   | (with_reducible exact ih0 _ _ _)
   | (with_reducible exact ih1 _ _ _ _ _ _ _ _ _ _ _ _ _ _)
   | (with_reducible exact impl_BlkPut.mono _ _ _ _ _ _)
   | (with_reducible exact laws_lpPieces.mono _ _ _)
   | (with_reducible exact spec_BlkPut.mono _ _ _ _ _ _)
   | (with_reducible exact spec_DrawBlkPut.mono _ _)
   | (with_reducible exact LeO.refl _)
   | (with_reducible exact LeO.none _)
   | (with_reducible refine LeO.ite ?_ ?_)
   | (with_reducible refine LeO.bind ?_ (fun _ => ?_))
   | exact ih0 _ _ _
   | exact ih1 _ _ _ _ _ _ _ _ _ _ _ _ _ _
   | exact impl_BlkPut.mono _ _ _ _ _ _
   | exact laws_lpPieces.mono _ _ _
   | exact spec_BlkPut.mono _ _ _ _ _ _
   | exact spec_DrawBlkPut.mono _ _
   | exact LeO.none _
   | refine LeO.ite ?_ ?_
   | refine LeO.bind ?_ (fun _ => ?_)
theorem laws_FnBlkSwap.mono : ∀ a0 a1 k, LeO (laws_FnBlkSwap.f k a0 a1) (laws_FnBlkSwap.f (k + 1) a0 a1) := by
 intro a0 a1 k
 obtain ⟨ih0, ih1⟩ := laws_FnBlkSwap.mono_l k
 unfold laws_FnBlkSwap.f
 repeat' first
   | (with_reducible exact ih0 _ _ _)
   | (with_reducible exact ih1 _ _ _ _ _ _ _ _ _ _ _ _ _ _)
   | (with_reducible exact impl_BlkPut.mono _ _ _ _ _ _)
   | (with_reducible exact laws_lpPieces.mono _ _ _)
   | (with_reducible exact spec_BlkPut.mono _ _ _ _ _ _)
   | (with_reducible exact spec_DrawBlkPut.mono _ _)
   | (with_reducible exact LeO.refl _)
   | (with_reducible exact LeO.none _)
   | (with_reducible refine LeO.ite ?_ ?_)
   | (with_reducible refine LeO.bind ?_ (fun _ => ?_))
   | exact ih0 _ _ _
   | exact ih1 _ _ _ _ _ _ _ _ _ _ _ _ _ _
   | exact impl_BlkPut.mono _ _ _ _ _ _
   | exact laws_lpPieces.mono _ _ _
   | exact spec_BlkPut.mono _ _ _ _ _ _
   | exact spec_DrawBlkPut.mono _ _
   | exact LeO.none _
   | refine LeO.ite ?_ ?_
   | refine LeO.bind ?_ (fun _ => ?_)
set_option maxHeartbeats 8000000 in
set_option maxRecDepth 100000 in
theorem laws_FnBlkSwap.calls (k : Nat) (A0 : Option Addr) (c0 : Nat) (l0 : List Int) (A1 : Option Addr) (c1 : Nat) (l1 : List Int) (r : Bool) (w : World) (hr0 : Kd.C (Kd.int .u8) w A0 l0.length l0) (hc0 : l0.length ≤ c0) (hr1 : Kd.C (Kd.int .u8) w A1 l1.length l1) (hc1 : l1.length ≤ c1) (h : laws_FnBlkSwap.f k l0 l1 = some r) :
  Calls Try.prog 9 #[.slice A0 l0.length c0, .slice A1 l1.length c1] w fun e w' => e = .returned (.bool r) ∧ Below w.heap.size w w' := by
 have HR0 := Aside0.mk hr0
 have HC0 := Aside0.mk hc0
 clear hr0 hc0
 have HR1 := Aside0.mk hr1
 have HC1 := Aside0.mk hc1
 clear hr1 hc1
 have HB := Aside0.mk (Below.refl w.heap.size w)
 have H : (if (l0.length : Int) > 1048576 then (laws_FnBlkSwap.j0 k l0 l1 true) else (laws_FnBlkSwap.j0 k l0 l1 (decide ((l1.length : Int) > 1048576)))) = some r := h
 clear h
 have HC3 := Aside0.mk H
 clear H
 go_enter Try.func9, Try.ntmps9
 go_upto_region 1 with (fail)
 go_cut [30] (fun v30 wc => ∃ (kq : Nat) (x30_2 : Bool), v30 = .bool x30_2 ∧ Aside0 (laws_FnBlkSwap.j0 kq l0 l1 x30_2 = some r) ∧ Aside0 (kq ≤ k) ∧ Aside0 (Below w.heap.size w wc))
 case first =>
  have H := HC3.out
  clear HC3
  by_cases c4 : (l0.length : Int) > 1048576
  ·rw [if_pos c4] at H
   have c4b0 : decide (1048576 < (l0.length : Int)) = true := decide_eq_true c4
   have c4b1 : decide (1048576 < l0.length) = true := decide_eq_true (by omega)
   clear c4
   (first | rw [c4b0] | (simp only [i64_w, i32_w]; rw [c4b0]) | skip)
   have H' := Aside0.mk H
   clear H
   go_wp2
   go_meet
   case rel => exact ⟨_, (true), (by first | rfl | (simp; done) | (simp [*]; done)), H', ⟨by first | omega | exact Nat.le_refl _⟩, ⟨pB HB.out⟩⟩
  ·rw [if_neg c4] at H
   have c4b0 : decide (1048576 < (l0.length : Int)) = false := decide_eq_false c4
   have c4b1 : decide (1048576 < l0.length) = false := decide_eq_false (by omega)
   clear c4
   (first | rw [c4b0] | (simp only [i64_w, i32_w]; rw [c4b0]) | skip)
   have H' := Aside0.mk H
   clear H
   go_wp2
   go_meet
   case rel => exact ⟨_, (decide ((l1.length : Int) > 1048576)), (by first | rfl | (simp; done) | (simp [*]; done)), H', ⟨by first | omega | exact Nat.le_refl _⟩, ⟨pB HB.out⟩⟩
 case rest =>
  clear HC3
  try clear c1
  try clear p2
  try clear c4
  try clear c4b0
  try clear c4b1
  obtain ⟨kq, x30_2, rfl, HA, HJ2, HB⟩ := hcut
  cases kq with
  | zero => exact absurd HA.out (by simp [laws_FnBlkSwap.j0])
  | succ kj2 =>
   have H := HA.out
   clear HA
   simp only [laws_FnBlkSwap.j0] at H
   by_cases c5 : x30_2 = true
   ·subst c5
    have H1 : (some true) = some r := by rw [if_pos rfl] at H; exact H
    clear H
    have H := H1
    clear H1
    obtain rfl := Option.some.inj H
    go_wp2
    go_ret
    exact ⟨by first | rfl | (simp [errW_none, errW_some] <;> rfl) | (simp [*, errW_none, errW_some] <;> rfl), pB HB.out⟩
   ·replace c5 := Bool.eq_false_iff.mpr c5
    subst c5
    have H1 : ((spec_DrawBlkPut.f kj2 l0).bind fun bt543 => ((spec_DrawBlkPut.f kj2 l1).bind fun bt550 => ((spec_BlkPut.f kj2 bt543.1 bt543.2.1 bt543.2.2.1 bt543.2.2.2.1 bt543.2.2.2.2).bind fun bt557 => ((impl_BlkPut.f kj2 bt543.1 bt543.2.1 bt543.2.2.1 bt543.2.2.2.1 bt543.2.2.2.2).bind fun bt561 => (if (bt561.2 != bt557.2) = true then (laws_FnBlkSwap.j1 kj2 bt543.1 bt543.2.1 bt543.2.2.1 bt543.2.2.2.1 bt543.2.2.2.2 bt550.2.1 bt550.2.2.1 bt550.2.2.2.1 bt550.2.2.2.2 bt557.1 bt557.2 bt561.1 bt561.2 true) else ((laws_lpPieces.f kj2 bt561.1 bt557.1).bind fun t565 => (if t565 = true then (if bt543.2.1 = bt550.2.1 then (if bt543.2.2.1 = bt550.2.2.1 then (laws_FnBlkSwap.j1 kj2 bt543.1 bt543.2.1 bt543.2.2.1 bt543.2.2.2.1 bt543.2.2.2.2 bt550.2.1 bt550.2.2.1 bt550.2.2.2.1 bt550.2.2.2.2 bt557.1 bt557.2 bt561.1 bt561.2 (bt543.2.2.2.1 == bt550.2.2.2.1)) else (laws_FnBlkSwap.j1 kj2 bt543.1 bt543.2.1 bt543.2.2.1 bt543.2.2.2.1 bt543.2.2.2.2 bt550.2.1 bt550.2.2.1 bt550.2.2.2.1 bt550.2.2.2.2 bt557.1 bt557.2 bt561.1 bt561.2 false)) else (laws_FnBlkSwap.j1 kj2 bt543.1 bt543.2.1 bt543.2.2.1 bt543.2.2.2.1 bt543.2.2.2.2 bt550.2.1 bt550.2.2.1 bt550.2.2.2.1 bt550.2.2.2.2 bt557.1 bt557.2 bt561.1 bt561.2 false)) else (laws_FnBlkSwap.j1 kj2 bt543.1 bt543.2.1 bt543.2.2.1 bt543.2.2.2.1 bt543.2.2.2.2 bt550.2.1 bt550.2.2.1 bt550.2.2.2.1 bt550.2.2.2.2 bt557.1 bt557.2 bt561.1 bt561.2 true)))))))) = some r := by rw [if_neg (show ¬ (false = true) by decide)] at H; exact H
    clear H
    have H := H1
    clear H1
    replace H := Option.bind_eq_some_iff.mp H
    obtain ⟨⟨t543, t544, t545, t546, t547⟩, A60, H⟩ := H
    replace H : ((spec_DrawBlkPut.f kj2 l1).bind fun bt550 => ((spec_BlkPut.f kj2 t543 t544 t545 t546 t547).bind fun bt557 => ((impl_BlkPut.f kj2 t543 t544 t545 t546 t547).bind fun bt561 => (if (bt561.2 != bt557.2) = true then (laws_FnBlkSwap.j1 kj2 t543 t544 t545 t546 t547 bt550.2.1 bt550.2.2.1 bt550.2.2.2.1 bt550.2.2.2.2 bt557.1 bt557.2 bt561.1 bt561.2 true) else ((laws_lpPieces.f kj2 bt561.1 bt557.1).bind fun t565 => (if t565 = true then (if t544 = bt550.2.1 then (if t545 = bt550.2.2.1 then (laws_FnBlkSwap.j1 kj2 t543 t544 t545 t546 t547 bt550.2.1 bt550.2.2.1 bt550.2.2.2.1 bt550.2.2.2.2 bt557.1 bt557.2 bt561.1 bt561.2 (t546 == bt550.2.2.2.1)) else (laws_FnBlkSwap.j1 kj2 t543 t544 t545 t546 t547 bt550.2.1 bt550.2.2.1 bt550.2.2.2.1 bt550.2.2.2.2 bt557.1 bt557.2 bt561.1 bt561.2 false)) else (laws_FnBlkSwap.j1 kj2 t543 t544 t545 t546 t547 bt550.2.1 bt550.2.2.1 bt550.2.2.2.1 bt550.2.2.2.2 bt557.1 bt557.2 bt561.1 bt561.2 false)) else (laws_FnBlkSwap.j1 kj2 t543 t544 t545 t546 t547 bt550.2.1 bt550.2.2.1 bt550.2.2.2.1 bt550.2.2.2.2 bt557.1 bt557.2 bt561.1 bt561.2 true))))))) = some r := H
    have A6 := Aside0.mk A60
    clear A60
    replace H := Option.bind_eq_some_iff.mp H
    obtain ⟨⟨t550, t551, t552, t553, t554⟩, A70, H⟩ := H
    replace H : ((spec_BlkPut.f kj2 t543 t544 t545 t546 t547).bind fun bt557 => ((impl_BlkPut.f kj2 t543 t544 t545 t546 t547).bind fun bt561 => (if (bt561.2 != bt557.2) = true then (laws_FnBlkSwap.j1 kj2 t543 t544 t545 t546 t547 t551 t552 t553 t554 bt557.1 bt557.2 bt561.1 bt561.2 true) else ((laws_lpPieces.f kj2 bt561.1 bt557.1).bind fun t565 => (if t565 = true then (if t544 = t551 then (if t545 = t552 then (laws_FnBlkSwap.j1 kj2 t543 t544 t545 t546 t547 t551 t552 t553 t554 bt557.1 bt557.2 bt561.1 bt561.2 (t546 == t553)) else (laws_FnBlkSwap.j1 kj2 t543 t544 t545 t546 t547 t551 t552 t553 t554 bt557.1 bt557.2 bt561.1 bt561.2 false)) else (laws_FnBlkSwap.j1 kj2 t543 t544 t545 t546 t547 t551 t552 t553 t554 bt557.1 bt557.2 bt561.1 bt561.2 false)) else (laws_FnBlkSwap.j1 kj2 t543 t544 t545 t546 t547 t551 t552 t553 t554 bt557.1 bt557.2 bt561.1 bt561.2 true)))))) = some r := H
    have A7 := Aside0.mk A70
    clear A70
    replace H := Option.bind_eq_some_iff.mp H
    obtain ⟨⟨t557, t558⟩, A80, H⟩ := H
    replace H : ((impl_BlkPut.f kj2 t543 t544 t545 t546 t547).bind fun bt561 => (if (bt561.2 != t558) = true then (laws_FnBlkSwap.j1 kj2 t543 t544 t545 t546 t547 t551 t552 t553 t554 t557 t558 bt561.1 bt561.2 true) else ((laws_lpPieces.f kj2 bt561.1 t557).bind fun t565 => (if t565 = true then (if t544 = t551 then (if t545 = t552 then (laws_FnBlkSwap.j1 kj2 t543 t544 t545 t546 t547 t551 t552 t553 t554 t557 t558 bt561.1 bt561.2 (t546 == t553)) else (laws_FnBlkSwap.j1 kj2 t543 t544 t545 t546 t547 t551 t552 t553 t554 t557 t558 bt561.1 bt561.2 false)) else (laws_FnBlkSwap.j1 kj2 t543 t544 t545 t546 t547 t551 t552 t553 t554 t557 t558 bt561.1 bt561.2 false)) else (laws_FnBlkSwap.j1 kj2 t543 t544 t545 t546 t547 t551 t552 t553 t554 t557 t558 bt561.1 bt561.2 true))))) = some r := H
    have A8 := Aside0.mk A80
    clear A80
    replace H := Option.bind_eq_some_iff.mp H
    obtain ⟨⟨t561, t562⟩, A90, H⟩ := H
    replace H : (if (t562 != t558) = true then (laws_FnBlkSwap.j1 kj2 t543 t544 t545 t546 t547 t551 t552 t553 t554 t557 t558 t561 t562 true) else ((laws_lpPieces.f kj2 t561 t557).bind fun t565 => (if t565 = true then (if t544 = t551 then (if t545 = t552 then (laws_FnBlkSwap.j1 kj2 t543 t544 t545 t546 t547 t551 t552 t553 t554 t557 t558 t561 t562 (t546 == t553)) else (laws_FnBlkSwap.j1 kj2 t543 t544 t545 t546 t547 t551 t552 t553 t554 t557 t558 t561 t562 false)) else (laws_FnBlkSwap.j1 kj2 t543 t544 t545 t546 t547 t551 t552 t553 t554 t557 t558 t561 t562 false)) else (laws_FnBlkSwap.j1 kj2 t543 t544 t545 t546 t547 t551 t552 t553 t554 t557 t558 t561 t562 true)))) = some r := H
    have A9 := Aside0.mk A90
    clear A90
    have HC10 := Aside0.mk H
    clear H
    go_upto_region 7 with (first | ((with_reducible refine gate_callee (f := 37) rfl ?_); refine goesL_ (some 33) rfl rfl Try.func37 (by kernel_rfl) rfl #[.slice A0 l0.length c0] rfl bM ?_; (with_reducible refine (spec_DrawBlkPut.calls kj2 _ _ l0 t543 t544 t545 t546 t547 _ ?side1 ?side2 A6.out).mono ?_); (case side1 => repeat (first | exact (Kd.C_below HR0.out HB.out) | (with_reducible refine Kd.C_alloc ?_ _) | (with_reducible refine Kd.C_drewN ?_ _) | (with_reducible refine Kd.C_drew ?_))); (case side2 => exact HC0.out); rintro e w11 ⟨v548, rfl, ho0, hb⟩; refine ⟨_, rfl, ?_⟩; have n0_ := Aside0.mk (Kd.R_lower ho0 (below_size (pB HB.out))); have n1_ := Aside0.mk (below_step (pB HB.out) hb); clear HB; have HO549 := n0_; have HB := n1_; clear n0_ n1_; (try clear hb); (try clear hb2); (try clear hk); (try clear hi); (try clear ho0)) | ((with_reducible refine gate_callee (f := 37) rfl ?_); refine goesL_ (some 41) rfl rfl Try.func37 (by kernel_rfl) rfl #[.slice A1 l1.length c1] rfl bM ?_; (with_reducible refine (spec_DrawBlkPut.calls kj2 _ _ l1 t550 t551 t552 t553 t554 _ ?side1 ?side2 A7.out).mono ?_); (case side1 => repeat (first | exact (Kd.C_below HR1.out HB.out) | (with_reducible refine Kd.C_alloc ?_ _) | (with_reducible refine Kd.C_drewN ?_ _) | (with_reducible refine Kd.C_drew ?_))); (case side2 => exact HC1.out); rintro e w12 ⟨v555, rfl, ho0, hb⟩; refine ⟨_, rfl, ?_⟩; have n0_ := Aside0.mk (Kd.R_elder' (pR HO549.out) (Kd.R_base ho0) hb); have n1_ := Aside0.mk (Kd.R_lower (Kd.R_new' ho0 (Kd.R_lt (pR HO549.out))) (below_size (pB HB.out))); have n2_ := Aside0.mk (below_step (pB HB.out) hb); clear HO549; clear HB; have HO549 := n0_; have HO556 := n1_; have HB := n2_; clear n0_ n1_ n2_; (try clear hb); (try clear hb2); (try clear hk); (try clear hi); (try clear ho0); obtain ⟨Ao13, co13, eo13⟩ := Kd.R_slice HO549.out; subst eo13) | ((with_reducible refine gate_callee (f := 38) rfl ?_); refine goesL_ (some 53) rfl rfl Try.func38 (by kernel_rfl) rfl #[.slice Ao13 t543.length co13, .int .i64 t544, .int .i64 t545, .int .i64 t546, .int .i64 t547] rfl bM ?_; (with_reducible refine (spec_BlkPut.calls kj2 _ _ t543 t544 t545 t546 t547 t557 t558 _ ?side1 ?side2 A8.out).mono ?_); (case side1 => exact pC (Kd.R_reads' HO549.out).2.2); (case side2 => exact (Kd.R_reads' HO549.out).2.1); rintro e w14 ⟨v559, rfl, ho0, hb⟩; refine ⟨_, rfl, ?_⟩; have n0_ := Aside0.mk (Kd.R_elder' (pR HO549.out) (Kd.R_base ho0) hb); have n1_ := Aside0.mk (Kd.R_elder' (pR HO556.out) (Kd.R_base ho0) hb); have n2_ := Aside0.mk (Kd.R_lower (Kd.R_new' (Kd.R_new' ho0 (Kd.R_lt (pR HO549.out))) (Kd.R_lt (pR HO556.out))) (below_size (pB HB.out))); have n3_ := Aside0.mk (below_step (pB HB.out) hb); clear HO549; clear HO556; clear HB; have HO549 := n0_; have HO556 := n1_; have HO560 := n2_; have HB := n3_; clear n0_ n1_ n2_ n3_; (try clear hb); (try clear hb2); (try clear hk); (try clear hi); (try clear ho0)) | ((with_reducible refine gate_callee (f := 39) rfl ?_); refine goesL_ (some 62) rfl rfl Try.func39 (by kernel_rfl) rfl #[.slice Ao13 t543.length co13, .int .i64 t544, .int .i64 t545, .int .i64 t546, .int .i64 t547] rfl bM ?_; (with_reducible refine (impl_BlkPut.calls kj2 _ _ t543 t544 t545 t546 t547 t561 t562 _ ?side1 ?side2 A9.out).mono ?_); (case side1 => exact pC (Kd.R_reads' HO549.out).2.2); (case side2 => exact (Kd.R_reads' HO549.out).2.1); rintro e w15 ⟨v563, rfl, ho0, hb⟩; refine ⟨_, rfl, ?_⟩; have n0_ := Aside0.mk (Kd.R_elder' (pR HO549.out) (Kd.R_base ho0) hb); have n1_ := Aside0.mk (Kd.R_elder' (pR HO556.out) (Kd.R_base ho0) hb); have n2_ := Aside0.mk (Kd.R_elder' (pR HO560.out) (Kd.R_base ho0) hb); have n3_ := Aside0.mk (Kd.R_lower (Kd.R_new' (Kd.R_new' (Kd.R_new' ho0 (Kd.R_lt (pR HO549.out))) (Kd.R_lt (pR HO556.out))) (Kd.R_lt (pR HO560.out))) (below_size (pB HB.out))); have n4_ := Aside0.mk (below_step (pB HB.out) hb); clear HO549; clear HO556; clear HO560; clear HB; have HO549 := n0_; have HO556 := n1_; have HO560 := n2_; have HO564 := n3_; have HB := n4_; clear n0_ n1_ n2_ n3_ n4_; (try clear hb); (try clear hb2); (try clear hk); (try clear hi); (try clear ho0)))
    (try simp only [Act.put, List.setIfInBounds_toArray, List.set_cons_zero, List.set_cons_succ])
    go_cut [88] (fun v88 wc => ∃ (kq : Nat) (x88_9 : Bool), v88 = .bool x88_9 ∧ Aside0 (laws_FnBlkSwap.j1 kq t543 t544 t545 t546 t547 t551 t552 t553 t554 t557 t558 t561 t562 x88_9 = some r) ∧ Aside0 (kq ≤ kj2) ∧ Aside0 (Kd.R k55 55 wc w.heap.size (fun k_ => some k_ ≠ (v559 : Value).ownBlock ∧ some k_ ≠ (v563 : Value).ownBlock) (.slice Ao13 t543.length co13) t543) ∧ Aside0 (Kd.R k55 55 wc w.heap.size (fun k_ => some k_ ≠ ((.slice Ao13 t543.length co13) : Value).ownBlock ∧ some k_ ≠ (v563 : Value).ownBlock) v559 t557) ∧ Aside0 (Kd.R k55 55 wc w.heap.size (fun k_ => some k_ ≠ ((.slice Ao13 t543.length co13) : Value).ownBlock ∧ some k_ ≠ (v559 : Value).ownBlock) v563 t561) ∧ Aside0 (Below w.heap.size w wc))
    case first =>
     have H := HC10.out
     clear HC10
     by_cases c16 : (t562 != t558) = true
     ·rw [if_pos c16] at H
      have c16b0 : (t562 != t558) = true := c16
      (try (have c16b1 : decide (t562 = t558) = false := by simpa using c16))
      (try (have c16b2 : (t562 == t558) = false := by simpa using c16))
      (try (have c16b3 : ¬ (t562 = t558) := by simpa using c16))
      clear c16
      (first | rw [c16b0] | (simp only [i64_w, i32_w]; rw [c16b0]) | skip)
      have H' := Aside0.mk H
      clear H
      go_wp2
      go_meet
      case rel => exact ⟨_, (true), (by first | rfl | (simp; done) | (simp [*]; done)), H', ⟨by have := HJ2.out; first | omega | exact Nat.le_refl _⟩, ⟨pR (Kd.R_mono HO549.out (fun _ hk => ⟨hk.1.2, hk.2⟩))⟩, ⟨pR (Kd.R_mono HO560.out (fun _ hk => ⟨hk.1.1.2, hk.2⟩))⟩, ⟨pR (Kd.R_mono HO564.out (fun _ hk => ⟨hk.1.1.2, hk.2⟩))⟩, ⟨pB HB.out⟩⟩
     ·rw [if_neg c16] at H
      have c16b0 : (t562 != t558) = false := by simpa using c16
      (try (have c16b1 : decide (t562 = t558) = true := by simpa using c16))
      (try (have c16b2 : (t562 == t558) = true := by simpa using c16))
      clear c16
      (first | rw [c16b0] | (simp only [i64_w, i32_w]; rw [c16b0]) | skip)
      replace H := Option.bind_eq_some_iff.mp H
      obtain ⟨t565, A170, H⟩ := H
      replace H : (if t565 = true then (if t544 = t551 then (if t545 = t552 then (laws_FnBlkSwap.j1 kj2 t543 t544 t545 t546 t547 t551 t552 t553 t554 t557 t558 t561 t562 (t546 == t553)) else (laws_FnBlkSwap.j1 kj2 t543 t544 t545 t546 t547 t551 t552 t553 t554 t557 t558 t561 t562 false)) else (laws_FnBlkSwap.j1 kj2 t543 t544 t545 t546 t547 t551 t552 t553 t554 t557 t558 t561 t562 false)) else (laws_FnBlkSwap.j1 kj2 t543 t544 t545 t546 t547 t551 t552 t553 t554 t557 t558 t561 t562 true)) = some r := H
      have A17 := Aside0.mk A170
      clear A170
      by_cases c18 : t565 = true
      ·subst c18
       have H1 : (if t544 = t551 then (if t545 = t552 then (laws_FnBlkSwap.j1 kj2 t543 t544 t545 t546 t547 t551 t552 t553 t554 t557 t558 t561 t562 (t546 == t553)) else (laws_FnBlkSwap.j1 kj2 t543 t544 t545 t546 t547 t551 t552 t553 t554 t557 t558 t561 t562 false)) else (laws_FnBlkSwap.j1 kj2 t543 t544 t545 t546 t547 t551 t552 t553 t554 t557 t558 t561 t562 false)) = some r := by rw [if_pos rfl] at H; exact H
       clear H
       have H := H1
       clear H1
       by_cases c19 : t544 = t551
       ·rw [if_pos c19] at H
        have c19b0 : (t544 == t551) = true := beq_iff_eq.mpr c19
        have c19b1 : (t544 != t551) = false := bne_eq_false_iff_eq.mpr c19
        clear c19
        by_cases c20 : t545 = t552
        ·rw [if_pos c20] at H
         have c20b0 : (t545 == t552) = true := beq_iff_eq.mpr c20
         have c20b1 : (t545 != t552) = false := bne_eq_false_iff_eq.mpr c20
         clear c20
         have H' := Aside0.mk H
         clear H
         obtain ⟨Ao21, co21, eo21⟩ := Kd.R_slice HO564.out
         subst eo21
         obtain ⟨Ao22, co22, eo22⟩ := Kd.R_slice HO560.out
         subst eo22
         go_wp2_with (first | (go_at_call 40; (with_reducible refine (laws_lpPieces.calls kj2 _ _ t561 _ _ t557 true _ ?side1 ?side2 ?side3 ?side4 A17.out).mono ?_); (case side1 => exact pC (Kd.R_reads' HO564.out).2.2); (case side2 => exact (Kd.R_reads' HO564.out).2.1); (case side3 => exact pC (Kd.R_reads' HO560.out).2.2); (case side4 => exact (Kd.R_reads' HO560.out).2.1); rintro e w' ⟨rfl, ⟨nd, rfl⟩⟩))
         go_meet
         case rel => exact ⟨_, ((t546 == t553)), (by first | rfl | (simp; done) | (simp [*]; done)), H', ⟨by have := HJ2.out; first | omega | exact Nat.le_refl _⟩, ⟨pR (Kd.R_mono HO549.out (fun _ hk => ⟨hk.1.2, hk.2⟩))⟩, ⟨pR (Kd.R_mono HO560.out (fun _ hk => ⟨hk.1.1.2, hk.2⟩))⟩, ⟨pR (Kd.R_mono HO564.out (fun _ hk => ⟨hk.1.1.2, hk.2⟩))⟩, ⟨pB HB.out⟩⟩
        ·rw [if_neg c20] at H
         have c20b0 : (t545 == t552) = false := beq_eq_false_iff_ne.mpr c20
         have c20b1 : (t545 != t552) = true := bne_iff_ne.mpr c20
         have H' := Aside0.mk H
         clear H
         obtain ⟨Ao23, co23, eo23⟩ := Kd.R_slice HO564.out
         subst eo23
         obtain ⟨Ao24, co24, eo24⟩ := Kd.R_slice HO560.out
         subst eo24
         go_wp2_with (first | (go_at_call 40; (with_reducible refine (laws_lpPieces.calls kj2 _ _ t561 _ _ t557 true _ ?side1 ?side2 ?side3 ?side4 A17.out).mono ?_); (case side1 => exact pC (Kd.R_reads' HO564.out).2.2); (case side2 => exact (Kd.R_reads' HO564.out).2.1); (case side3 => exact pC (Kd.R_reads' HO560.out).2.2); (case side4 => exact (Kd.R_reads' HO560.out).2.1); rintro e w' ⟨rfl, ⟨nd, rfl⟩⟩))
         go_meet
         case rel => exact ⟨_, (false), (by first | rfl | (simp; done) | (simp [*]; done)), H', ⟨by have := HJ2.out; first | omega | exact Nat.le_refl _⟩, ⟨pR (Kd.R_mono HO549.out (fun _ hk => ⟨hk.1.2, hk.2⟩))⟩, ⟨pR (Kd.R_mono HO560.out (fun _ hk => ⟨hk.1.1.2, hk.2⟩))⟩, ⟨pR (Kd.R_mono HO564.out (fun _ hk => ⟨hk.1.1.2, hk.2⟩))⟩, ⟨pB HB.out⟩⟩
       ·rw [if_neg c19] at H
        have c19b0 : (t544 == t551) = false := beq_eq_false_iff_ne.mpr c19
        have c19b1 : (t544 != t551) = true := bne_iff_ne.mpr c19
        have H' := Aside0.mk H
        clear H
        obtain ⟨Ao25, co25, eo25⟩ := Kd.R_slice HO564.out
        subst eo25
        obtain ⟨Ao26, co26, eo26⟩ := Kd.R_slice HO560.out
        subst eo26
        go_wp2_with (first | (go_at_call 40; (with_reducible refine (laws_lpPieces.calls kj2 _ _ t561 _ _ t557 true _ ?side1 ?side2 ?side3 ?side4 A17.out).mono ?_); (case side1 => exact pC (Kd.R_reads' HO564.out).2.2); (case side2 => exact (Kd.R_reads' HO564.out).2.1); (case side3 => exact pC (Kd.R_reads' HO560.out).2.2); (case side4 => exact (Kd.R_reads' HO560.out).2.1); rintro e w' ⟨rfl, ⟨nd, rfl⟩⟩))
        go_meet
        case rel => exact ⟨_, (false), (by first | rfl | (simp; done) | (simp [*]; done)), H', ⟨by have := HJ2.out; first | omega | exact Nat.le_refl _⟩, ⟨pR (Kd.R_mono HO549.out (fun _ hk => ⟨hk.1.2, hk.2⟩))⟩, ⟨pR (Kd.R_mono HO560.out (fun _ hk => ⟨hk.1.1.2, hk.2⟩))⟩, ⟨pR (Kd.R_mono HO564.out (fun _ hk => ⟨hk.1.1.2, hk.2⟩))⟩, ⟨pB HB.out⟩⟩
      ·replace c18 := Bool.eq_false_iff.mpr c18
       subst c18
       have H1 : (laws_FnBlkSwap.j1 kj2 t543 t544 t545 t546 t547 t551 t552 t553 t554 t557 t558 t561 t562 true) = some r := by rw [if_neg (show ¬ (false = true) by decide)] at H; exact H
       clear H
       have H := H1
       clear H1
       have H' := Aside0.mk H
       clear H
       obtain ⟨Ao27, co27, eo27⟩ := Kd.R_slice HO564.out
       subst eo27
       obtain ⟨Ao28, co28, eo28⟩ := Kd.R_slice HO560.out
       subst eo28
       go_wp2_with (first | (go_at_call 40; (with_reducible refine (laws_lpPieces.calls kj2 _ _ t561 _ _ t557 false _ ?side1 ?side2 ?side3 ?side4 A17.out).mono ?_); (case side1 => exact pC (Kd.R_reads' HO564.out).2.2); (case side2 => exact (Kd.R_reads' HO564.out).2.1); (case side3 => exact pC (Kd.R_reads' HO560.out).2.2); (case side4 => exact (Kd.R_reads' HO560.out).2.1); rintro e w' ⟨rfl, ⟨nd, rfl⟩⟩))
       go_meet
       case rel => exact ⟨_, (true), (by first | rfl | (simp; done) | (simp [*]; done)), H', ⟨by have := HJ2.out; first | omega | exact Nat.le_refl _⟩, ⟨pR (Kd.R_mono HO549.out (fun _ hk => ⟨hk.1.2, hk.2⟩))⟩, ⟨pR (Kd.R_mono HO560.out (fun _ hk => ⟨hk.1.1.2, hk.2⟩))⟩, ⟨pR (Kd.R_mono HO564.out (fun _ hk => ⟨hk.1.1.2, hk.2⟩))⟩, ⟨pB HB.out⟩⟩
    case rest =>
     clear HC10
     try clear c1
     try clear c2
     try clear p2
     try clear c3
     try clear c4
     try clear c4b0
     try clear c4b1
     try clear c5
     try clear c9
     try clear c16
     try clear c16b0
     try clear c16b1
     try clear c16b2
     try clear c18
     try clear c19
     try clear c19b0
     try clear c19b1
     try clear c20
     try clear c20b0
     try clear c20b1
     try clear p2
     obtain ⟨kq, x88_9, rfl, HA, HJ9, HO_5, HO_15, HO_17, HB⟩ := hcut
     cases kq with
     | zero => exact absurd HA.out (by simp [laws_FnBlkSwap.j1])
     | succ kj9 =>
      have H := HA.out
      clear HA
      simp only [laws_FnBlkSwap.j1] at H
      by_cases c29 : x88_9 = true
      ·subst c29
       have H1 : (if (t562 == t558) = true then ((laws_lpPieces.f kj9 t561 t557).bind fun t566 => (some t566)) else (some false)) = some r := by rw [if_pos rfl] at H; exact H
       clear H
       have H := H1
       clear H1
       by_cases c30 : (t562 == t558) = true
       ·rw [if_pos c30] at H
        have c30b0 : (t562 == t558) = true := c30
        (try (have c30b1 : decide (t562 = t558) = true := by simpa using c30))
        (try (have c30b2 : (t562 == t558) = true := by simpa using c30))
        clear c30
        replace H := Option.bind_eq_some_iff.mp H
        obtain ⟨t566, A310, H⟩ := H
        replace H : (some t566) = some r := H
        have A31 := Aside0.mk A310
        clear A310
        obtain rfl := Option.some.inj H
        obtain ⟨Ao32, co32, eo32⟩ := Kd.R_slice HO_17.out
        subst eo32
        obtain ⟨Ao33, co33, eo33⟩ := Kd.R_slice HO_15.out
        subst eo33
        go_wp2_with (first | (go_at_call 40; (with_reducible refine (laws_lpPieces.calls kj9 _ _ t561 _ _ t557 t566 _ ?side1 ?side2 ?side3 ?side4 A31.out).mono ?_); (case side1 => exact pC (Kd.R_reads' HO_17.out).2.2); (case side2 => exact (Kd.R_reads' HO_17.out).2.1); (case side3 => exact pC (Kd.R_reads' HO_15.out).2.2); (case side4 => exact (Kd.R_reads' HO_15.out).2.1); rintro e w' ⟨rfl, ⟨nd, rfl⟩⟩))
        go_ret
        exact ⟨by first | rfl | (simp [errW_none, errW_some] <;> rfl) | (simp [*, errW_none, errW_some] <;> rfl), pB HB.out⟩
       ·rw [if_neg c30] at H
        have c30b0 : (t562 == t558) = false := by simpa using c30
        (try (have c30b1 : decide (t562 = t558) = false := by simpa using c30))
        (try (have c30b2 : (t562 == t558) = false := by simpa using c30))
        (try (have c30b3 : ¬ (t562 = t558) := by simpa using c30))
        clear c30
        obtain rfl := Option.some.inj H
        go_wp2
        go_ret
        exact ⟨by first | rfl | (simp [errW_none, errW_some] <;> rfl) | (simp [*, errW_none, errW_some] <;> rfl), pB HB.out⟩
      ·replace c29 := Bool.eq_false_iff.mpr c29
       subst c29
       have H1 : ((impl_BlkPut.f kj9 t561 t551 t552 t553 t554).bind fun bt567 => ((impl_BlkPut.f kj9 t543 t551 t552 t553 t554).bind fun bt571 => ((impl_BlkPut.f kj9 bt571.1 t544 t545 t546 t547).bind fun bt575 => (if t562 = true then (if bt567.2 = true then (if bt571.2 = true then (if bt575.2 = true then ((laws_lpPieces.f kj9 bt567.1 bt575.1).bind fun t579 => (some t579)) else (some true)) else (some true)) else (some true)) else (some true))))) = some r := by rw [if_neg (show ¬ (false = true) by decide)] at H; exact H
       clear H
       have H := H1
       clear H1
       replace H := Option.bind_eq_some_iff.mp H
       obtain ⟨⟨t567, t568⟩, A340, H⟩ := H
       replace H : ((impl_BlkPut.f kj9 t543 t551 t552 t553 t554).bind fun bt571 => ((impl_BlkPut.f kj9 bt571.1 t544 t545 t546 t547).bind fun bt575 => (if t562 = true then (if t568 = true then (if bt571.2 = true then (if bt575.2 = true then ((laws_lpPieces.f kj9 t567 bt575.1).bind fun t579 => (some t579)) else (some true)) else (some true)) else (some true)) else (some true)))) = some r := H
       have A34 := Aside0.mk A340
       clear A340
       replace H := Option.bind_eq_some_iff.mp H
       obtain ⟨⟨t571, t572⟩, A350, H⟩ := H
       replace H : ((impl_BlkPut.f kj9 t571 t544 t545 t546 t547).bind fun bt575 => (if t562 = true then (if t568 = true then (if t572 = true then (if bt575.2 = true then ((laws_lpPieces.f kj9 t567 bt575.1).bind fun t579 => (some t579)) else (some true)) else (some true)) else (some true)) else (some true))) = some r := H
       have A35 := Aside0.mk A350
       clear A350
       replace H := Option.bind_eq_some_iff.mp H
       obtain ⟨⟨t575, t576⟩, A360, H⟩ := H
       replace H : (if t562 = true then (if t568 = true then (if t572 = true then (if t576 = true then ((laws_lpPieces.f kj9 t567 t575).bind fun t579 => (some t579)) else (some true)) else (some true)) else (some true)) else (some true)) = some r := H
       have A36 := Aside0.mk A360
       clear A360
       by_cases c37 : t562 = true
       ·subst c37
        have H1 : (if t568 = true then (if t572 = true then (if t576 = true then ((laws_lpPieces.f kj9 t567 t575).bind fun t579 => (some t579)) else (some true)) else (some true)) else (some true)) = some r := by rw [if_pos rfl] at H; exact H
        clear H
        have H := H1
        clear H1
        by_cases c38 : t568 = true
        ·subst c38
         have H1 : (if t572 = true then (if t576 = true then ((laws_lpPieces.f kj9 t567 t575).bind fun t579 => (some t579)) else (some true)) else (some true)) = some r := by rw [if_pos rfl] at H; exact H
         clear H
         have H := H1
         clear H1
         by_cases c39 : t572 = true
         ·subst c39
          have H1 : (if t576 = true then ((laws_lpPieces.f kj9 t567 t575).bind fun t579 => (some t579)) else (some true)) = some r := by rw [if_pos rfl] at H; exact H
          clear H
          have H := H1
          clear H1
          by_cases c40 : t576 = true
          ·subst c40
           have H1 : ((laws_lpPieces.f kj9 t567 t575).bind fun t579 => (some t579)) = some r := by rw [if_pos rfl] at H; exact H
           clear H
           have H := H1
           clear H1
           replace H := Option.bind_eq_some_iff.mp H
           obtain ⟨t579, A410, H⟩ := H
           replace H : (some t579) = some r := H
           have A41 := Aside0.mk A410
           clear A410
           obtain rfl := Option.some.inj H
           obtain ⟨Ao42, co42, eo42⟩ := Kd.R_slice HO_17.out
           subst eo42
           go_wp2_with (first | ((with_reducible refine gate_callee (f := 39) rfl ?_); refine goesL_ (some 103) rfl rfl Try.func39 (by kernel_rfl) rfl #[.slice Ao42 t561.length co42, .int .i64 t551, .int .i64 t552, .int .i64 t553, .int .i64 t554] rfl bM ?_; (with_reducible refine (impl_BlkPut.calls kj9 _ _ t561 t551 t552 t553 t554 t567 true _ ?side1 ?side2 A34.out).mono ?_); (case side1 => exact pC (Kd.R_reads' HO_17.out).2.2); (case side2 => exact (Kd.R_reads' HO_17.out).2.1); rintro e w43 ⟨v569, rfl, ho0, hb⟩; refine ⟨_, rfl, ?_⟩; have n0_ := Aside0.mk (Kd.R_elder' (pR HO_5.out) (Kd.R_base ho0) hb); have n1_ := Aside0.mk (Kd.R_elder' (pR HO_15.out) (Kd.R_base ho0) hb); have n2_ := Aside0.mk (Kd.R_elder' (pR HO_17.out) (Kd.R_base ho0) hb); have n3_ := Aside0.mk (Kd.R_lower (Kd.R_new' (Kd.R_new' (Kd.R_new' ho0 (Kd.R_lt (pR HO_5.out))) (Kd.R_lt (pR HO_15.out))) (Kd.R_lt (pR HO_17.out))) (below_size (pB HB.out))); have n4_ := Aside0.mk (below_step (pB HB.out) hb); clear HO_5; clear HO_15; clear HO_17; clear HB; have HO_5 := n0_; have HO_15 := n1_; have HO_17 := n2_; have HO570 := n3_; have HB := n4_; clear n0_ n1_ n2_ n3_ n4_; (try clear hb); (try clear hb2); (try clear hk); (try clear hi); (try clear ho0)) | ((with_reducible refine gate_callee (f := 39) rfl ?_); refine goesL_ (some 112) rfl rfl Try.func39 (by kernel_rfl) rfl #[.slice Ao13 t543.length co13, .int .i64 t551, .int .i64 t552, .int .i64 t553, .int .i64 t554] rfl bM ?_; (with_reducible refine (impl_BlkPut.calls kj9 _ _ t543 t551 t552 t553 t554 t571 true _ ?side1 ?side2 A35.out).mono ?_); (case side1 => exact pC (Kd.R_reads' HO_5.out).2.2); (case side2 => exact (Kd.R_reads' HO_5.out).2.1); rintro e w44 ⟨v573, rfl, ho0, hb⟩; refine ⟨_, rfl, ?_⟩; have n0_ := Aside0.mk (Kd.R_elder' (pR HO_5.out) (Kd.R_base ho0) hb); have n1_ := Aside0.mk (Kd.R_elder' (pR HO_15.out) (Kd.R_base ho0) hb); have n2_ := Aside0.mk (Kd.R_elder' (pR HO_17.out) (Kd.R_base ho0) hb); have n3_ := Aside0.mk (Kd.R_elder' (pR HO570.out) (Kd.R_base ho0) hb); have n4_ := Aside0.mk (Kd.R_lower (Kd.R_new' (Kd.R_new' (Kd.R_new' (Kd.R_new' ho0 (Kd.R_lt (pR HO_5.out))) (Kd.R_lt (pR HO_15.out))) (Kd.R_lt (pR HO_17.out))) (Kd.R_lt (pR HO570.out))) (below_size (pB HB.out))); have n5_ := Aside0.mk (below_step (pB HB.out) hb); clear HO_5; clear HO_15; clear HO_17; clear HO570; clear HB; have HO_5 := n0_; have HO_15 := n1_; have HO_17 := n2_; have HO570 := n3_; have HO574 := n4_; have HB := n5_; clear n0_ n1_ n2_ n3_ n4_ n5_; (try clear hb); (try clear hb2); (try clear hk); (try clear hi); (try clear ho0); obtain ⟨Ao45, co45, eo45⟩ := Kd.R_slice HO574.out; subst eo45) | ((with_reducible refine gate_callee (f := 39) rfl ?_); refine goesL_ (some 121) rfl rfl Try.func39 (by kernel_rfl) rfl #[.slice Ao45 t571.length co45, .int .i64 t544, .int .i64 t545, .int .i64 t546, .int .i64 t547] rfl bM ?_; (with_reducible refine (impl_BlkPut.calls kj9 _ _ t571 t544 t545 t546 t547 t575 true _ ?side1 ?side2 A36.out).mono ?_); (case side1 => exact pC (Kd.R_reads' HO574.out).2.2); (case side2 => exact (Kd.R_reads' HO574.out).2.1); rintro e w46 ⟨v577, rfl, ho0, hb⟩; refine ⟨_, rfl, ?_⟩; have n0_ := Aside0.mk (Kd.R_elder' (pR HO_5.out) (Kd.R_base ho0) hb); have n1_ := Aside0.mk (Kd.R_elder' (pR HO_15.out) (Kd.R_base ho0) hb); have n2_ := Aside0.mk (Kd.R_elder' (pR HO_17.out) (Kd.R_base ho0) hb); have n3_ := Aside0.mk (Kd.R_elder' (pR HO570.out) (Kd.R_base ho0) hb); have n4_ := Aside0.mk (Kd.R_elder' (pR HO574.out) (Kd.R_base ho0) hb); have n5_ := Aside0.mk (Kd.R_lower (Kd.R_new' (Kd.R_new' (Kd.R_new' (Kd.R_new' (Kd.R_new' ho0 (Kd.R_lt (pR HO_5.out))) (Kd.R_lt (pR HO_15.out))) (Kd.R_lt (pR HO_17.out))) (Kd.R_lt (pR HO570.out))) (Kd.R_lt (pR HO574.out))) (below_size (pB HB.out))); have n6_ := Aside0.mk (below_step (pB HB.out) hb); clear HO_5; clear HO_15; clear HO_17; clear HO570; clear HO574; clear HB; have HO_5 := n0_; have HO_15 := n1_; have HO_17 := n2_; have HO570 := n3_; have HO574 := n4_; have HO578 := n5_; have HB := n6_; clear n0_ n1_ n2_ n3_ n4_ n5_ n6_; (try clear hb); (try clear hb2); (try clear hk); (try clear hi); (try clear ho0); obtain ⟨Ao47, co47, eo47⟩ := Kd.R_slice HO570.out; subst eo47; obtain ⟨Ao48, co48, eo48⟩ := Kd.R_slice HO578.out; subst eo48) | (go_at_call 40; (with_reducible refine (laws_lpPieces.calls kj9 _ _ t567 _ _ t575 t579 _ ?side1 ?side2 ?side3 ?side4 A41.out).mono ?_); (case side1 => exact pC (Kd.R_reads' HO570.out).2.2); (case side2 => exact (Kd.R_reads' HO570.out).2.1); (case side3 => exact pC (Kd.R_reads' HO578.out).2.2); (case side4 => exact (Kd.R_reads' HO578.out).2.1); rintro e w' ⟨rfl, ⟨nd, rfl⟩⟩))
           go_ret
           exact ⟨by first | rfl | (simp [errW_none, errW_some] <;> rfl) | (simp [*, errW_none, errW_some] <;> rfl), pB HB.out⟩
          ·replace c40 := Bool.eq_false_iff.mpr c40
           subst c40
           have H1 : (some true) = some r := by rw [if_neg (show ¬ (false = true) by decide)] at H; exact H
           clear H
           have H := H1
           clear H1
           obtain rfl := Option.some.inj H
           obtain ⟨Ao49, co49, eo49⟩ := Kd.R_slice HO_17.out
           subst eo49
           go_wp2_with (first | ((with_reducible refine gate_callee (f := 39) rfl ?_); refine goesL_ (some 103) rfl rfl Try.func39 (by kernel_rfl) rfl #[.slice Ao49 t561.length co49, .int .i64 t551, .int .i64 t552, .int .i64 t553, .int .i64 t554] rfl bM ?_; (with_reducible refine (impl_BlkPut.calls kj9 _ _ t561 t551 t552 t553 t554 t567 true _ ?side1 ?side2 A34.out).mono ?_); (case side1 => exact pC (Kd.R_reads' HO_17.out).2.2); (case side2 => exact (Kd.R_reads' HO_17.out).2.1); rintro e w50 ⟨v569, rfl, ho0, hb⟩; refine ⟨_, rfl, ?_⟩; have n0_ := Aside0.mk (Kd.R_elder' (pR HO_5.out) (Kd.R_base ho0) hb); have n1_ := Aside0.mk (Kd.R_elder' (pR HO_15.out) (Kd.R_base ho0) hb); have n2_ := Aside0.mk (Kd.R_elder' (pR HO_17.out) (Kd.R_base ho0) hb); have n3_ := Aside0.mk (Kd.R_lower (Kd.R_new' (Kd.R_new' (Kd.R_new' ho0 (Kd.R_lt (pR HO_5.out))) (Kd.R_lt (pR HO_15.out))) (Kd.R_lt (pR HO_17.out))) (below_size (pB HB.out))); have n4_ := Aside0.mk (below_step (pB HB.out) hb); clear HO_5; clear HO_15; clear HO_17; clear HB; have HO_5 := n0_; have HO_15 := n1_; have HO_17 := n2_; have HO570 := n3_; have HB := n4_; clear n0_ n1_ n2_ n3_ n4_; (try clear hb); (try clear hb2); (try clear hk); (try clear hi); (try clear ho0)) | ((with_reducible refine gate_callee (f := 39) rfl ?_); refine goesL_ (some 112) rfl rfl Try.func39 (by kernel_rfl) rfl #[.slice Ao13 t543.length co13, .int .i64 t551, .int .i64 t552, .int .i64 t553, .int .i64 t554] rfl bM ?_; (with_reducible refine (impl_BlkPut.calls kj9 _ _ t543 t551 t552 t553 t554 t571 true _ ?side1 ?side2 A35.out).mono ?_); (case side1 => exact pC (Kd.R_reads' HO_5.out).2.2); (case side2 => exact (Kd.R_reads' HO_5.out).2.1); rintro e w51 ⟨v573, rfl, ho0, hb⟩; refine ⟨_, rfl, ?_⟩; have n0_ := Aside0.mk (Kd.R_elder' (pR HO_5.out) (Kd.R_base ho0) hb); have n1_ := Aside0.mk (Kd.R_elder' (pR HO_15.out) (Kd.R_base ho0) hb); have n2_ := Aside0.mk (Kd.R_elder' (pR HO_17.out) (Kd.R_base ho0) hb); have n3_ := Aside0.mk (Kd.R_elder' (pR HO570.out) (Kd.R_base ho0) hb); have n4_ := Aside0.mk (Kd.R_lower (Kd.R_new' (Kd.R_new' (Kd.R_new' (Kd.R_new' ho0 (Kd.R_lt (pR HO_5.out))) (Kd.R_lt (pR HO_15.out))) (Kd.R_lt (pR HO_17.out))) (Kd.R_lt (pR HO570.out))) (below_size (pB HB.out))); have n5_ := Aside0.mk (below_step (pB HB.out) hb); clear HO_5; clear HO_15; clear HO_17; clear HO570; clear HB; have HO_5 := n0_; have HO_15 := n1_; have HO_17 := n2_; have HO570 := n3_; have HO574 := n4_; have HB := n5_; clear n0_ n1_ n2_ n3_ n4_ n5_; (try clear hb); (try clear hb2); (try clear hk); (try clear hi); (try clear ho0); obtain ⟨Ao52, co52, eo52⟩ := Kd.R_slice HO574.out; subst eo52) | ((with_reducible refine gate_callee (f := 39) rfl ?_); refine goesL_ (some 121) rfl rfl Try.func39 (by kernel_rfl) rfl #[.slice Ao52 t571.length co52, .int .i64 t544, .int .i64 t545, .int .i64 t546, .int .i64 t547] rfl bM ?_; (with_reducible refine (impl_BlkPut.calls kj9 _ _ t571 t544 t545 t546 t547 t575 false _ ?side1 ?side2 A36.out).mono ?_); (case side1 => exact pC (Kd.R_reads' HO574.out).2.2); (case side2 => exact (Kd.R_reads' HO574.out).2.1); rintro e w53 ⟨v577, rfl, ho0, hb⟩; refine ⟨_, rfl, ?_⟩; have n0_ := Aside0.mk (Kd.R_elder' (pR HO_5.out) (Kd.R_base ho0) hb); have n1_ := Aside0.mk (Kd.R_elder' (pR HO_15.out) (Kd.R_base ho0) hb); have n2_ := Aside0.mk (Kd.R_elder' (pR HO_17.out) (Kd.R_base ho0) hb); have n3_ := Aside0.mk (Kd.R_elder' (pR HO570.out) (Kd.R_base ho0) hb); have n4_ := Aside0.mk (Kd.R_elder' (pR HO574.out) (Kd.R_base ho0) hb); have n5_ := Aside0.mk (Kd.R_lower (Kd.R_new' (Kd.R_new' (Kd.R_new' (Kd.R_new' (Kd.R_new' ho0 (Kd.R_lt (pR HO_5.out))) (Kd.R_lt (pR HO_15.out))) (Kd.R_lt (pR HO_17.out))) (Kd.R_lt (pR HO570.out))) (Kd.R_lt (pR HO574.out))) (below_size (pB HB.out))); have n6_ := Aside0.mk (below_step (pB HB.out) hb); clear HO_5; clear HO_15; clear HO_17; clear HO570; clear HO574; clear HB; have HO_5 := n0_; have HO_15 := n1_; have HO_17 := n2_; have HO570 := n3_; have HO574 := n4_; have HO578 := n5_; have HB := n6_; clear n0_ n1_ n2_ n3_ n4_ n5_ n6_; (try clear hb); (try clear hb2); (try clear hk); (try clear hi); (try clear ho0)))
           go_ret
           exact ⟨by first | rfl | (simp [errW_none, errW_some] <;> rfl) | (simp [*, errW_none, errW_some] <;> rfl), pB HB.out⟩
         ·replace c39 := Bool.eq_false_iff.mpr c39
          subst c39
          have H1 : (some true) = some r := by rw [if_neg (show ¬ (false = true) by decide)] at H; exact H
          clear H
          have H := H1
          clear H1
          obtain rfl := Option.some.inj H
          obtain ⟨Ao54, co54, eo54⟩ := Kd.R_slice HO_17.out
          subst eo54
          go_wp2_with (first | ((with_reducible refine gate_callee (f := 39) rfl ?_); refine goesL_ (some 103) rfl rfl Try.func39 (by kernel_rfl) rfl #[.slice Ao54 t561.length co54, .int .i64 t551, .int .i64 t552, .int .i64 t553, .int .i64 t554] rfl bM ?_; (with_reducible refine (impl_BlkPut.calls kj9 _ _ t561 t551 t552 t553 t554 t567 true _ ?side1 ?side2 A34.out).mono ?_); (case side1 => exact pC (Kd.R_reads' HO_17.out).2.2); (case side2 => exact (Kd.R_reads' HO_17.out).2.1); rintro e w55 ⟨v569, rfl, ho0, hb⟩; refine ⟨_, rfl, ?_⟩; have n0_ := Aside0.mk (Kd.R_elder' (pR HO_5.out) (Kd.R_base ho0) hb); have n1_ := Aside0.mk (Kd.R_elder' (pR HO_15.out) (Kd.R_base ho0) hb); have n2_ := Aside0.mk (Kd.R_elder' (pR HO_17.out) (Kd.R_base ho0) hb); have n3_ := Aside0.mk (Kd.R_lower (Kd.R_new' (Kd.R_new' (Kd.R_new' ho0 (Kd.R_lt (pR HO_5.out))) (Kd.R_lt (pR HO_15.out))) (Kd.R_lt (pR HO_17.out))) (below_size (pB HB.out))); have n4_ := Aside0.mk (below_step (pB HB.out) hb); clear HO_5; clear HO_15; clear HO_17; clear HB; have HO_5 := n0_; have HO_15 := n1_; have HO_17 := n2_; have HO570 := n3_; have HB := n4_; clear n0_ n1_ n2_ n3_ n4_; (try clear hb); (try clear hb2); (try clear hk); (try clear hi); (try clear ho0)) | ((with_reducible refine gate_callee (f := 39) rfl ?_); refine goesL_ (some 112) rfl rfl Try.func39 (by kernel_rfl) rfl #[.slice Ao13 t543.length co13, .int .i64 t551, .int .i64 t552, .int .i64 t553, .int .i64 t554] rfl bM ?_; (with_reducible refine (impl_BlkPut.calls kj9 _ _ t543 t551 t552 t553 t554 t571 false _ ?side1 ?side2 A35.out).mono ?_); (case side1 => exact pC (Kd.R_reads' HO_5.out).2.2); (case side2 => exact (Kd.R_reads' HO_5.out).2.1); rintro e w56 ⟨v573, rfl, ho0, hb⟩; refine ⟨_, rfl, ?_⟩; have n0_ := Aside0.mk (Kd.R_elder' (pR HO_5.out) (Kd.R_base ho0) hb); have n1_ := Aside0.mk (Kd.R_elder' (pR HO_15.out) (Kd.R_base ho0) hb); have n2_ := Aside0.mk (Kd.R_elder' (pR HO_17.out) (Kd.R_base ho0) hb); have n3_ := Aside0.mk (Kd.R_elder' (pR HO570.out) (Kd.R_base ho0) hb); have n4_ := Aside0.mk (Kd.R_lower (Kd.R_new' (Kd.R_new' (Kd.R_new' (Kd.R_new' ho0 (Kd.R_lt (pR HO_5.out))) (Kd.R_lt (pR HO_15.out))) (Kd.R_lt (pR HO_17.out))) (Kd.R_lt (pR HO570.out))) (below_size (pB HB.out))); have n5_ := Aside0.mk (below_step (pB HB.out) hb); clear HO_5; clear HO_15; clear HO_17; clear HO570; clear HB; have HO_5 := n0_; have HO_15 := n1_; have HO_17 := n2_; have HO570 := n3_; have HO574 := n4_; have HB := n5_; clear n0_ n1_ n2_ n3_ n4_ n5_; (try clear hb); (try clear hb2); (try clear hk); (try clear hi); (try clear ho0); obtain ⟨Ao57, co57, eo57⟩ := Kd.R_slice HO574.out; subst eo57) | ((with_reducible refine gate_callee (f := 39) rfl ?_); refine goesL_ (some 121) rfl rfl Try.func39 (by kernel_rfl) rfl #[.slice Ao57 t571.length co57, .int .i64 t544, .int .i64 t545, .int .i64 t546, .int .i64 t547] rfl bM ?_; (with_reducible refine (impl_BlkPut.calls kj9 _ _ t571 t544 t545 t546 t547 t575 t576 _ ?side1 ?side2 A36.out).mono ?_); (case side1 => exact pC (Kd.R_reads' HO574.out).2.2); (case side2 => exact (Kd.R_reads' HO574.out).2.1); rintro e w58 ⟨v577, rfl, ho0, hb⟩; refine ⟨_, rfl, ?_⟩; have n0_ := Aside0.mk (Kd.R_elder' (pR HO_5.out) (Kd.R_base ho0) hb); have n1_ := Aside0.mk (Kd.R_elder' (pR HO_15.out) (Kd.R_base ho0) hb); have n2_ := Aside0.mk (Kd.R_elder' (pR HO_17.out) (Kd.R_base ho0) hb); have n3_ := Aside0.mk (Kd.R_elder' (pR HO570.out) (Kd.R_base ho0) hb); have n4_ := Aside0.mk (Kd.R_elder' (pR HO574.out) (Kd.R_base ho0) hb); have n5_ := Aside0.mk (Kd.R_lower (Kd.R_new' (Kd.R_new' (Kd.R_new' (Kd.R_new' (Kd.R_new' ho0 (Kd.R_lt (pR HO_5.out))) (Kd.R_lt (pR HO_15.out))) (Kd.R_lt (pR HO_17.out))) (Kd.R_lt (pR HO570.out))) (Kd.R_lt (pR HO574.out))) (below_size (pB HB.out))); have n6_ := Aside0.mk (below_step (pB HB.out) hb); clear HO_5; clear HO_15; clear HO_17; clear HO570; clear HO574; clear HB; have HO_5 := n0_; have HO_15 := n1_; have HO_17 := n2_; have HO570 := n3_; have HO574 := n4_; have HO578 := n5_; have HB := n6_; clear n0_ n1_ n2_ n3_ n4_ n5_ n6_; (try clear hb); (try clear hb2); (try clear hk); (try clear hi); (try clear ho0)))
          go_ret
          exact ⟨by first | rfl | (simp [errW_none, errW_some] <;> rfl) | (simp [*, errW_none, errW_some] <;> rfl), pB HB.out⟩
        ·replace c38 := Bool.eq_false_iff.mpr c38
         subst c38
         have H1 : (some true) = some r := by rw [if_neg (show ¬ (false = true) by decide)] at H; exact H
         clear H
         have H := H1
         clear H1
         obtain rfl := Option.some.inj H
         obtain ⟨Ao59, co59, eo59⟩ := Kd.R_slice HO_17.out
         subst eo59
         go_wp2_with (first | ((with_reducible refine gate_callee (f := 39) rfl ?_); refine goesL_ (some 103) rfl rfl Try.func39 (by kernel_rfl) rfl #[.slice Ao59 t561.length co59, .int .i64 t551, .int .i64 t552, .int .i64 t553, .int .i64 t554] rfl bM ?_; (with_reducible refine (impl_BlkPut.calls kj9 _ _ t561 t551 t552 t553 t554 t567 false _ ?side1 ?side2 A34.out).mono ?_); (case side1 => exact pC (Kd.R_reads' HO_17.out).2.2); (case side2 => exact (Kd.R_reads' HO_17.out).2.1); rintro e w60 ⟨v569, rfl, ho0, hb⟩; refine ⟨_, rfl, ?_⟩; have n0_ := Aside0.mk (Kd.R_elder' (pR HO_5.out) (Kd.R_base ho0) hb); have n1_ := Aside0.mk (Kd.R_elder' (pR HO_15.out) (Kd.R_base ho0) hb); have n2_ := Aside0.mk (Kd.R_elder' (pR HO_17.out) (Kd.R_base ho0) hb); have n3_ := Aside0.mk (Kd.R_lower (Kd.R_new' (Kd.R_new' (Kd.R_new' ho0 (Kd.R_lt (pR HO_5.out))) (Kd.R_lt (pR HO_15.out))) (Kd.R_lt (pR HO_17.out))) (below_size (pB HB.out))); have n4_ := Aside0.mk (below_step (pB HB.out) hb); clear HO_5; clear HO_15; clear HO_17; clear HB; have HO_5 := n0_; have HO_15 := n1_; have HO_17 := n2_; have HO570 := n3_; have HB := n4_; clear n0_ n1_ n2_ n3_ n4_; (try clear hb); (try clear hb2); (try clear hk); (try clear hi); (try clear ho0)) | ((with_reducible refine gate_callee (f := 39) rfl ?_); refine goesL_ (some 112) rfl rfl Try.func39 (by kernel_rfl) rfl #[.slice Ao13 t543.length co13, .int .i64 t551, .int .i64 t552, .int .i64 t553, .int .i64 t554] rfl bM ?_; (with_reducible refine (impl_BlkPut.calls kj9 _ _ t543 t551 t552 t553 t554 t571 t572 _ ?side1 ?side2 A35.out).mono ?_); (case side1 => exact pC (Kd.R_reads' HO_5.out).2.2); (case side2 => exact (Kd.R_reads' HO_5.out).2.1); rintro e w61 ⟨v573, rfl, ho0, hb⟩; refine ⟨_, rfl, ?_⟩; have n0_ := Aside0.mk (Kd.R_elder' (pR HO_5.out) (Kd.R_base ho0) hb); have n1_ := Aside0.mk (Kd.R_elder' (pR HO_15.out) (Kd.R_base ho0) hb); have n2_ := Aside0.mk (Kd.R_elder' (pR HO_17.out) (Kd.R_base ho0) hb); have n3_ := Aside0.mk (Kd.R_elder' (pR HO570.out) (Kd.R_base ho0) hb); have n4_ := Aside0.mk (Kd.R_lower (Kd.R_new' (Kd.R_new' (Kd.R_new' (Kd.R_new' ho0 (Kd.R_lt (pR HO_5.out))) (Kd.R_lt (pR HO_15.out))) (Kd.R_lt (pR HO_17.out))) (Kd.R_lt (pR HO570.out))) (below_size (pB HB.out))); have n5_ := Aside0.mk (below_step (pB HB.out) hb); clear HO_5; clear HO_15; clear HO_17; clear HO570; clear HB; have HO_5 := n0_; have HO_15 := n1_; have HO_17 := n2_; have HO570 := n3_; have HO574 := n4_; have HB := n5_; clear n0_ n1_ n2_ n3_ n4_ n5_; (try clear hb); (try clear hb2); (try clear hk); (try clear hi); (try clear ho0); obtain ⟨Ao62, co62, eo62⟩ := Kd.R_slice HO574.out; subst eo62) | ((with_reducible refine gate_callee (f := 39) rfl ?_); refine goesL_ (some 121) rfl rfl Try.func39 (by kernel_rfl) rfl #[.slice Ao62 t571.length co62, .int .i64 t544, .int .i64 t545, .int .i64 t546, .int .i64 t547] rfl bM ?_; (with_reducible refine (impl_BlkPut.calls kj9 _ _ t571 t544 t545 t546 t547 t575 t576 _ ?side1 ?side2 A36.out).mono ?_); (case side1 => exact pC (Kd.R_reads' HO574.out).2.2); (case side2 => exact (Kd.R_reads' HO574.out).2.1); rintro e w63 ⟨v577, rfl, ho0, hb⟩; refine ⟨_, rfl, ?_⟩; have n0_ := Aside0.mk (Kd.R_elder' (pR HO_5.out) (Kd.R_base ho0) hb); have n1_ := Aside0.mk (Kd.R_elder' (pR HO_15.out) (Kd.R_base ho0) hb); have n2_ := Aside0.mk (Kd.R_elder' (pR HO_17.out) (Kd.R_base ho0) hb); have n3_ := Aside0.mk (Kd.R_elder' (pR HO570.out) (Kd.R_base ho0) hb); have n4_ := Aside0.mk (Kd.R_elder' (pR HO574.out) (Kd.R_base ho0) hb); have n5_ := Aside0.mk (Kd.R_lower (Kd.R_new' (Kd.R_new' (Kd.R_new' (Kd.R_new' (Kd.R_new' ho0 (Kd.R_lt (pR HO_5.out))) (Kd.R_lt (pR HO_15.out))) (Kd.R_lt (pR HO_17.out))) (Kd.R_lt (pR HO570.out))) (Kd.R_lt (pR HO574.out))) (below_size (pB HB.out))); have n6_ := Aside0.mk (below_step (pB HB.out) hb); clear HO_5; clear HO_15; clear HO_17; clear HO570; clear HO574; clear HB; have HO_5 := n0_; have HO_15 := n1_; have HO_17 := n2_; have HO570 := n3_; have HO574 := n4_; have HO578 := n5_; have HB := n6_; clear n0_ n1_ n2_ n3_ n4_ n5_ n6_; (try clear hb); (try clear hb2); (try clear hk); (try clear hi); (try clear ho0)))
         go_ret
         exact ⟨by first | rfl | (simp [errW_none, errW_some] <;> rfl) | (simp [*, errW_none, errW_some] <;> rfl), pB HB.out⟩
       ·replace c37 := Bool.eq_false_iff.mpr c37
        subst c37
        have H1 : (some true) = some r := by rw [if_neg (show ¬ (false = true) by decide)] at H; exact H
        clear H
        have H := H1
        clear H1
        obtain rfl := Option.some.inj H
        obtain ⟨Ao64, co64, eo64⟩ := Kd.R_slice HO_17.out
        subst eo64
        go_wp2_with (first | ((with_reducible refine gate_callee (f := 39) rfl ?_); refine goesL_ (some 103) rfl rfl Try.func39 (by kernel_rfl) rfl #[.slice Ao64 t561.length co64, .int .i64 t551, .int .i64 t552, .int .i64 t553, .int .i64 t554] rfl bM ?_; (with_reducible refine (impl_BlkPut.calls kj9 _ _ t561 t551 t552 t553 t554 t567 t568 _ ?side1 ?side2 A34.out).mono ?_); (case side1 => exact pC (Kd.R_reads' HO_17.out).2.2); (case side2 => exact (Kd.R_reads' HO_17.out).2.1); rintro e w65 ⟨v569, rfl, ho0, hb⟩; refine ⟨_, rfl, ?_⟩; have n0_ := Aside0.mk (Kd.R_elder' (pR HO_5.out) (Kd.R_base ho0) hb); have n1_ := Aside0.mk (Kd.R_elder' (pR HO_15.out) (Kd.R_base ho0) hb); have n2_ := Aside0.mk (Kd.R_elder' (pR HO_17.out) (Kd.R_base ho0) hb); have n3_ := Aside0.mk (Kd.R_lower (Kd.R_new' (Kd.R_new' (Kd.R_new' ho0 (Kd.R_lt (pR HO_5.out))) (Kd.R_lt (pR HO_15.out))) (Kd.R_lt (pR HO_17.out))) (below_size (pB HB.out))); have n4_ := Aside0.mk (below_step (pB HB.out) hb); clear HO_5; clear HO_15; clear HO_17; clear HB; have HO_5 := n0_; have HO_15 := n1_; have HO_17 := n2_; have HO570 := n3_; have HB := n4_; clear n0_ n1_ n2_ n3_ n4_; (try clear hb); (try clear hb2); (try clear hk); (try clear hi); (try clear ho0)) | ((with_reducible refine gate_callee (f := 39) rfl ?_); refine goesL_ (some 112) rfl rfl Try.func39 (by kernel_rfl) rfl #[.slice Ao13 t543.length co13, .int .i64 t551, .int .i64 t552, .int .i64 t553, .int .i64 t554] rfl bM ?_; (with_reducible refine (impl_BlkPut.calls kj9 _ _ t543 t551 t552 t553 t554 t571 t572 _ ?side1 ?side2 A35.out).mono ?_); (case side1 => exact pC (Kd.R_reads' HO_5.out).2.2); (case side2 => exact (Kd.R_reads' HO_5.out).2.1); rintro e w66 ⟨v573, rfl, ho0, hb⟩; refine ⟨_, rfl, ?_⟩; have n0_ := Aside0.mk (Kd.R_elder' (pR HO_5.out) (Kd.R_base ho0) hb); have n1_ := Aside0.mk (Kd.R_elder' (pR HO_15.out) (Kd.R_base ho0) hb); have n2_ := Aside0.mk (Kd.R_elder' (pR HO_17.out) (Kd.R_base ho0) hb); have n3_ := Aside0.mk (Kd.R_elder' (pR HO570.out) (Kd.R_base ho0) hb); have n4_ := Aside0.mk (Kd.R_lower (Kd.R_new' (Kd.R_new' (Kd.R_new' (Kd.R_new' ho0 (Kd.R_lt (pR HO_5.out))) (Kd.R_lt (pR HO_15.out))) (Kd.R_lt (pR HO_17.out))) (Kd.R_lt (pR HO570.out))) (below_size (pB HB.out))); have n5_ := Aside0.mk (below_step (pB HB.out) hb); clear HO_5; clear HO_15; clear HO_17; clear HO570; clear HB; have HO_5 := n0_; have HO_15 := n1_; have HO_17 := n2_; have HO570 := n3_; have HO574 := n4_; have HB := n5_; clear n0_ n1_ n2_ n3_ n4_ n5_; (try clear hb); (try clear hb2); (try clear hk); (try clear hi); (try clear ho0); obtain ⟨Ao67, co67, eo67⟩ := Kd.R_slice HO574.out; subst eo67) | ((with_reducible refine gate_callee (f := 39) rfl ?_); refine goesL_ (some 121) rfl rfl Try.func39 (by kernel_rfl) rfl #[.slice Ao67 t571.length co67, .int .i64 t544, .int .i64 t545, .int .i64 t546, .int .i64 t547] rfl bM ?_; (with_reducible refine (impl_BlkPut.calls kj9 _ _ t571 t544 t545 t546 t547 t575 t576 _ ?side1 ?side2 A36.out).mono ?_); (case side1 => exact pC (Kd.R_reads' HO574.out).2.2); (case side2 => exact (Kd.R_reads' HO574.out).2.1); rintro e w68 ⟨v577, rfl, ho0, hb⟩; refine ⟨_, rfl, ?_⟩; have n0_ := Aside0.mk (Kd.R_elder' (pR HO_5.out) (Kd.R_base ho0) hb); have n1_ := Aside0.mk (Kd.R_elder' (pR HO_15.out) (Kd.R_base ho0) hb); have n2_ := Aside0.mk (Kd.R_elder' (pR HO_17.out) (Kd.R_base ho0) hb); have n3_ := Aside0.mk (Kd.R_elder' (pR HO570.out) (Kd.R_base ho0) hb); have n4_ := Aside0.mk (Kd.R_elder' (pR HO574.out) (Kd.R_base ho0) hb); have n5_ := Aside0.mk (Kd.R_lower (Kd.R_new' (Kd.R_new' (Kd.R_new' (Kd.R_new' (Kd.R_new' ho0 (Kd.R_lt (pR HO_5.out))) (Kd.R_lt (pR HO_15.out))) (Kd.R_lt (pR HO_17.out))) (Kd.R_lt (pR HO570.out))) (Kd.R_lt (pR HO574.out))) (below_size (pB HB.out))); have n6_ := Aside0.mk (below_step (pB HB.out) hb); clear HO_5; clear HO_15; clear HO_17; clear HO570; clear HO574; clear HB; have HO_5 := n0_; have HO_15 := n1_; have HO_17 := n2_; have HO570 := n3_; have HO574 := n4_; have HO578 := n5_; have HB := n6_; clear n0_ n1_ n2_ n3_ n4_ n5_ n6_; (try clear hb); (try clear hb2); (try clear hk); (try clear hi); (try clear ho0)))
        go_ret
        exact ⟨by first | rfl | (simp [errW_none, errW_some] <;> rfl) | (simp [*, errW_none, errW_some] <;> rfl), pB HB.out⟩

/-- THE ONE PURE STATEMENT of laws_FnBlkSwap: yours. -/
def laws_FnBlkSwap.Pure : Prop := ∀ (l0 : List Int) (l1 : List Int), l0.length ≤ maxLen → l0.length * 1 ≤ 140737488351232 → (∀ x ∈ l0, (Lit.int .u8 x).wf = true) → l1.length ≤ maxLen → l1.length * 1 ≤ 140737488351232 → (∀ x ∈ l1, (Lit.int .u8 x).wf = true) → ∃ k, laws_FnBlkSwap.f k l0 l1 = some true
theorem laws_FnBlkSwap.walk (P : laws_FnBlkSwap.Pure) (a0 : Option Addr) (len0 cap0 : Nat) (z0 : List Int) (a1 : Option Addr) (len1 cap1 : Nat) (z1 : List Int) (w : World) (w0 : (a0 = none ∧ len0 = 0 ∧ cap0 = 0 ∧ z0 = []) ∨ ∃ x, a0 = some x ∧ len0 ≤ cap0 ∧ cap0 ≤ maxLen ∧ z0.length = cap0 ∧ (∀ i, i < z0.length → w.cell? (x.add i) = some (.int .u8 (z0.getD i 0))) ∧ ∀ n ∈ z0, (Lit.int .u8 n).wf = true) (y0 : len0 * 1 ≤ 140737488351232) (w1 : (a1 = none ∧ len1 = 0 ∧ cap1 = 0 ∧ z1 = []) ∨ ∃ x, a1 = some x ∧ len1 ≤ cap1 ∧ cap1 ≤ maxLen ∧ z1.length = cap1 ∧ (∀ i, i < z1.length → w.cell? (x.add i) = some (.int .u8 (z1.getD i 0))) ∧ ∀ n ∈ z1, (Lit.int .u8 n).wf = true) (y1 : len1 * 1 ≤ 140737488351232) :
  Calls Try.prog 9 #[.slice a0 len0 cap0, .slice a1 len1 cap1] w fun e w' => e = .returned (.bool true) ∧ Below w.heap.size w w' := by
 obtain ⟨l0, rfl, hr0, hm0, hw0, hc0⟩ := ReadsInt.ofRowC w0
 obtain ⟨l1, rfl, hr1, hm1, hw1, hc1⟩ := ReadsInt.ofRowC w1
 obtain ⟨k, h⟩ := P l0 l1 hm0 y0 hw0 hm1 y1 hw1
 refine (laws_FnBlkSwap.calls k _ _ l0 _ _ l1 true w (Kd.C_of_reads (d := (0 : Int)) (h1 := fun _ => rfl) hr0) hc0 (Kd.C_of_reads (d := (0 : Int)) (h1 := fun _ => rfl) hr1) hc1 h).mono ?_
 rintro e w' ⟨rfl, hd⟩
 exact ⟨rfl, hd⟩

end Go.Proofs.Ytdcdaclmicmiaaa.P
