-- printed by pprint.py (this session's program over the kit's printer) out of the translation. Lean checks it.
import Derived.Test.YtdcdaclmicmiaaaPx0
import Derived.Test.YtdcdaclmicmiaaaPx4
import Derived.Test.YtdcdaclmicmiaaaPx5
import Derived.Test.YtdcdaclmicmiaaaPx8
import Derived.Test.YtdcdaclmicmiaaaPx10
import Derived.Test.YtdcdaclmicmiaaaPx12
import Derived.Test.YtdcdaclmicmiaaaPx14
import Derived.Test.YtdcdaclmicmiaaaPx20
namespace Go.Proofs.Ytdcdaclmicmiaaa.P
open Go.RowKit Go.Proofs.YtdcdaclmicmiaaaX Go.Proofs.YtdcdaclmicmiaaaW.PrintWords Go.Proofs.YtdcdaclmicmiaaaW.PrintLast Go.Proofs.YtdcdaclmicmiaaaW.PrintMore
attribute [local go_sem] max2_int min2_int max_two min_two max_three min_three max_four min_four   -- for this text's walks alone
set_option linter.unusedVariables false
set_option linter.unusedSimpArgs false

/-! ### spec_DrawBlkDrop: function 41 -/
def spec_DrawBlkDrop.f (k : Nat) (l0 : List Int) : Option ((List (S55)) × Int) := (spec_l6Open.f l0).bind fun bt592 => ((spec_l72PiecesAny.f k bt592.1 bt592.2).bind fun bt595 => ((spec_l6Rd_pick.f k bt592.1 bt595.2 4).bind fun bt599 => (some (bt595.1, wrap64 (1 + bt599.1)))))
theorem spec_DrawBlkDrop.mono : ∀ a0 k, LeO (spec_DrawBlkDrop.f k a0) (spec_DrawBlkDrop.f (k + 1) a0) := by
 intro a0 k
 unfold spec_DrawBlkDrop.f
 repeat' first
   | (with_reducible exact spec_l6Rd_pick.mono _ _ _ _)
   | (with_reducible exact spec_l72PiecesAny.mono _ _ _)
   | (with_reducible exact LeO.refl _)
   | (with_reducible exact LeO.none _)
   | (with_reducible refine LeO.ite ?_ ?_)
   | (with_reducible refine LeO.bind ?_ (fun _ => ?_))
   | exact spec_l6Rd_pick.mono _ _ _ _
   | exact spec_l72PiecesAny.mono _ _ _
   | exact LeO.none _
   | refine LeO.ite ?_ ?_
   | refine LeO.bind ?_ (fun _ => ?_)
set_option maxHeartbeats 8000000 in
set_option maxRecDepth 100000 in
theorem spec_DrawBlkDrop.calls (k : Nat) (A0 : Option Addr) (c0 : Nat) (l0 : List Int) (r1 : List (S55)) (r2 : Int) (w : World) (hr0 : Kd.C (Kd.int .u8) w A0 l0.length l0) (hc0 : l0.length ≤ c0) (h : spec_DrawBlkDrop.f k l0 = some (r1, r2)) :
  Calls Try.prog 41 #[.slice A0 l0.length c0] w fun e w' => ∃ v0_ : Value, e = .returned (.tuple #[v0_, .int .i64 r2]) ∧ Kd.R k55 55 w' w.heap.size (fun _ => True) v0_ r1 ∧ Below w.heap.size w w' := by
 have HR0 := Aside0.mk hr0
 have HC0 := Aside0.mk hc0
 clear hr0 hc0
 have HB := Aside0.mk (Below.refl w.heap.size w)
 have H : ((spec_l6Open.f l0).bind fun bt592 => ((spec_l72PiecesAny.f k bt592.1 bt592.2).bind fun bt595 => ((spec_l6Rd_pick.f k bt592.1 bt595.2 4).bind fun bt599 => (some (bt595.1, wrap64 (1 + bt599.1)))))) = some (r1, r2) := h
 clear h
 replace H := Option.bind_eq_some_iff.mp H
 obtain ⟨⟨t592, t593⟩, A20, H⟩ := H
 replace H : ((spec_l72PiecesAny.f k t592 t593).bind fun bt595 => ((spec_l6Rd_pick.f k t592 bt595.2 4).bind fun bt599 => (some (bt595.1, wrap64 (1 + bt599.1))))) = some (r1, r2) := H
 have A2 := Aside0.mk A20
 clear A20
 replace H := Option.bind_eq_some_iff.mp H
 obtain ⟨⟨t595, t598⟩, A30, H⟩ := H
 replace H : ((spec_l6Rd_pick.f k t592 t598 4).bind fun bt599 => (some (t595, wrap64 (1 + bt599.1)))) = some (r1, r2) := H
 have A3 := Aside0.mk A30
 clear A30
 replace H := Option.bind_eq_some_iff.mp H
 obtain ⟨⟨t599, t600⟩, A40, H⟩ := H
 replace H : (some (t595, wrap64 (1 + t599))) = some (r1, r2) := H
 have A4 := Aside0.mk A40
 clear A40
 simp only [Option.some.injEq, Prod.mk.injEq] at H
 obtain ⟨rfl, rfl⟩ := H
 go_enter Try.func41, Try.ntmps41
 go_wp2_with (first | ((with_reducible refine gate_callee (f := 52) rfl ?_); refine goesL_ (some 6) rfl rfl Try.func52 (by kernel_rfl) rfl #[.slice A0 l0.length c0] rfl bM ?_; (with_reducible refine (spec_l6Open.calls _ _ l0 t592 t593 w _ ?side1 ?side2 ?side3 A2.out).mono ?_); (case side1 => repeat (first | (with_reducible first | exact HB.out | apply below_alloc | apply pw_below_drewN | apply below_drew1) | exact HB.out)); (case side2 => exact HR0.out); (case side3 => exact HC0.out); rintro e w5 ⟨g594, rfl, hi, hb, hb2⟩; refine ⟨_, rfl, ?_⟩; have n0_ := Aside0.mk (hb); have n1_ := Aside0.mk (hi); clear HB; have HB := n0_; have HI594 := n1_; clear n0_ n1_; (try clear hb); (try clear hb2); (try clear hk); (try clear hi)) | ((with_reducible refine gate_callee (f := 57) rfl ?_); refine goesL_ (some 8) rfl rfl Try.func57 (by kernel_rfl) rfl #[.pointer (some ⟨g594, 0, none⟩)] rfl bM ?_; (with_reducible refine (spec_l72PiecesAny.calls k g594 t592 t593 t595 t598 w _ ?side1 ?side2 A3.out).mono ?_); (case side1 => repeat (first | (with_reducible first | exact HI594.out | apply IsS80.alloc | apply IsS80.drewN | apply IsS80.drew | apply IsS80.set_1) | exact HI594.out)); (case side2 => repeat (first | (with_reducible first | exact HB.out | apply below_alloc | apply pw_below_drewN | apply below_drew1 | refine below_set ?_ (IsS80.ge HI594.out)) | exact HB.out)); rintro e w6 ⟨v596, rfl, ho0, hi, hb, hk⟩; refine ⟨_, rfl, ?_⟩; have n0_ := Aside0.mk (Kd.R_lower ho0 (below_size (by repeat (first | (with_reducible first | exact HB.out | apply below_alloc | apply pw_below_drewN | apply below_drew1 | refine below_set ?_ (IsS80.ge HI594.out)) | exact HB.out)))); have n1_ := Aside0.mk (hb); have n2_ := Aside0.mk (hi); clear HB; clear HI594; have HO597 := n0_; have HB := n1_; have HI594 := n2_; clear n0_ n1_ n2_; (try clear hb); (try clear hb2); (try clear hk); (try clear hi); (try clear ho0)) | ((with_reducible refine gate_callee (f := 54) rfl ?_); refine goesL_ (some 10) rfl rfl Try.func54 (by kernel_rfl) rfl #[.pointer (some ⟨g594, 0, none⟩), .int .i64 4] rfl bM ?_; (with_reducible refine (spec_l6Rd_pick.calls k g594 t592 t598 4 t599 t600 w _ ?side1 ?side2 A4.out).mono ?_); (case side1 => repeat (first | (with_reducible first | exact HI594.out | apply IsS80.alloc | apply IsS80.drewN | apply IsS80.drew | apply IsS80.set_1) | exact HI594.out)); (case side2 => repeat (first | (with_reducible first | exact HB.out | apply below_alloc | apply pw_below_drewN | apply below_drew1 | refine below_set ?_ (IsS80.ge HI594.out)) | exact HB.out)); rintro e w7 ⟨rfl, hi, hb, hk⟩; refine ⟨_, rfl, ?_⟩; have n0_ := Aside0.mk (Kd.R_mono (Kd.R_keep (IsS80.apart (show IsS80 w _ g594 t592 t598 from by repeat (first | (with_reducible first | exact HI594.out | apply IsS80.alloc | apply IsS80.drewN | apply IsS80.drew | apply IsS80.set_1) | exact HI594.out)) (pR HO597.out) (by decide)) hk (fun _ h => h.2)) (fun _ h => h.1)); have n1_ := Aside0.mk (hb); have n2_ := Aside0.mk (hi); clear HO597; clear HB; clear HI594; have HO597 := n0_; have HB := n1_; have HI594 := n2_; clear n0_ n1_ n2_; (try clear hb); (try clear hb2); (try clear hk); (try clear hi)))
 go_ret2
 exact ⟨_, by first | rfl | (simp [errW_none, errW_some] <;> rfl) | (simp [*, errW_none, errW_some] <;> rfl), pR HO597.out, by repeat (first | (with_reducible first | exact HB.out | apply below_alloc | apply pw_below_drewN | apply below_drew1 | refine below_set ?_ (IsS80.ge HI594.out)) | exact HB.out)⟩

/-! ### laws_FnBlkDrop: function 11 -/
mutual
def laws_FnBlkDrop.j0 : Nat → List (S55) → Int → List (S55) → List (S55) → Bool → Option (Bool)
 | 0, _, _, _, _, _ => none
 | k + 1, x3, x4, x5, x7, x35 => if x35 = true then ((laws_lpPieces.f k x7 x5).bind fun t613 => (some t613)) else (laws_FnBlkDrop.l0 k x3 x4 x7 0)
def laws_FnBlkDrop.l0 : Nat → List (S55) → Int → List (S55) → Int → Option (Bool)
 | 0, _, _, _, _ => none
 | k + 1, x3, x4, x7, x8 => if x8 < (x3.length : Int) then (if 0 ≤ x8 then ((impl_BlkGet.f k x7 ((rd_T55 x3 x8).f0) ((rd_T55 x3 x8).f1) ((rd_T55 x3 x8).f2)).bind fun t616 => (if ((rd_T55 x3 x8).f0) = x4 then (if t616 = 0 then (laws_FnBlkDrop.l0 k x3 x4 x7 (wrap64 (x8 + 1))) else (some false)) else (if t616 = ((rd_T55 x3 x8).f3) then (laws_FnBlkDrop.l0 k x3 x4 x7 (wrap64 (x8 + 1))) else (some false)))) else (none)) else (laws_FnBlkDrop.l1 k x4 x7 0)
def laws_FnBlkDrop.l1 : Nat → Int → List (S55) → Int → Option (Bool)
 | 0, _, _, _ => none
 | k + 1, x4, x7, x11 => if x11 < (x7.length : Int) then (if 0 ≤ x11 then (if ((rd_T55 x7 x11).f0) = x4 then (some false) else (laws_FnBlkDrop.l1 k x4 x7 (wrap64 (x11 + 1)))) else (none)) else ((impl_BlkOk.f k x7).bind fun t618 => (some t618))
end
def laws_FnBlkDrop.f (k : Nat) (l0 : List Int) : Option (Bool) := if (l0.length : Int) > 1048576 then (some true) else ((spec_DrawBlkDrop.f k l0).bind fun bt601 => ((spec_BlkDrop.f k bt601.1 bt601.2).bind fun t605 => ((spec_BlkOk.f k bt601.1).bind fun t608 => ((impl_BlkDrop.f k bt601.1 bt601.2).bind fun t609 => ((laws_lpPieces.f k t609 t605).bind fun t612 => (if t612 = true then (laws_FnBlkDrop.j0 k bt601.1 bt601.2 t605 t609 (!t608)) else (laws_FnBlkDrop.j0 k bt601.1 bt601.2 t605 t609 true)))))))
theorem laws_FnBlkDrop.mono_l : ∀ k, (∀ y0 y1 y2 y3 y4, LeO (laws_FnBlkDrop.j0 k y0 y1 y2 y3 y4) (laws_FnBlkDrop.j0 (k + 1) y0 y1 y2 y3 y4)) ∧ (∀ y0 y1 y2 y3, LeO (laws_FnBlkDrop.l0 k y0 y1 y2 y3) (laws_FnBlkDrop.l0 (k + 1) y0 y1 y2 y3)) ∧ (∀ y0 y1 y2, LeO (laws_FnBlkDrop.l1 k y0 y1 y2) (laws_FnBlkDrop.l1 (k + 1) y0 y1 y2))
 | 0 => ⟨fun _ _ _ _ _ r h => by simp [laws_FnBlkDrop.j0] at h, fun _ _ _ _ r h => by simp [laws_FnBlkDrop.l0] at h, fun _ _ _ r h => by simp [laws_FnBlkDrop.l1] at h⟩
 | k + 1 => by
  obtain ⟨ih0, ih1, ih2⟩ := laws_FnBlkDrop.mono_l k
  refine ⟨?_, ?_, ?_⟩
  ·intro y0 y1 y2 y3 y4
   unfold laws_FnBlkDrop.j0
   repeat' first
   | (with_reducible exact ih0 _ _ _ _ _)
   | (with_reducible exact ih1 _ _ _ _)
   | (with_reducible exact ih2 _ _ _)
   | (with_reducible exact impl_BlkDrop.mono _ _ _)
   | (with_reducible exact impl_BlkGet.mono _ _ _ _ _)
   | (with_reducible exact impl_BlkOk.mono _ _)
   | (with_reducible exact laws_lpPieces.mono _ _ _)
   | (with_reducible exact spec_BlkDrop.mono _ _ _)
   | (with_reducible exact spec_BlkOk.mono _ _)
   | (with_reducible exact spec_DrawBlkDrop.mono _ _)
   | (with_reducible exact LeO.refl _)
   | (with_reducible exact LeO.none _)
   | (with_reducible refine LeO.ite ?_ ?_)
   | (with_reducible refine LeO.bind ?_ (fun _ => ?_))
   | exact ih0 _ _ _ _ _
   | exact ih1 _ _ _ _
   | exact ih2 _ _ _
   | exact impl_BlkDrop.mono _ _ _
   | exact impl_BlkGet.mono _ _ _ _ _
   | exact impl_BlkOk.mono _ _
   | exact laws_lpPieces.mono _ _ _
   | exact spec_BlkDrop.mono _ _ _
   | exact spec_BlkOk.mono _ _
   | exact spec_DrawBlkDrop.mono _ _
   | exact LeO.none _
   | refine LeO.ite ?_ ?_
   | refine LeO.bind ?_ (fun _ => ?_)
  ·intro y0 y1 y2 y3
   unfold laws_FnBlkDrop.l0
   repeat' first
   | (with_reducible exact ih0 _ _ _ _ _)
   | (with_reducible exact ih1 _ _ _ _)
   | (with_reducible exact ih2 _ _ _)
   | (with_reducible exact impl_BlkDrop.mono _ _ _)
   | (with_reducible exact impl_BlkGet.mono _ _ _ _ _)
   | (with_reducible exact impl_BlkOk.mono _ _)
   | (with_reducible exact laws_lpPieces.mono _ _ _)
   | (with_reducible exact spec_BlkDrop.mono _ _ _)
   | (with_reducible exact spec_BlkOk.mono _ _)
   | (with_reducible exact spec_DrawBlkDrop.mono _ _)
   | (with_reducible exact LeO.refl _)
   | (with_reducible exact LeO.none _)
   | (with_reducible refine LeO.ite ?_ ?_)
   | (with_reducible refine LeO.bind ?_ (fun _ => ?_))
   | exact ih0 _ _ _ _ _
   | exact ih1 _ _ _ _
   | exact ih2 _ _ _
   | exact impl_BlkDrop.mono _ _ _
   | exact impl_BlkGet.mono _ _ _ _ _
   | exact impl_BlkOk.mono _ _
   | exact laws_lpPieces.mono _ _ _
   | exact spec_BlkDrop.mono _ _ _
   | exact spec_BlkOk.mono _ _
   | exact spec_DrawBlkDrop.mono _ _
   | exact LeO.none _
   | refine LeO.ite ?_ ?_
   | refine LeO.bind ?_ (fun _ => ?_)
  ·intro y0 y1 y2
   unfold laws_FnBlkDrop.l1
   repeat' first
   | (with_reducible exact ih0 _ _ _ _ _)
   | (with_reducible exact ih1 _ _ _ _)
   | (with_reducible exact ih2 _ _ _)
   | (with_reducible exact impl_BlkDrop.mono _ _ _)
   | (with_reducible exact impl_BlkGet.mono _ _ _ _ _)
   | (with_reducible exact impl_BlkOk.mono _ _)
   | (with_reducible exact laws_lpPieces.mono _ _ _)
   | (with_reducible exact spec_BlkDrop.mono _ _ _)
   | (with_reducible exact spec_BlkOk.mono _ _)
   | (with_reducible exact spec_DrawBlkDrop.mono _ _)
   | (with_reducible exact LeO.refl _)
   | (with_reducible exact LeO.none _)
   | (with_reducible refine LeO.ite ?_ ?_)
   | (with_reducible refine LeO.bind ?_ (fun _ => ?_))
   | exact ih0 _ _ _ _ _
   | exact ih1 _ _ _ _
   | exact ih2 _ _ _
   | exact impl_BlkDrop.mono _ _ _
   | exact impl_BlkGet.mono _ _ _ _ _
   | exact impl_BlkOk.mono _ _
   | exact laws_lpPieces.mono _ _ _
   | exact spec_BlkDrop.mono _ _ _
   | exact spec_BlkOk.mono _ _
   | exact spec_DrawBlkDrop.mono _ _
   | exact LeO.none _
   | refine LeO.ite ?_ ?_
   | refine LeO.bind ?_ (fun _ => ?_)
theorem laws_FnBlkDrop.mono : ∀ a0 k, LeO (laws_FnBlkDrop.f k a0) (laws_FnBlkDrop.f (k + 1) a0) := by
 intro a0 k
 obtain ⟨ih0, ih1, ih2⟩ := laws_FnBlkDrop.mono_l k
 unfold laws_FnBlkDrop.f
 repeat' first
   | (with_reducible exact ih0 _ _ _ _ _)
   | (with_reducible exact ih1 _ _ _ _)
   | (with_reducible exact ih2 _ _ _)
   | (with_reducible exact impl_BlkDrop.mono _ _ _)
   | (with_reducible exact impl_BlkGet.mono _ _ _ _ _)
   | (with_reducible exact impl_BlkOk.mono _ _)
   | (with_reducible exact laws_lpPieces.mono _ _ _)
   | (with_reducible exact spec_BlkDrop.mono _ _ _)
   | (with_reducible exact spec_BlkOk.mono _ _)
   | (with_reducible exact spec_DrawBlkDrop.mono _ _)
   | (with_reducible exact LeO.refl _)
   | (with_reducible exact LeO.none _)
   | (with_reducible refine LeO.ite ?_ ?_)
   | (with_reducible refine LeO.bind ?_ (fun _ => ?_))
   | exact ih0 _ _ _ _ _
   | exact ih1 _ _ _ _
   | exact ih2 _ _ _
   | exact impl_BlkDrop.mono _ _ _
   | exact impl_BlkGet.mono _ _ _ _ _
   | exact impl_BlkOk.mono _ _
   | exact laws_lpPieces.mono _ _ _
   | exact spec_BlkDrop.mono _ _ _
   | exact spec_BlkOk.mono _ _
   | exact spec_DrawBlkDrop.mono _ _
   | exact LeO.none _
   | refine LeO.ite ?_ ?_
   | refine LeO.bind ?_ (fun _ => ?_)
set_option maxHeartbeats 8000000 in
set_option maxRecDepth 100000 in
theorem laws_FnBlkDrop.calls (k : Nat) (A0 : Option Addr) (c0 : Nat) (l0 : List Int) (r : Bool) (w : World) (hr0 : Kd.C (Kd.int .u8) w A0 l0.length l0) (hc0 : l0.length ≤ c0) (h : laws_FnBlkDrop.f k l0 = some r) :
  Calls Try.prog 11 #[.slice A0 l0.length c0] w fun e w' => e = .returned (.bool r) ∧ Below w.heap.size w w' := by
 have hu55 := Try.underlying55
 have HR0 := Aside0.mk hr0
 have HC0 := Aside0.mk hc0
 clear hr0 hc0
 have HB := Aside0.mk (Below.refl w.heap.size w)
 have H : (if (l0.length : Int) > 1048576 then (some true) else ((spec_DrawBlkDrop.f k l0).bind fun bt601 => ((spec_BlkDrop.f k bt601.1 bt601.2).bind fun t605 => ((spec_BlkOk.f k bt601.1).bind fun t608 => ((impl_BlkDrop.f k bt601.1 bt601.2).bind fun t609 => ((laws_lpPieces.f k t609 t605).bind fun t612 => (if t612 = true then (laws_FnBlkDrop.j0 k bt601.1 bt601.2 t605 t609 (!t608)) else (laws_FnBlkDrop.j0 k bt601.1 bt601.2 t605 t609 true)))))))) = some r := h
 clear h
 by_cases c2 : (l0.length : Int) > 1048576
 ·rw [if_pos c2] at H
  have c2b0 : decide (1048576 < (l0.length : Int)) = true := decide_eq_true c2
  have c2b1 : decide (1048576 < l0.length) = true := decide_eq_true (by omega)
  clear c2
  obtain rfl := Option.some.inj H
  go_enter Try.func11, Try.ntmps11
  go_wp2
  go_ret
  exact ⟨by first | rfl | (simp [errW_none, errW_some] <;> rfl) | (simp [*, errW_none, errW_some] <;> rfl), pB HB.out⟩
 ·rw [if_neg c2] at H
  have c2b0 : decide (1048576 < (l0.length : Int)) = false := decide_eq_false c2
  have c2b1 : decide (1048576 < l0.length) = false := decide_eq_false (by omega)
  clear c2
  replace H := Option.bind_eq_some_iff.mp H
  obtain ⟨⟨t601, t602⟩, A30, H⟩ := H
  replace H : ((spec_BlkDrop.f k t601 t602).bind fun t605 => ((spec_BlkOk.f k t601).bind fun t608 => ((impl_BlkDrop.f k t601 t602).bind fun t609 => ((laws_lpPieces.f k t609 t605).bind fun t612 => (if t612 = true then (laws_FnBlkDrop.j0 k t601 t602 t605 t609 (!t608)) else (laws_FnBlkDrop.j0 k t601 t602 t605 t609 true)))))) = some r := H
  have A3 := Aside0.mk A30
  clear A30
  replace H := Option.bind_eq_some_iff.mp H
  obtain ⟨t605, A40, H⟩ := H
  replace H : ((spec_BlkOk.f k t601).bind fun t608 => ((impl_BlkDrop.f k t601 t602).bind fun t609 => ((laws_lpPieces.f k t609 t605).bind fun t612 => (if t612 = true then (laws_FnBlkDrop.j0 k t601 t602 t605 t609 (!t608)) else (laws_FnBlkDrop.j0 k t601 t602 t605 t609 true))))) = some r := H
  have A4 := Aside0.mk A40
  clear A40
  replace H := Option.bind_eq_some_iff.mp H
  obtain ⟨t608, A50, H⟩ := H
  replace H : ((impl_BlkDrop.f k t601 t602).bind fun t609 => ((laws_lpPieces.f k t609 t605).bind fun t612 => (if t612 = true then (laws_FnBlkDrop.j0 k t601 t602 t605 t609 (!t608)) else (laws_FnBlkDrop.j0 k t601 t602 t605 t609 true)))) = some r := H
  have A5 := Aside0.mk A50
  clear A50
  replace H := Option.bind_eq_some_iff.mp H
  obtain ⟨t609, A60, H⟩ := H
  replace H : ((laws_lpPieces.f k t609 t605).bind fun t612 => (if t612 = true then (laws_FnBlkDrop.j0 k t601 t602 t605 t609 (!t608)) else (laws_FnBlkDrop.j0 k t601 t602 t605 t609 true))) = some r := H
  have A6 := Aside0.mk A60
  clear A60
  have HC7 := Aside0.mk H
  clear H
  go_enter Try.func11, Try.ntmps11
  go_upto_region 7 with (first | ((with_reducible refine gate_callee (f := 41) rfl ?_); refine goesL_ (some 17) rfl rfl Try.func41 (by kernel_rfl) rfl #[.slice A0 l0.length c0] rfl bM ?_; (with_reducible refine (spec_DrawBlkDrop.calls k _ _ l0 t601 t602 _ ?side1 ?side2 A3.out).mono ?_); (case side1 => exact pC HR0.out); (case side2 => exact HC0.out); rintro e w8 ⟨v603, rfl, ho0, hb⟩; refine ⟨_, rfl, ?_⟩; have n0_ := Aside0.mk (Kd.R_lower ho0 (below_size (pB HB.out))); have n1_ := Aside0.mk (below_step (pB HB.out) hb); clear HB; have HO604 := n0_; have HB := n1_; clear n0_ n1_; (try clear hb); (try clear hb2); (try clear hk); (try clear hi); (try clear ho0); obtain ⟨Ao9, co9, eo9⟩ := Kd.R_slice HO604.out; subst eo9) | ((with_reducible refine gate_callee (f := 33) rfl ?_); refine goesL_ (some 22) rfl rfl Try.func33 (by kernel_rfl) rfl #[.slice Ao9 t601.length co9, .int .i64 t602] rfl bM ?_; (with_reducible refine (spec_BlkDrop.calls k _ _ t601 t602 t605 _ ?side1 ?side2 A4.out).mono ?_); (case side1 => exact pC (Kd.R_reads' HO604.out).2.2); (case side2 => exact (Kd.R_reads' HO604.out).2.1); rintro e w10 ⟨v606, rfl, ho0, hb⟩; refine ⟨_, rfl, ?_⟩; have n0_ := Aside0.mk (Kd.R_elder' (pR HO604.out) (Kd.R_base ho0) hb); have n1_ := Aside0.mk (Kd.R_lower (Kd.R_new' ho0 (Kd.R_lt (pR HO604.out))) (below_size (pB HB.out))); have n2_ := Aside0.mk (below_step (pB HB.out) hb); clear HO604; clear HB; have HO604 := n0_; have HO607 := n1_; have HB := n2_; clear n0_ n1_ n2_; (try clear hb); (try clear hb2); (try clear hk); (try clear hi); (try clear ho0)) | ((with_reducible refine gate_callee (f := 21) rfl ?_); refine goesL_ (some 24) rfl rfl Try.func21 (by kernel_rfl) rfl #[.slice Ao9 t601.length co9] rfl bM ?_; (with_reducible refine (spec_BlkOk.calls k _ _ t601 t608 _ ?side1 ?side2 A5.out).mono ?_); (case side1 => exact pC (Kd.R_reads' HO604.out).2.2); (case side2 => exact (Kd.R_reads' HO604.out).2.1); rintro e w11 ⟨rfl, hb⟩; refine ⟨_, rfl, ?_⟩; have n0_ := Aside0.mk (Kd.R_below (pR HO604.out) hb); have n1_ := Aside0.mk (Kd.R_below (pR HO607.out) hb); have n2_ := Aside0.mk (below_step (pB HB.out) hb); clear HO604; clear HO607; clear HB; have HO604 := n0_; have HO607 := n1_; have HB := n2_; clear n0_ n1_ n2_; (try clear hb); (try clear hb2); (try clear hk); (try clear hi)) | ((with_reducible refine gate_callee (f := 34) rfl ?_); refine goesL_ (some 27) rfl rfl Try.func34 (by kernel_rfl) rfl #[.slice Ao9 t601.length co9, .int .i64 t602] rfl bM ?_; (with_reducible refine (impl_BlkDrop.calls k _ _ t601 t602 t609 _ ?side1 ?side2 A6.out).mono ?_); (case side1 => exact pC (Kd.R_reads' HO604.out).2.2); (case side2 => exact (Kd.R_reads' HO604.out).2.1); rintro e w12 ⟨v610, rfl, ho0, hb⟩; refine ⟨_, rfl, ?_⟩; have n0_ := Aside0.mk (Kd.R_elder' (pR HO604.out) (Kd.R_base ho0) hb); have n1_ := Aside0.mk (Kd.R_elder' (pR HO607.out) (Kd.R_base ho0) hb); have n2_ := Aside0.mk (Kd.R_lower (Kd.R_new' (Kd.R_new' ho0 (Kd.R_lt (pR HO604.out))) (Kd.R_lt (pR HO607.out))) (below_size (pB HB.out))); have n3_ := Aside0.mk (below_step (pB HB.out) hb); clear HO604; clear HO607; clear HB; have HO604 := n0_; have HO607 := n1_; have HO611 := n2_; have HB := n3_; clear n0_ n1_ n2_ n3_; (try clear hb); (try clear hb2); (try clear hk); (try clear hi); (try clear ho0)))
  (try simp only [Act.put, List.setIfInBounds_toArray, List.set_cons_zero, List.set_cons_succ])
  go_cut [35] (fun v35 wc => ∃ (kq : Nat) (x35_6 : Bool), v35 = .bool x35_6 ∧ Aside0 (laws_FnBlkDrop.j0 kq t601 t602 t605 t609 x35_6 = some r) ∧ Aside0 (kq ≤ k) ∧ Aside0 (Kd.R k55 55 wc w.heap.size (fun k_ => some k_ ≠ (v606 : Value).ownBlock ∧ some k_ ≠ (v610 : Value).ownBlock) (.slice Ao9 t601.length co9) t601) ∧ Aside0 (Kd.R k55 55 wc w.heap.size (fun k_ => some k_ ≠ ((.slice Ao9 t601.length co9) : Value).ownBlock ∧ some k_ ≠ (v610 : Value).ownBlock) v606 t605) ∧ Aside0 (Kd.R k55 55 wc w.heap.size (fun k_ => some k_ ≠ ((.slice Ao9 t601.length co9) : Value).ownBlock ∧ some k_ ≠ (v606 : Value).ownBlock) v610 t609) ∧ Aside0 (Below w.heap.size w wc))
  case first =>
   have H := HC7.out
   clear HC7
   replace H := Option.bind_eq_some_iff.mp H
   obtain ⟨t612, A130, H⟩ := H
   replace H : (if t612 = true then (laws_FnBlkDrop.j0 k t601 t602 t605 t609 (!t608)) else (laws_FnBlkDrop.j0 k t601 t602 t605 t609 true)) = some r := H
   have A13 := Aside0.mk A130
   clear A130
   by_cases c14 : t612 = true
   ·subst c14
    have H1 : (laws_FnBlkDrop.j0 k t601 t602 t605 t609 (!t608)) = some r := by rw [if_pos rfl] at H; exact H
    clear H
    have H := H1
    clear H1
    have H' := Aside0.mk H
    clear H
    obtain ⟨Ao15, co15, eo15⟩ := Kd.R_slice HO611.out
    subst eo15
    obtain ⟨Ao16, co16, eo16⟩ := Kd.R_slice HO607.out
    subst eo16
    go_wp2_with (first | ((with_reducible refine gate_callee (f := 40) rfl ?_); refine goesL_ (some 30) rfl rfl Try.func40 (by kernel_rfl) rfl #[.slice Ao15 t609.length co15, .slice Ao16 t605.length co16] rfl bM ?_; (with_reducible refine (laws_lpPieces.calls k _ _ t609 _ _ t605 true _ ?side1 ?side2 ?side3 ?side4 A13.out).mono ?_); (case side1 => exact pC (Kd.R_reads' HO611.out).2.2); (case side2 => exact (Kd.R_reads' HO611.out).2.1); (case side3 => exact pC (Kd.R_reads' HO607.out).2.2); (case side4 => exact (Kd.R_reads' HO607.out).2.1); rintro e w' ⟨rfl, ⟨nd, rfl⟩⟩; refine ⟨_, rfl, ?_⟩))
    go_meet
    case rel => exact ⟨_, (!t608), (by first | rfl | (simp; done) | (simp [*]; done)), H', ⟨by first | omega | exact Nat.le_refl _⟩, ⟨pR (Kd.R_mono HO604.out (fun _ hk => ⟨hk.1.2, hk.2⟩))⟩, ⟨pR (Kd.R_mono HO607.out (fun _ hk => ⟨hk.1.2, hk.2⟩))⟩, ⟨pR (Kd.R_mono HO611.out (fun _ hk => ⟨hk.1.2, hk.2⟩))⟩, ⟨pB HB.out⟩⟩
   ·replace c14 := Bool.eq_false_iff.mpr c14
    subst c14
    have H1 : (laws_FnBlkDrop.j0 k t601 t602 t605 t609 true) = some r := by rw [if_neg (show ¬ (false = true) by decide)] at H; exact H
    clear H
    have H := H1
    clear H1
    have H' := Aside0.mk H
    clear H
    obtain ⟨Ao17, co17, eo17⟩ := Kd.R_slice HO611.out
    subst eo17
    obtain ⟨Ao18, co18, eo18⟩ := Kd.R_slice HO607.out
    subst eo18
    go_wp2_with (first | ((with_reducible refine gate_callee (f := 40) rfl ?_); refine goesL_ (some 30) rfl rfl Try.func40 (by kernel_rfl) rfl #[.slice Ao17 t609.length co17, .slice Ao18 t605.length co18] rfl bM ?_; (with_reducible refine (laws_lpPieces.calls k _ _ t609 _ _ t605 false _ ?side1 ?side2 ?side3 ?side4 A13.out).mono ?_); (case side1 => exact pC (Kd.R_reads' HO611.out).2.2); (case side2 => exact (Kd.R_reads' HO611.out).2.1); (case side3 => exact pC (Kd.R_reads' HO607.out).2.2); (case side4 => exact (Kd.R_reads' HO607.out).2.1); rintro e w' ⟨rfl, ⟨nd, rfl⟩⟩; refine ⟨_, rfl, ?_⟩))
    go_meet
    case rel => exact ⟨_, (true), (by first | rfl | (simp; done) | (simp [*]; done)), H', ⟨by first | omega | exact Nat.le_refl _⟩, ⟨pR (Kd.R_mono HO604.out (fun _ hk => ⟨hk.1.2, hk.2⟩))⟩, ⟨pR (Kd.R_mono HO607.out (fun _ hk => ⟨hk.1.2, hk.2⟩))⟩, ⟨pR (Kd.R_mono HO611.out (fun _ hk => ⟨hk.1.2, hk.2⟩))⟩, ⟨pB HB.out⟩⟩
  case rest =>
   clear HC7
   try clear c1
   try clear c2
   try clear c2b0
   try clear c2b1
   try clear p2
   try clear c3
   try clear c4
   try clear c11
   try clear c14
   obtain ⟨kq, x35_6, rfl, HA, HJ6, HO_3, HO_5, HO_7, HB⟩ := hcut
   cases kq with
   | zero => exact absurd HA.out (by simp [laws_FnBlkDrop.j0])
   | succ kj6 =>
    have H := HA.out
    clear HA
    simp only [laws_FnBlkDrop.j0] at H
    by_cases c19 : x35_6 = true
    ·subst c19
     have H1 : ((laws_lpPieces.f kj6 t609 t605).bind fun t613 => (some t613)) = some r := by rw [if_pos rfl] at H; exact H
     clear H
     have H := H1
     clear H1
     replace H := Option.bind_eq_some_iff.mp H
     obtain ⟨t613, A200, H⟩ := H
     replace H : (some t613) = some r := H
     have A20 := Aside0.mk A200
     clear A200
     obtain rfl := Option.some.inj H
     obtain ⟨Ao21, co21, eo21⟩ := Kd.R_slice HO_7.out
     subst eo21
     obtain ⟨Ao22, co22, eo22⟩ := Kd.R_slice HO_5.out
     subst eo22
     go_wp2_with (first | ((with_reducible refine gate_callee (f := 40) rfl ?_); refine goesL_ (some 38) rfl rfl Try.func40 (by kernel_rfl) rfl #[.slice Ao21 t609.length co21, .slice Ao22 t605.length co22] rfl bM ?_; (with_reducible refine (laws_lpPieces.calls kj6 _ _ t609 _ _ t605 t613 _ ?side1 ?side2 ?side3 ?side4 A20.out).mono ?_); (case side1 => exact pC (Kd.R_reads' HO_7.out).2.2); (case side2 => exact (Kd.R_reads' HO_7.out).2.1); (case side3 => exact pC (Kd.R_reads' HO_5.out).2.2); (case side4 => exact (Kd.R_reads' HO_5.out).2.1); rintro e w' ⟨rfl, ⟨nd, rfl⟩⟩; refine ⟨_, rfl, ?_⟩))
     go_ret
     exact ⟨by first | rfl | (simp [errW_none, errW_some] <;> rfl) | (simp [*, errW_none, errW_some] <;> rfl), pB HB.out⟩
    ·replace c19 := Bool.eq_false_iff.mpr c19
     subst c19
     have H1 : (laws_FnBlkDrop.l0 kj6 t601 t602 t609 0) = some r := by rw [if_neg (show ¬ (false = true) by decide)] at H; exact H
     clear H
     have H := H1
     clear H1
     have H' := Aside0.mk H
     clear H
     go_wp2
     go_loopg [8] kj6 (fun kq v8 w' => ∃ (x8_2 : Int), v8 = .int .i64 x8_2 ∧ Aside0 (laws_FnBlkDrop.l0 kq t601 t602 t609 x8_2 = some r) ∧ Aside0 (kq ≤ kj6) ∧ Aside0 (Kd.R k55 55 w' w.heap.size (fun k_ => some k_ ≠ (v610 : Value).ownBlock) (.slice Ao9 t601.length co9) t601) ∧ Aside0 (Kd.R k55 55 w' w.heap.size (fun k_ => some k_ ≠ ((.slice Ao9 t601.length co9) : Value).ownBlock) v610 t609) ∧ Aside0 (Below w.heap.size w w'))
     case atStart => exact ⟨(0), (by first | rfl | (simp; done) | (simp [*]; done)), H', ⟨Nat.le_refl _⟩, ⟨pR (Kd.R_mono HO_3.out (fun _ hk => hk.2))⟩, ⟨pR (Kd.R_mono HO_7.out (fun _ hk => hk.1))⟩, ⟨pB HB.out⟩⟩
     case round =>
      clear H'
      try clear c1
      try clear c2
      try clear c2b0
      try clear c2b1
      try clear p2
      try clear c3
      try clear c4
      try clear c11
      try clear c14
      try clear c19
      try clear c21
      try clear p2
      obtain ⟨x8_2, rfl, HA, HK2, HO_3, HO_7, HB⟩ := hrel
      cases gk with
      | zero => exact absurd HA.out (by simp [laws_FnBlkDrop.l0])
      | succ k2 =>
       have H := HA.out
       clear HA
       simp only [laws_FnBlkDrop.l0] at H
       by_cases c23 : x8_2 < (t601.length : Int)
       ·rw [if_pos c23] at H
        have c23b0 : decide (x8_2 < (t601.length : Int)) = true := decide_eq_true c23
        clear c23
        by_cases c24 : 0 ≤ x8_2
        ·rw [if_pos c24] at H
         have c24b0 : decide (0 ≤ x8_2) = true := decide_eq_true c24
         clear c24
         replace H := Option.bind_eq_some_iff.mp H
         obtain ⟨t616, A250, H⟩ := H
         replace H : (if ((rd_T55 t601 x8_2).f0) = t602 then (if t616 = 0 then (laws_FnBlkDrop.l0 k2 t601 t602 t609 (wrap64 (x8_2 + 1))) else (some false)) else (if t616 = ((rd_T55 t601 x8_2).f3) then (laws_FnBlkDrop.l0 k2 t601 t602 t609 (wrap64 (x8_2 + 1))) else (some false))) = some r := H
         have A25 := Aside0.mk A250
         clear A250
         by_cases c26 : ((rd_T55 t601 x8_2).f0) = t602
         ·rw [if_pos c26] at H
          have c26b0 : (((rd_T55 t601 x8_2).f0) == t602) = true := beq_iff_eq.mpr c26
          have c26b1 : (((rd_T55 t601 x8_2).f0) != t602) = false := bne_eq_false_iff_eq.mpr c26
          clear c26
          by_cases c27 : t616 = 0
          ·rw [if_pos c27] at H
           have c27b0 : (t616 == 0) = true := beq_iff_eq.mpr c27
           have c27b1 : (t616 != 0) = false := bne_eq_false_iff_eq.mpr c27
           clear c27
           have H' := Aside0.mk H
           clear H
           have p614 : 0 ≤ (x8_2 : Int) := of_decide_eq_true bA
           have q614 : x8_2 < (t601.length : Int) := of_decide_eq_true bA
           obtain ⟨ad614, e614, hx614_0, hx614_1, hx614_2, hx614_3⟩ := at_T55 (Kd.R_reads' HO_3.out).2.2 x8_2 p614 q614
           cases e614
           replace p614 := eq_true p614
           replace q614 := eq_true q614
           go_wp2_with (first | ((with_reducible refine gate_dst (N := 9) rfl ?_); refine box_event ?hg (N := 9) ?hd (cs := #[.int .i64 0, .int .i64 0, .int .i64 0, .int .i64 0]) (t := 55) ?hr ?_; (case hd => rfl); (case hg => rfl); (case hr => first | (go_simp; done) | (go_simp; rfl)); intro gb615 hg w28 hbox hb; have n0_ := Aside0.mk (Kd.R_below (Kd.R_elderB (pR HO_3.out) gb615 (Nat.le_of_eq hg.symm)) hb); have n1_ := Aside0.mk (Kd.R_below (Kd.R_elderB (pR HO_7.out) gb615 (Nat.le_of_eq hg.symm)) hb); have n2_ := Aside0.mk (below_step (pB HB.out) hb); have n3_ := Aside0.mk (hbox); have n4_ := Aside0.mk ((by rw [hg]; exact (below_size (pB HB.out)) : w.heap.size ≤ gb615)); have n5_ := Aside0.mk ((by rw [hg]; exact (below_size (pB HB.out)) : w.heap.size ≤ gb615)); clear HO_3; clear HO_7; clear HB; have HO_3 := n0_; have HO_7 := n1_; have HB := n2_; have BK615 := n3_; have GW615 := n4_; have GE615 := n5_; clear n0_ n1_ n2_ n3_ n4_ n5_; clear hb hbox hg; have hcz29_0 : w28.cell? ⟨gb615, 0, none⟩ = some (.int .i64 0) := (blk_cell BK615.out 0).trans rfl; have hcz29_1 : w28.cell? ⟨gb615, 1, none⟩ = some (.int .i64 0) := (blk_cell BK615.out 1).trans rfl; have hcz29_2 : w28.cell? ⟨gb615, 2, none⟩ = some (.int .i64 0) := (blk_cell BK615.out 2).trans rfl; have hcz29_3 : w28.cell? ⟨gb615, 3, none⟩ = some (.int .i64 0) := (blk_cell BK615.out 3).trans rfl; have hfz29_0 := blk_frozen BK615.out 0; have hfz29_1 := blk_frozen BK615.out 1; have hfz29_2 := blk_frozen BK615.out 2; have hfz29_3 := blk_frozen BK615.out 3; obtain ⟨Ao30, co30, eo30⟩ := Kd.R_slice HO_7.out; subst eo30) | ((with_reducible refine gate_callee (f := 26) rfl ?_); refine goesL_ (some 56) rfl rfl Try.func26 (by kernel_rfl) rfl #[.slice Ao30 t609.length co30, .int .i64 ((rd_T55 t601 x8_2).f0), .int .i64 ((rd_T55 t601 x8_2).f1), .int .i64 ((rd_T55 t601 x8_2).f2)] rfl bM ?_; (with_reducible refine (impl_BlkGet.calls k2 _ _ t609 ((rd_T55 t601 x8_2).f0) ((rd_T55 t601 x8_2).f1) ((rd_T55 t601 x8_2).f2) t616 _ ?side1 ?side2 A25.out).mono ?_); (case side1 => refine (Kd.R_reads' (e := 55) (base := w.heap.size) (ok := fun k_ => (some k_ ≠ (.slice (some ad614) t601.length co9 : Value).ownBlock ∧ k_ ≠ gb615)) (n := t609.length) (c := co30) ?_).2.2; exact (pR (Kd.R_mono (Kd.R_far (p := ⟨gb615, 3, none⟩) (Kd.R_far (p := ⟨gb615, 2, none⟩) (Kd.R_far (p := ⟨gb615, 1, none⟩) (Kd.R_far (p := ⟨gb615, 0, none⟩) (Kd.R_mono HO_7.out (fun k_ hk => (⟨hk, hk.2⟩ : _ ∧ k_ ≠ gb615))) (fun _ hk => hk.2) (.int .i64 ((rd_T55 t601 x8_2).f0))) (fun _ hk => hk.2) (.int .i64 ((rd_T55 t601 x8_2).f1))) (fun _ hk => hk.2) (.int .i64 ((rd_T55 t601 x8_2).f2))) (fun _ hk => hk.2) (.int .i64 ((rd_T55 t601 x8_2).f3))) (fun _ h_ => h_.1)))); (case side2 => exact (Kd.R_reads' HO_7.out).2.1); rintro e w31 ⟨rfl, hb⟩; refine ⟨_, rfl, ?_⟩; have n0_ := Aside0.mk (Kd.R_below (pR (Kd.R_mono (Kd.R_far (p := ⟨gb615, 3, none⟩) (Kd.R_far (p := ⟨gb615, 2, none⟩) (Kd.R_far (p := ⟨gb615, 1, none⟩) (Kd.R_far (p := ⟨gb615, 0, none⟩) (Kd.R_mono HO_3.out (fun k_ hk => (⟨hk, hk.2⟩ : _ ∧ k_ ≠ gb615))) (fun _ hk => hk.2) (.int .i64 ((rd_T55 t601 x8_2).f0))) (fun _ hk => hk.2) (.int .i64 ((rd_T55 t601 x8_2).f1))) (fun _ hk => hk.2) (.int .i64 ((rd_T55 t601 x8_2).f2))) (fun _ hk => hk.2) (.int .i64 ((rd_T55 t601 x8_2).f3))) (fun _ h_ => h_.1))) hb); have n1_ := Aside0.mk (Kd.R_below (pR (Kd.R_mono (Kd.R_far (p := ⟨gb615, 3, none⟩) (Kd.R_far (p := ⟨gb615, 2, none⟩) (Kd.R_far (p := ⟨gb615, 1, none⟩) (Kd.R_far (p := ⟨gb615, 0, none⟩) (Kd.R_mono HO_7.out (fun k_ hk => (⟨hk, hk.2⟩ : _ ∧ k_ ≠ gb615))) (fun _ hk => hk.2) (.int .i64 ((rd_T55 t601 x8_2).f0))) (fun _ hk => hk.2) (.int .i64 ((rd_T55 t601 x8_2).f1))) (fun _ hk => hk.2) (.int .i64 ((rd_T55 t601 x8_2).f2))) (fun _ hk => hk.2) (.int .i64 ((rd_T55 t601 x8_2).f3))) (fun _ h_ => h_.1))) hb); have n2_ := Aside0.mk (blk_below (g := gb615) (o := .cells #[.int .i64 ((rd_T55 t601 x8_2).f0), .int .i64 ((rd_T55 t601 x8_2).f1), .int .i64 ((rd_T55 t601 x8_2).f2), .int .i64 ((rd_T55 t601 x8_2).f3)] 55 (0, 0)) (by (with_reducible repeat (first | refine blk_drewN ?_ _ | refine blk_drew ?_ | refine blk_alloc ?_ _)); refine blk_put (cs := #[.int .i64 ((rd_T55 t601 x8_2).f0), .int .i64 ((rd_T55 t601 x8_2).f1), .int .i64 ((rd_T55 t601 x8_2).f2), .int .i64 0]) ?_ 3 _ rfl; (with_reducible repeat (first | refine blk_drewN ?_ _ | refine blk_drew ?_ | refine blk_alloc ?_ _)); refine blk_put (cs := #[.int .i64 ((rd_T55 t601 x8_2).f0), .int .i64 ((rd_T55 t601 x8_2).f1), .int .i64 0, .int .i64 0]) ?_ 2 _ rfl; (with_reducible repeat (first | refine blk_drewN ?_ _ | refine blk_drew ?_ | refine blk_alloc ?_ _)); refine blk_put (cs := #[.int .i64 ((rd_T55 t601 x8_2).f0), .int .i64 0, .int .i64 0, .int .i64 0]) ?_ 1 _ rfl; (with_reducible repeat (first | refine blk_drewN ?_ _ | refine blk_drew ?_ | refine blk_alloc ?_ _)); refine blk_put (cs := #[.int .i64 0, .int .i64 0, .int .i64 0, .int .i64 0]) ?_ 0 _ rfl; (with_reducible repeat (first | refine blk_drewN ?_ _ | refine blk_drew ?_ | refine blk_alloc ?_ _)); exact BK615.out) hb); have n3_ := Aside0.mk (below_step (by repeat (first | (with_reducible first | exact HB.out | apply below_alloc | apply pw_below_drewN | apply below_drew1 | refine below_set ?_ GE615.out) | exact HB.out)) hb); clear HO_3; clear HO_7; clear BK615; clear HB; have HO_3 := n0_; have HO_7 := n1_; have BK615 := n2_; have HB := n3_; clear n0_ n1_ n2_ n3_; (try clear hb); (try clear hb2); (try clear hk); (try clear hi); have hcz32_0 : w31.cell? ⟨gb615, 0, none⟩ = some (.int .i64 ((rd_T55 t601 x8_2).f0)) := (blk_cell BK615.out 0).trans rfl; have hcz32_1 : w31.cell? ⟨gb615, 1, none⟩ = some (.int .i64 ((rd_T55 t601 x8_2).f1)) := (blk_cell BK615.out 1).trans rfl; have hcz32_2 : w31.cell? ⟨gb615, 2, none⟩ = some (.int .i64 ((rd_T55 t601 x8_2).f2)) := (blk_cell BK615.out 2).trans rfl; have hcz32_3 : w31.cell? ⟨gb615, 3, none⟩ = some (.int .i64 ((rd_T55 t601 x8_2).f3)) := (blk_cell BK615.out 3).trans rfl; have hfz32_0 := blk_frozen BK615.out 0; have hfz32_1 := blk_frozen BK615.out 1; have hfz32_2 := blk_frozen BK615.out 2; have hfz32_3 := blk_frozen BK615.out 3))
           go_roundg k2
           case measure => have := HJ6.out; have := HK2.out; omega
           case rel => exact ⟨(wrap64 (x8_2 + 1)), (by first | rfl | (simp; done) | (simp [*]; done)), H', ⟨by have := HJ6.out; have := HK2.out; omega⟩, ⟨pR (Kd.R_mono HO_3.out (fun _ hk => hk.1))⟩, ⟨pR (Kd.R_mono HO_7.out (fun _ hk => hk.1))⟩, ⟨by repeat (first | (with_reducible first | exact HB.out | apply below_alloc | apply pw_below_drewN | apply below_drew1 | refine below_set ?_ GE615.out) | exact HB.out)⟩⟩
          ·rw [if_neg c27] at H
           have c27b0 : (t616 == 0) = false := beq_eq_false_iff_ne.mpr c27
           have c27b1 : (t616 != 0) = true := bne_iff_ne.mpr c27
           obtain rfl := Option.some.inj H
           have p614 : 0 ≤ (x8_2 : Int) := of_decide_eq_true bA
           have q614 : x8_2 < (t601.length : Int) := of_decide_eq_true bA
           obtain ⟨ad614, e614, hx614_0, hx614_1, hx614_2, hx614_3⟩ := at_T55 (Kd.R_reads' HO_3.out).2.2 x8_2 p614 q614
           cases e614
           replace p614 := eq_true p614
           replace q614 := eq_true q614
           go_wp2_with (first | ((with_reducible refine gate_dst (N := 9) rfl ?_); refine box_event ?hg (N := 9) ?hd (cs := #[.int .i64 0, .int .i64 0, .int .i64 0, .int .i64 0]) (t := 55) ?hr ?_; (case hd => rfl); (case hg => rfl); (case hr => first | (go_simp; done) | (go_simp; rfl)); intro gb615 hg w33 hbox hb; have n0_ := Aside0.mk (Kd.R_below (Kd.R_elderB (pR HO_3.out) gb615 (Nat.le_of_eq hg.symm)) hb); have n1_ := Aside0.mk (Kd.R_below (Kd.R_elderB (pR HO_7.out) gb615 (Nat.le_of_eq hg.symm)) hb); have n2_ := Aside0.mk (below_step (pB HB.out) hb); have n3_ := Aside0.mk (hbox); have n4_ := Aside0.mk ((by rw [hg]; exact (below_size (pB HB.out)) : w.heap.size ≤ gb615)); have n5_ := Aside0.mk ((by rw [hg]; exact (below_size (pB HB.out)) : w.heap.size ≤ gb615)); clear HO_3; clear HO_7; clear HB; have HO_3 := n0_; have HO_7 := n1_; have HB := n2_; have BK615 := n3_; have GW615 := n4_; have GE615 := n5_; clear n0_ n1_ n2_ n3_ n4_ n5_; clear hb hbox hg; have hcz34_0 : w33.cell? ⟨gb615, 0, none⟩ = some (.int .i64 0) := (blk_cell BK615.out 0).trans rfl; have hcz34_1 : w33.cell? ⟨gb615, 1, none⟩ = some (.int .i64 0) := (blk_cell BK615.out 1).trans rfl; have hcz34_2 : w33.cell? ⟨gb615, 2, none⟩ = some (.int .i64 0) := (blk_cell BK615.out 2).trans rfl; have hcz34_3 : w33.cell? ⟨gb615, 3, none⟩ = some (.int .i64 0) := (blk_cell BK615.out 3).trans rfl; have hfz34_0 := blk_frozen BK615.out 0; have hfz34_1 := blk_frozen BK615.out 1; have hfz34_2 := blk_frozen BK615.out 2; have hfz34_3 := blk_frozen BK615.out 3; obtain ⟨Ao35, co35, eo35⟩ := Kd.R_slice HO_7.out; subst eo35) | ((with_reducible refine gate_callee (f := 26) rfl ?_); refine goesL_ (some 56) rfl rfl Try.func26 (by kernel_rfl) rfl #[.slice Ao35 t609.length co35, .int .i64 ((rd_T55 t601 x8_2).f0), .int .i64 ((rd_T55 t601 x8_2).f1), .int .i64 ((rd_T55 t601 x8_2).f2)] rfl bM ?_; (with_reducible refine (impl_BlkGet.calls k2 _ _ t609 ((rd_T55 t601 x8_2).f0) ((rd_T55 t601 x8_2).f1) ((rd_T55 t601 x8_2).f2) t616 _ ?side1 ?side2 A25.out).mono ?_); (case side1 => refine (Kd.R_reads' (e := 55) (base := w.heap.size) (ok := fun k_ => (some k_ ≠ (.slice (some ad614) t601.length co9 : Value).ownBlock ∧ k_ ≠ gb615)) (n := t609.length) (c := co35) ?_).2.2; exact (pR (Kd.R_mono (Kd.R_far (p := ⟨gb615, 3, none⟩) (Kd.R_far (p := ⟨gb615, 2, none⟩) (Kd.R_far (p := ⟨gb615, 1, none⟩) (Kd.R_far (p := ⟨gb615, 0, none⟩) (Kd.R_mono HO_7.out (fun k_ hk => (⟨hk, hk.2⟩ : _ ∧ k_ ≠ gb615))) (fun _ hk => hk.2) (.int .i64 ((rd_T55 t601 x8_2).f0))) (fun _ hk => hk.2) (.int .i64 ((rd_T55 t601 x8_2).f1))) (fun _ hk => hk.2) (.int .i64 ((rd_T55 t601 x8_2).f2))) (fun _ hk => hk.2) (.int .i64 ((rd_T55 t601 x8_2).f3))) (fun _ h_ => h_.1)))); (case side2 => exact (Kd.R_reads' HO_7.out).2.1); rintro e w36 ⟨rfl, hb⟩; refine ⟨_, rfl, ?_⟩; have n0_ := Aside0.mk (Kd.R_below (pR (Kd.R_mono (Kd.R_far (p := ⟨gb615, 3, none⟩) (Kd.R_far (p := ⟨gb615, 2, none⟩) (Kd.R_far (p := ⟨gb615, 1, none⟩) (Kd.R_far (p := ⟨gb615, 0, none⟩) (Kd.R_mono HO_3.out (fun k_ hk => (⟨hk, hk.2⟩ : _ ∧ k_ ≠ gb615))) (fun _ hk => hk.2) (.int .i64 ((rd_T55 t601 x8_2).f0))) (fun _ hk => hk.2) (.int .i64 ((rd_T55 t601 x8_2).f1))) (fun _ hk => hk.2) (.int .i64 ((rd_T55 t601 x8_2).f2))) (fun _ hk => hk.2) (.int .i64 ((rd_T55 t601 x8_2).f3))) (fun _ h_ => h_.1))) hb); have n1_ := Aside0.mk (Kd.R_below (pR (Kd.R_mono (Kd.R_far (p := ⟨gb615, 3, none⟩) (Kd.R_far (p := ⟨gb615, 2, none⟩) (Kd.R_far (p := ⟨gb615, 1, none⟩) (Kd.R_far (p := ⟨gb615, 0, none⟩) (Kd.R_mono HO_7.out (fun k_ hk => (⟨hk, hk.2⟩ : _ ∧ k_ ≠ gb615))) (fun _ hk => hk.2) (.int .i64 ((rd_T55 t601 x8_2).f0))) (fun _ hk => hk.2) (.int .i64 ((rd_T55 t601 x8_2).f1))) (fun _ hk => hk.2) (.int .i64 ((rd_T55 t601 x8_2).f2))) (fun _ hk => hk.2) (.int .i64 ((rd_T55 t601 x8_2).f3))) (fun _ h_ => h_.1))) hb); have n2_ := Aside0.mk (blk_below (g := gb615) (o := .cells #[.int .i64 ((rd_T55 t601 x8_2).f0), .int .i64 ((rd_T55 t601 x8_2).f1), .int .i64 ((rd_T55 t601 x8_2).f2), .int .i64 ((rd_T55 t601 x8_2).f3)] 55 (0, 0)) (by (with_reducible repeat (first | refine blk_drewN ?_ _ | refine blk_drew ?_ | refine blk_alloc ?_ _)); refine blk_put (cs := #[.int .i64 ((rd_T55 t601 x8_2).f0), .int .i64 ((rd_T55 t601 x8_2).f1), .int .i64 ((rd_T55 t601 x8_2).f2), .int .i64 0]) ?_ 3 _ rfl; (with_reducible repeat (first | refine blk_drewN ?_ _ | refine blk_drew ?_ | refine blk_alloc ?_ _)); refine blk_put (cs := #[.int .i64 ((rd_T55 t601 x8_2).f0), .int .i64 ((rd_T55 t601 x8_2).f1), .int .i64 0, .int .i64 0]) ?_ 2 _ rfl; (with_reducible repeat (first | refine blk_drewN ?_ _ | refine blk_drew ?_ | refine blk_alloc ?_ _)); refine blk_put (cs := #[.int .i64 ((rd_T55 t601 x8_2).f0), .int .i64 0, .int .i64 0, .int .i64 0]) ?_ 1 _ rfl; (with_reducible repeat (first | refine blk_drewN ?_ _ | refine blk_drew ?_ | refine blk_alloc ?_ _)); refine blk_put (cs := #[.int .i64 0, .int .i64 0, .int .i64 0, .int .i64 0]) ?_ 0 _ rfl; (with_reducible repeat (first | refine blk_drewN ?_ _ | refine blk_drew ?_ | refine blk_alloc ?_ _)); exact BK615.out) hb); have n3_ := Aside0.mk (below_step (by repeat (first | (with_reducible first | exact HB.out | apply below_alloc | apply pw_below_drewN | apply below_drew1 | refine below_set ?_ GE615.out) | exact HB.out)) hb); clear HO_3; clear HO_7; clear BK615; clear HB; have HO_3 := n0_; have HO_7 := n1_; have BK615 := n2_; have HB := n3_; clear n0_ n1_ n2_ n3_; (try clear hb); (try clear hb2); (try clear hk); (try clear hi); have hcz37_0 : w36.cell? ⟨gb615, 0, none⟩ = some (.int .i64 ((rd_T55 t601 x8_2).f0)) := (blk_cell BK615.out 0).trans rfl; have hcz37_1 : w36.cell? ⟨gb615, 1, none⟩ = some (.int .i64 ((rd_T55 t601 x8_2).f1)) := (blk_cell BK615.out 1).trans rfl; have hcz37_2 : w36.cell? ⟨gb615, 2, none⟩ = some (.int .i64 ((rd_T55 t601 x8_2).f2)) := (blk_cell BK615.out 2).trans rfl; have hcz37_3 : w36.cell? ⟨gb615, 3, none⟩ = some (.int .i64 ((rd_T55 t601 x8_2).f3)) := (blk_cell BK615.out 3).trans rfl; have hfz37_0 := blk_frozen BK615.out 0; have hfz37_1 := blk_frozen BK615.out 1; have hfz37_2 := blk_frozen BK615.out 2; have hfz37_3 := blk_frozen BK615.out 3))
           go_ret
           exact ⟨by first | rfl | (simp [errW_none, errW_some] <;> rfl) | (simp [*, errW_none, errW_some] <;> rfl), by repeat (first | (with_reducible first | exact HB.out | apply below_alloc | apply pw_below_drewN | apply below_drew1 | refine below_set ?_ GE615.out) | exact HB.out)⟩
         ·rw [if_neg c26] at H
          have c26b0 : (((rd_T55 t601 x8_2).f0) == t602) = false := beq_eq_false_iff_ne.mpr c26
          have c26b1 : (((rd_T55 t601 x8_2).f0) != t602) = true := bne_iff_ne.mpr c26
          by_cases c38 : t616 = ((rd_T55 t601 x8_2).f3)
          ·rw [if_pos c38] at H
           have c38b0 : (t616 == ((rd_T55 t601 x8_2).f3)) = true := beq_iff_eq.mpr c38
           have c38b1 : (t616 != ((rd_T55 t601 x8_2).f3)) = false := bne_eq_false_iff_eq.mpr c38
           clear c38
           have H' := Aside0.mk H
           clear H
           have p614 : 0 ≤ (x8_2 : Int) := of_decide_eq_true bA
           have q614 : x8_2 < (t601.length : Int) := of_decide_eq_true bA
           obtain ⟨ad614, e614, hx614_0, hx614_1, hx614_2, hx614_3⟩ := at_T55 (Kd.R_reads' HO_3.out).2.2 x8_2 p614 q614
           cases e614
           replace p614 := eq_true p614
           replace q614 := eq_true q614
           go_wp2_with (first | ((with_reducible refine gate_dst (N := 9) rfl ?_); refine box_event ?hg (N := 9) ?hd (cs := #[.int .i64 0, .int .i64 0, .int .i64 0, .int .i64 0]) (t := 55) ?hr ?_; (case hd => rfl); (case hg => rfl); (case hr => first | (go_simp; done) | (go_simp; rfl)); intro gb615 hg w39 hbox hb; have n0_ := Aside0.mk (Kd.R_below (Kd.R_elderB (pR HO_3.out) gb615 (Nat.le_of_eq hg.symm)) hb); have n1_ := Aside0.mk (Kd.R_below (Kd.R_elderB (pR HO_7.out) gb615 (Nat.le_of_eq hg.symm)) hb); have n2_ := Aside0.mk (below_step (pB HB.out) hb); have n3_ := Aside0.mk (hbox); have n4_ := Aside0.mk ((by rw [hg]; exact (below_size (pB HB.out)) : w.heap.size ≤ gb615)); have n5_ := Aside0.mk ((by rw [hg]; exact (below_size (pB HB.out)) : w.heap.size ≤ gb615)); clear HO_3; clear HO_7; clear HB; have HO_3 := n0_; have HO_7 := n1_; have HB := n2_; have BK615 := n3_; have GW615 := n4_; have GE615 := n5_; clear n0_ n1_ n2_ n3_ n4_ n5_; clear hb hbox hg; have hcz40_0 : w39.cell? ⟨gb615, 0, none⟩ = some (.int .i64 0) := (blk_cell BK615.out 0).trans rfl; have hcz40_1 : w39.cell? ⟨gb615, 1, none⟩ = some (.int .i64 0) := (blk_cell BK615.out 1).trans rfl; have hcz40_2 : w39.cell? ⟨gb615, 2, none⟩ = some (.int .i64 0) := (blk_cell BK615.out 2).trans rfl; have hcz40_3 : w39.cell? ⟨gb615, 3, none⟩ = some (.int .i64 0) := (blk_cell BK615.out 3).trans rfl; have hfz40_0 := blk_frozen BK615.out 0; have hfz40_1 := blk_frozen BK615.out 1; have hfz40_2 := blk_frozen BK615.out 2; have hfz40_3 := blk_frozen BK615.out 3; obtain ⟨Ao41, co41, eo41⟩ := Kd.R_slice HO_7.out; subst eo41) | ((with_reducible refine gate_callee (f := 26) rfl ?_); refine goesL_ (some 56) rfl rfl Try.func26 (by kernel_rfl) rfl #[.slice Ao41 t609.length co41, .int .i64 ((rd_T55 t601 x8_2).f0), .int .i64 ((rd_T55 t601 x8_2).f1), .int .i64 ((rd_T55 t601 x8_2).f2)] rfl bM ?_; (with_reducible refine (impl_BlkGet.calls k2 _ _ t609 ((rd_T55 t601 x8_2).f0) ((rd_T55 t601 x8_2).f1) ((rd_T55 t601 x8_2).f2) t616 _ ?side1 ?side2 A25.out).mono ?_); (case side1 => refine (Kd.R_reads' (e := 55) (base := w.heap.size) (ok := fun k_ => (some k_ ≠ (.slice (some ad614) t601.length co9 : Value).ownBlock ∧ k_ ≠ gb615)) (n := t609.length) (c := co41) ?_).2.2; exact (pR (Kd.R_mono (Kd.R_far (p := ⟨gb615, 3, none⟩) (Kd.R_far (p := ⟨gb615, 2, none⟩) (Kd.R_far (p := ⟨gb615, 1, none⟩) (Kd.R_far (p := ⟨gb615, 0, none⟩) (Kd.R_mono HO_7.out (fun k_ hk => (⟨hk, hk.2⟩ : _ ∧ k_ ≠ gb615))) (fun _ hk => hk.2) (.int .i64 ((rd_T55 t601 x8_2).f0))) (fun _ hk => hk.2) (.int .i64 ((rd_T55 t601 x8_2).f1))) (fun _ hk => hk.2) (.int .i64 ((rd_T55 t601 x8_2).f2))) (fun _ hk => hk.2) (.int .i64 ((rd_T55 t601 x8_2).f3))) (fun _ h_ => h_.1)))); (case side2 => exact (Kd.R_reads' HO_7.out).2.1); rintro e w42 ⟨rfl, hb⟩; refine ⟨_, rfl, ?_⟩; have n0_ := Aside0.mk (Kd.R_below (pR (Kd.R_mono (Kd.R_far (p := ⟨gb615, 3, none⟩) (Kd.R_far (p := ⟨gb615, 2, none⟩) (Kd.R_far (p := ⟨gb615, 1, none⟩) (Kd.R_far (p := ⟨gb615, 0, none⟩) (Kd.R_mono HO_3.out (fun k_ hk => (⟨hk, hk.2⟩ : _ ∧ k_ ≠ gb615))) (fun _ hk => hk.2) (.int .i64 ((rd_T55 t601 x8_2).f0))) (fun _ hk => hk.2) (.int .i64 ((rd_T55 t601 x8_2).f1))) (fun _ hk => hk.2) (.int .i64 ((rd_T55 t601 x8_2).f2))) (fun _ hk => hk.2) (.int .i64 ((rd_T55 t601 x8_2).f3))) (fun _ h_ => h_.1))) hb); have n1_ := Aside0.mk (Kd.R_below (pR (Kd.R_mono (Kd.R_far (p := ⟨gb615, 3, none⟩) (Kd.R_far (p := ⟨gb615, 2, none⟩) (Kd.R_far (p := ⟨gb615, 1, none⟩) (Kd.R_far (p := ⟨gb615, 0, none⟩) (Kd.R_mono HO_7.out (fun k_ hk => (⟨hk, hk.2⟩ : _ ∧ k_ ≠ gb615))) (fun _ hk => hk.2) (.int .i64 ((rd_T55 t601 x8_2).f0))) (fun _ hk => hk.2) (.int .i64 ((rd_T55 t601 x8_2).f1))) (fun _ hk => hk.2) (.int .i64 ((rd_T55 t601 x8_2).f2))) (fun _ hk => hk.2) (.int .i64 ((rd_T55 t601 x8_2).f3))) (fun _ h_ => h_.1))) hb); have n2_ := Aside0.mk (blk_below (g := gb615) (o := .cells #[.int .i64 ((rd_T55 t601 x8_2).f0), .int .i64 ((rd_T55 t601 x8_2).f1), .int .i64 ((rd_T55 t601 x8_2).f2), .int .i64 ((rd_T55 t601 x8_2).f3)] 55 (0, 0)) (by (with_reducible repeat (first | refine blk_drewN ?_ _ | refine blk_drew ?_ | refine blk_alloc ?_ _)); refine blk_put (cs := #[.int .i64 ((rd_T55 t601 x8_2).f0), .int .i64 ((rd_T55 t601 x8_2).f1), .int .i64 ((rd_T55 t601 x8_2).f2), .int .i64 0]) ?_ 3 _ rfl; (with_reducible repeat (first | refine blk_drewN ?_ _ | refine blk_drew ?_ | refine blk_alloc ?_ _)); refine blk_put (cs := #[.int .i64 ((rd_T55 t601 x8_2).f0), .int .i64 ((rd_T55 t601 x8_2).f1), .int .i64 0, .int .i64 0]) ?_ 2 _ rfl; (with_reducible repeat (first | refine blk_drewN ?_ _ | refine blk_drew ?_ | refine blk_alloc ?_ _)); refine blk_put (cs := #[.int .i64 ((rd_T55 t601 x8_2).f0), .int .i64 0, .int .i64 0, .int .i64 0]) ?_ 1 _ rfl; (with_reducible repeat (first | refine blk_drewN ?_ _ | refine blk_drew ?_ | refine blk_alloc ?_ _)); refine blk_put (cs := #[.int .i64 0, .int .i64 0, .int .i64 0, .int .i64 0]) ?_ 0 _ rfl; (with_reducible repeat (first | refine blk_drewN ?_ _ | refine blk_drew ?_ | refine blk_alloc ?_ _)); exact BK615.out) hb); have n3_ := Aside0.mk (below_step (by repeat (first | (with_reducible first | exact HB.out | apply below_alloc | apply pw_below_drewN | apply below_drew1 | refine below_set ?_ GE615.out) | exact HB.out)) hb); clear HO_3; clear HO_7; clear BK615; clear HB; have HO_3 := n0_; have HO_7 := n1_; have BK615 := n2_; have HB := n3_; clear n0_ n1_ n2_ n3_; (try clear hb); (try clear hb2); (try clear hk); (try clear hi); have hcz43_0 : w42.cell? ⟨gb615, 0, none⟩ = some (.int .i64 ((rd_T55 t601 x8_2).f0)) := (blk_cell BK615.out 0).trans rfl; have hcz43_1 : w42.cell? ⟨gb615, 1, none⟩ = some (.int .i64 ((rd_T55 t601 x8_2).f1)) := (blk_cell BK615.out 1).trans rfl; have hcz43_2 : w42.cell? ⟨gb615, 2, none⟩ = some (.int .i64 ((rd_T55 t601 x8_2).f2)) := (blk_cell BK615.out 2).trans rfl; have hcz43_3 : w42.cell? ⟨gb615, 3, none⟩ = some (.int .i64 ((rd_T55 t601 x8_2).f3)) := (blk_cell BK615.out 3).trans rfl; have hfz43_0 := blk_frozen BK615.out 0; have hfz43_1 := blk_frozen BK615.out 1; have hfz43_2 := blk_frozen BK615.out 2; have hfz43_3 := blk_frozen BK615.out 3))
           go_roundg k2
           case measure => have := HJ6.out; have := HK2.out; omega
           case rel => exact ⟨(wrap64 (x8_2 + 1)), (by first | rfl | (simp; done) | (simp [*]; done)), H', ⟨by have := HJ6.out; have := HK2.out; omega⟩, ⟨pR (Kd.R_mono HO_3.out (fun _ hk => hk.1))⟩, ⟨pR (Kd.R_mono HO_7.out (fun _ hk => hk.1))⟩, ⟨by repeat (first | (with_reducible first | exact HB.out | apply below_alloc | apply pw_below_drewN | apply below_drew1 | refine below_set ?_ GE615.out) | exact HB.out)⟩⟩
          ·rw [if_neg c38] at H
           have c38b0 : (t616 == ((rd_T55 t601 x8_2).f3)) = false := beq_eq_false_iff_ne.mpr c38
           have c38b1 : (t616 != ((rd_T55 t601 x8_2).f3)) = true := bne_iff_ne.mpr c38
           obtain rfl := Option.some.inj H
           have p614 : 0 ≤ (x8_2 : Int) := of_decide_eq_true bA
           have q614 : x8_2 < (t601.length : Int) := of_decide_eq_true bA
           obtain ⟨ad614, e614, hx614_0, hx614_1, hx614_2, hx614_3⟩ := at_T55 (Kd.R_reads' HO_3.out).2.2 x8_2 p614 q614
           cases e614
           replace p614 := eq_true p614
           replace q614 := eq_true q614
           go_wp2_with (first | ((with_reducible refine gate_dst (N := 9) rfl ?_); refine box_event ?hg (N := 9) ?hd (cs := #[.int .i64 0, .int .i64 0, .int .i64 0, .int .i64 0]) (t := 55) ?hr ?_; (case hd => rfl); (case hg => rfl); (case hr => first | (go_simp; done) | (go_simp; rfl)); intro gb615 hg w44 hbox hb; have n0_ := Aside0.mk (Kd.R_below (Kd.R_elderB (pR HO_3.out) gb615 (Nat.le_of_eq hg.symm)) hb); have n1_ := Aside0.mk (Kd.R_below (Kd.R_elderB (pR HO_7.out) gb615 (Nat.le_of_eq hg.symm)) hb); have n2_ := Aside0.mk (below_step (pB HB.out) hb); have n3_ := Aside0.mk (hbox); have n4_ := Aside0.mk ((by rw [hg]; exact (below_size (pB HB.out)) : w.heap.size ≤ gb615)); have n5_ := Aside0.mk ((by rw [hg]; exact (below_size (pB HB.out)) : w.heap.size ≤ gb615)); clear HO_3; clear HO_7; clear HB; have HO_3 := n0_; have HO_7 := n1_; have HB := n2_; have BK615 := n3_; have GW615 := n4_; have GE615 := n5_; clear n0_ n1_ n2_ n3_ n4_ n5_; clear hb hbox hg; have hcz45_0 : w44.cell? ⟨gb615, 0, none⟩ = some (.int .i64 0) := (blk_cell BK615.out 0).trans rfl; have hcz45_1 : w44.cell? ⟨gb615, 1, none⟩ = some (.int .i64 0) := (blk_cell BK615.out 1).trans rfl; have hcz45_2 : w44.cell? ⟨gb615, 2, none⟩ = some (.int .i64 0) := (blk_cell BK615.out 2).trans rfl; have hcz45_3 : w44.cell? ⟨gb615, 3, none⟩ = some (.int .i64 0) := (blk_cell BK615.out 3).trans rfl; have hfz45_0 := blk_frozen BK615.out 0; have hfz45_1 := blk_frozen BK615.out 1; have hfz45_2 := blk_frozen BK615.out 2; have hfz45_3 := blk_frozen BK615.out 3; obtain ⟨Ao46, co46, eo46⟩ := Kd.R_slice HO_7.out; subst eo46) | ((with_reducible refine gate_callee (f := 26) rfl ?_); refine goesL_ (some 56) rfl rfl Try.func26 (by kernel_rfl) rfl #[.slice Ao46 t609.length co46, .int .i64 ((rd_T55 t601 x8_2).f0), .int .i64 ((rd_T55 t601 x8_2).f1), .int .i64 ((rd_T55 t601 x8_2).f2)] rfl bM ?_; (with_reducible refine (impl_BlkGet.calls k2 _ _ t609 ((rd_T55 t601 x8_2).f0) ((rd_T55 t601 x8_2).f1) ((rd_T55 t601 x8_2).f2) t616 _ ?side1 ?side2 A25.out).mono ?_); (case side1 => refine (Kd.R_reads' (e := 55) (base := w.heap.size) (ok := fun k_ => (some k_ ≠ (.slice (some ad614) t601.length co9 : Value).ownBlock ∧ k_ ≠ gb615)) (n := t609.length) (c := co46) ?_).2.2; exact (pR (Kd.R_mono (Kd.R_far (p := ⟨gb615, 3, none⟩) (Kd.R_far (p := ⟨gb615, 2, none⟩) (Kd.R_far (p := ⟨gb615, 1, none⟩) (Kd.R_far (p := ⟨gb615, 0, none⟩) (Kd.R_mono HO_7.out (fun k_ hk => (⟨hk, hk.2⟩ : _ ∧ k_ ≠ gb615))) (fun _ hk => hk.2) (.int .i64 ((rd_T55 t601 x8_2).f0))) (fun _ hk => hk.2) (.int .i64 ((rd_T55 t601 x8_2).f1))) (fun _ hk => hk.2) (.int .i64 ((rd_T55 t601 x8_2).f2))) (fun _ hk => hk.2) (.int .i64 ((rd_T55 t601 x8_2).f3))) (fun _ h_ => h_.1)))); (case side2 => exact (Kd.R_reads' HO_7.out).2.1); rintro e w47 ⟨rfl, hb⟩; refine ⟨_, rfl, ?_⟩; have n0_ := Aside0.mk (Kd.R_below (pR (Kd.R_mono (Kd.R_far (p := ⟨gb615, 3, none⟩) (Kd.R_far (p := ⟨gb615, 2, none⟩) (Kd.R_far (p := ⟨gb615, 1, none⟩) (Kd.R_far (p := ⟨gb615, 0, none⟩) (Kd.R_mono HO_3.out (fun k_ hk => (⟨hk, hk.2⟩ : _ ∧ k_ ≠ gb615))) (fun _ hk => hk.2) (.int .i64 ((rd_T55 t601 x8_2).f0))) (fun _ hk => hk.2) (.int .i64 ((rd_T55 t601 x8_2).f1))) (fun _ hk => hk.2) (.int .i64 ((rd_T55 t601 x8_2).f2))) (fun _ hk => hk.2) (.int .i64 ((rd_T55 t601 x8_2).f3))) (fun _ h_ => h_.1))) hb); have n1_ := Aside0.mk (Kd.R_below (pR (Kd.R_mono (Kd.R_far (p := ⟨gb615, 3, none⟩) (Kd.R_far (p := ⟨gb615, 2, none⟩) (Kd.R_far (p := ⟨gb615, 1, none⟩) (Kd.R_far (p := ⟨gb615, 0, none⟩) (Kd.R_mono HO_7.out (fun k_ hk => (⟨hk, hk.2⟩ : _ ∧ k_ ≠ gb615))) (fun _ hk => hk.2) (.int .i64 ((rd_T55 t601 x8_2).f0))) (fun _ hk => hk.2) (.int .i64 ((rd_T55 t601 x8_2).f1))) (fun _ hk => hk.2) (.int .i64 ((rd_T55 t601 x8_2).f2))) (fun _ hk => hk.2) (.int .i64 ((rd_T55 t601 x8_2).f3))) (fun _ h_ => h_.1))) hb); have n2_ := Aside0.mk (blk_below (g := gb615) (o := .cells #[.int .i64 ((rd_T55 t601 x8_2).f0), .int .i64 ((rd_T55 t601 x8_2).f1), .int .i64 ((rd_T55 t601 x8_2).f2), .int .i64 ((rd_T55 t601 x8_2).f3)] 55 (0, 0)) (by (with_reducible repeat (first | refine blk_drewN ?_ _ | refine blk_drew ?_ | refine blk_alloc ?_ _)); refine blk_put (cs := #[.int .i64 ((rd_T55 t601 x8_2).f0), .int .i64 ((rd_T55 t601 x8_2).f1), .int .i64 ((rd_T55 t601 x8_2).f2), .int .i64 0]) ?_ 3 _ rfl; (with_reducible repeat (first | refine blk_drewN ?_ _ | refine blk_drew ?_ | refine blk_alloc ?_ _)); refine blk_put (cs := #[.int .i64 ((rd_T55 t601 x8_2).f0), .int .i64 ((rd_T55 t601 x8_2).f1), .int .i64 0, .int .i64 0]) ?_ 2 _ rfl; (with_reducible repeat (first | refine blk_drewN ?_ _ | refine blk_drew ?_ | refine blk_alloc ?_ _)); refine blk_put (cs := #[.int .i64 ((rd_T55 t601 x8_2).f0), .int .i64 0, .int .i64 0, .int .i64 0]) ?_ 1 _ rfl; (with_reducible repeat (first | refine blk_drewN ?_ _ | refine blk_drew ?_ | refine blk_alloc ?_ _)); refine blk_put (cs := #[.int .i64 0, .int .i64 0, .int .i64 0, .int .i64 0]) ?_ 0 _ rfl; (with_reducible repeat (first | refine blk_drewN ?_ _ | refine blk_drew ?_ | refine blk_alloc ?_ _)); exact BK615.out) hb); have n3_ := Aside0.mk (below_step (by repeat (first | (with_reducible first | exact HB.out | apply below_alloc | apply pw_below_drewN | apply below_drew1 | refine below_set ?_ GE615.out) | exact HB.out)) hb); clear HO_3; clear HO_7; clear BK615; clear HB; have HO_3 := n0_; have HO_7 := n1_; have BK615 := n2_; have HB := n3_; clear n0_ n1_ n2_ n3_; (try clear hb); (try clear hb2); (try clear hk); (try clear hi); have hcz48_0 : w47.cell? ⟨gb615, 0, none⟩ = some (.int .i64 ((rd_T55 t601 x8_2).f0)) := (blk_cell BK615.out 0).trans rfl; have hcz48_1 : w47.cell? ⟨gb615, 1, none⟩ = some (.int .i64 ((rd_T55 t601 x8_2).f1)) := (blk_cell BK615.out 1).trans rfl; have hcz48_2 : w47.cell? ⟨gb615, 2, none⟩ = some (.int .i64 ((rd_T55 t601 x8_2).f2)) := (blk_cell BK615.out 2).trans rfl; have hcz48_3 : w47.cell? ⟨gb615, 3, none⟩ = some (.int .i64 ((rd_T55 t601 x8_2).f3)) := (blk_cell BK615.out 3).trans rfl; have hfz48_0 := blk_frozen BK615.out 0; have hfz48_1 := blk_frozen BK615.out 1; have hfz48_2 := blk_frozen BK615.out 2; have hfz48_3 := blk_frozen BK615.out 3))
           go_ret
           exact ⟨by first | rfl | (simp [errW_none, errW_some] <;> rfl) | (simp [*, errW_none, errW_some] <;> rfl), by repeat (first | (with_reducible first | exact HB.out | apply below_alloc | apply pw_below_drewN | apply below_drew1 | refine below_set ?_ GE615.out) | exact HB.out)⟩
        ·rw [if_neg c24] at H
         exact absurd H (by simp)
       ·rw [if_neg c23] at H
        have c23b0 : decide (x8_2 < (t601.length : Int)) = false := decide_eq_false c23
        clear c23
        have H' := Aside0.mk H
        clear H
        go_wp2
        go_loopg [11] k2 (fun kq v11 w' => ∃ (x11_3 : Int), v11 = .int .i64 x11_3 ∧ Aside0 (laws_FnBlkDrop.l1 kq t602 t609 x11_3 = some r) ∧ Aside0 (kq ≤ k2) ∧ Aside0 (Kd.R k55 55 w' w.heap.size (fun _ => True) v610 t609) ∧ Aside0 (Below w.heap.size w w'))
        case atStart => exact ⟨(0), (by first | rfl | (simp; done) | (simp [*]; done)), H', ⟨Nat.le_refl _⟩, ⟨pR (Kd.R_mono HO_7.out (fun _ hk => trivial))⟩, ⟨pB HB.out⟩⟩
        case round =>
         clear H'
         try clear c1
         try clear c2
         try clear c2b0
         try clear c2b1
         try clear p2
         try clear c3
         try clear c4
         try clear p6
         try clear q6
         try clear hx6
         try clear c11
         try clear c14
         try clear c19
         try clear c21
         try clear c23
         try clear c23b0
         try clear c24
         try clear c24b0
         try clear c26
         try clear c26b0
         try clear c26b1
         try clear c27
         try clear c27b0
         try clear c27b1
         try clear c33
         try clear c34
         try clear c38
         try clear c38b0
         try clear c38b1
         try clear c40
         try clear c41
         try clear hcz29_0
         try clear hcz29_1
         try clear hcz29_2
         try clear hcz29_3
         try clear hcz32_0
         try clear hcz32_1
         try clear hcz32_2
         try clear hcz32_3
         try clear hcz34_0
         try clear hcz34_1
         try clear hcz34_2
         try clear hcz34_3
         try clear hcz37_0
         try clear hcz37_1
         try clear hcz37_2
         try clear hcz37_3
         try clear hcz40_0
         try clear hcz40_1
         try clear hcz40_2
         try clear hcz40_3
         try clear hcz43_0
         try clear hcz43_1
         try clear hcz43_2
         try clear hcz43_3
         try clear hcz45_0
         try clear hcz45_1
         try clear hcz45_2
         try clear hcz45_3
         try clear hcz48_0
         try clear hcz48_1
         try clear hcz48_2
         try clear hcz48_3
         try clear hfz29_0
         try clear hfz29_1
         try clear hfz29_2
         try clear hfz29_3
         try clear hfz32_0
         try clear hfz32_1
         try clear hfz32_2
         try clear hfz32_3
         try clear hfz34_0
         try clear hfz34_1
         try clear hfz34_2
         try clear hfz34_3
         try clear hfz37_0
         try clear hfz37_1
         try clear hfz37_2
         try clear hfz37_3
         try clear hfz40_0
         try clear hfz40_1
         try clear hfz40_2
         try clear hfz40_3
         try clear hfz43_0
         try clear hfz43_1
         try clear hfz43_2
         try clear hfz43_3
         try clear hfz45_0
         try clear hfz45_1
         try clear hfz45_2
         try clear hfz45_3
         try clear hfz48_0
         try clear hfz48_1
         try clear hfz48_2
         try clear hfz48_3
         try clear hx614_0
         try clear hx614_1
         try clear hx614_2
         try clear hx614_3
         try clear p2
         try clear p614
         try clear q614
         obtain ⟨x11_3, rfl, HA, HK3, HO_7, HB⟩ := hrel
         cases gk with
         | zero => exact absurd HA.out (by simp [laws_FnBlkDrop.l1])
         | succ k3 =>
          have H := HA.out
          clear HA
          simp only [laws_FnBlkDrop.l1] at H
          by_cases c49 : x11_3 < (t609.length : Int)
          ·rw [if_pos c49] at H
           have c49b0 : decide (x11_3 < (t609.length : Int)) = true := decide_eq_true c49
           clear c49
           by_cases c50 : 0 ≤ x11_3
           ·rw [if_pos c50] at H
            have c50b0 : decide (0 ≤ x11_3) = true := decide_eq_true c50
            clear c50
            by_cases c51 : ((rd_T55 t609 x11_3).f0) = t602
            ·rw [if_pos c51] at H
             have c51b0 : (((rd_T55 t609 x11_3).f0) == t602) = true := beq_iff_eq.mpr c51
             have c51b1 : (((rd_T55 t609 x11_3).f0) != t602) = false := bne_eq_false_iff_eq.mpr c51
             clear c51
             obtain rfl := Option.some.inj H
             obtain ⟨Ao52, co52, eo52⟩ := Kd.R_slice HO_7.out
             subst eo52
             have p617 : 0 ≤ (x11_3 : Int) := of_decide_eq_true bA
             have q617 : x11_3 < (t609.length : Int) := of_decide_eq_true bA
             obtain ⟨ad617, e617, hx617_0, hx617_1, hx617_2, hx617_3⟩ := at_T55 (Kd.R_reads' HO_7.out).2.2 x11_3 p617 q617
             cases e617
             replace p617 := eq_true p617
             replace q617 := eq_true q617
             go_wp2
             go_ret
             exact ⟨by first | rfl | (simp [errW_none, errW_some] <;> rfl) | (simp [*, errW_none, errW_some] <;> rfl), pB HB.out⟩
            ·rw [if_neg c51] at H
             have c51b0 : (((rd_T55 t609 x11_3).f0) == t602) = false := beq_eq_false_iff_ne.mpr c51
             have c51b1 : (((rd_T55 t609 x11_3).f0) != t602) = true := bne_iff_ne.mpr c51
             have H' := Aside0.mk H
             clear H
             obtain ⟨Ao53, co53, eo53⟩ := Kd.R_slice HO_7.out
             subst eo53
             have p617 : 0 ≤ (x11_3 : Int) := of_decide_eq_true bA
             have q617 : x11_3 < (t609.length : Int) := of_decide_eq_true bA
             obtain ⟨ad617, e617, hx617_0, hx617_1, hx617_2, hx617_3⟩ := at_T55 (Kd.R_reads' HO_7.out).2.2 x11_3 p617 q617
             cases e617
             replace p617 := eq_true p617
             replace q617 := eq_true q617
             go_wp2
             go_roundg k3
             case measure => have := HJ6.out; have := HK2.out; have := HK3.out; omega
             case rel => exact ⟨(wrap64 (x11_3 + 1)), (by first | rfl | (simp; done) | (simp [*]; done)), H', ⟨by have := HJ6.out; have := HK2.out; have := HK3.out; omega⟩, ⟨pR HO_7.out⟩, ⟨pB HB.out⟩⟩
           ·rw [if_neg c50] at H
            exact absurd H (by simp)
          ·rw [if_neg c49] at H
           have c49b0 : decide (x11_3 < (t609.length : Int)) = false := decide_eq_false c49
           clear c49
           replace H := Option.bind_eq_some_iff.mp H
           obtain ⟨t618, A540, H⟩ := H
           replace H : (some t618) = some r := H
           have A54 := Aside0.mk A540
           clear A540
           obtain rfl := Option.some.inj H
           obtain ⟨Ao55, co55, eo55⟩ := Kd.R_slice HO_7.out
           subst eo55
           go_wp2_with (first | ((with_reducible refine gate_callee (f := 23) rfl ?_); refine goesL_ (some 91) rfl rfl Try.func23 (by kernel_rfl) rfl #[.slice Ao55 t609.length co55] rfl bM ?_; (with_reducible refine (impl_BlkOk.calls k3 _ _ t609 t618 _ ?side1 ?side2 A54.out).mono ?_); (case side1 => exact pC (Kd.R_reads' HO_7.out).2.2); (case side2 => exact (Kd.R_reads' HO_7.out).2.1); rintro e w56 ⟨rfl, hb⟩; refine ⟨_, rfl, ?_⟩; have n0_ := Aside0.mk (Kd.R_below (pR HO_7.out) hb); have n1_ := Aside0.mk (below_step (pB HB.out) hb); clear HO_7; clear HB; have HO_7 := n0_; have HB := n1_; clear n0_ n1_; (try clear hb); (try clear hb2); (try clear hk); (try clear hi)))
           go_ret
           exact ⟨by first | rfl | (simp [errW_none, errW_some] <;> rfl) | (simp [*, errW_none, errW_some] <;> rfl), pB HB.out⟩

/-- THE ONE PURE STATEMENT of laws_FnBlkDrop: yours. -/
def laws_FnBlkDrop.Pure : Prop := ∀ (l0 : List Int), l0.length ≤ maxLen → l0.length * 1 ≤ 140737488351232 → (∀ x ∈ l0, (Lit.int .u8 x).wf = true) → ∃ k, laws_FnBlkDrop.f k l0 = some true
theorem laws_FnBlkDrop.walk (P : laws_FnBlkDrop.Pure) (a0 : Option Addr) (len0 cap0 : Nat) (z0 : List Int) (w : World) (w0 : (a0 = none ∧ len0 = 0 ∧ cap0 = 0 ∧ z0 = []) ∨ ∃ x, a0 = some x ∧ len0 ≤ cap0 ∧ cap0 ≤ maxLen ∧ z0.length = cap0 ∧ (∀ i, i < z0.length → w.cell? (x.add i) = some (.int .u8 (z0.getD i 0))) ∧ ∀ n ∈ z0, (Lit.int .u8 n).wf = true) (y0 : len0 * 1 ≤ 140737488351232) :
  Calls Try.prog 11 #[.slice a0 len0 cap0] w fun e w' => e = .returned (.bool true) ∧ Below w.heap.size w w' := by
 obtain ⟨l0, rfl, hr0, hm0, hw0, hc0⟩ := ReadsInt.ofRowC w0
 obtain ⟨k, h⟩ := P l0 hm0 y0 hw0
 refine (laws_FnBlkDrop.calls k _ _ l0 true w (Kd.C_of_reads (d := (0 : Int)) (h1 := fun _ => rfl) hr0) hc0 h).mono ?_
 rintro e w' ⟨rfl, hd⟩
 exact ⟨rfl, hd⟩

end Go.Proofs.Ytdcdaclmicmiaaa.P
