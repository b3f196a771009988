-- printed by pprint.py (this session's program over the kit's printer) out of the translation. Lean checks it.
import Derived.Test.YtdcdaclmicmiaaaPx0
import Derived.Test.YtdcdaclmicmiaaaPx8
import Derived.Test.YtdcdaclmicmiaaaPx10
import Derived.Test.YtdcdaclmicmiaaaPx11
import Derived.Test.YtdcdaclmicmiaaaPx21
namespace Go.Proofs.Ytdcdaclmicmiaaa.P
open Go.RowKit Go.Proofs.YtdcdaclmicmiaaaX Go.Proofs.YtdcdaclmicmiaaaW.PrintWords Go.Proofs.YtdcdaclmicmiaaaW.PrintLast Go.Proofs.YtdcdaclmicmiaaaW.PrintMore
attribute [local go_sem] max2_int min2_int max_two min_two max_three min_three max_four min_four   -- for this text's walks alone
set_option linter.unusedVariables false
set_option linter.unusedSimpArgs false

/-! ### laws_FnExactBlkPut: function 14 -/
mutual
def laws_FnExactBlkPut.j0 : Nat → List (S66) → Int → Int → Int → Int → List (S55) → Bool → List (S55) → List (S55) → Bool → Bool → Option (Bool)
 | 0, _, _, _, _, _, _, _, _, _, _, _ => none
 | k + 1, x0, x1, x2, x3, x4, x12, x13, x14, x15, x16, x56 => if x56 = true then (some false) else ((laws_toBlkPieceS.f k x0).bind fun t687 => ((laws_eqBlkPieceS.f k x14 t687).bind fun t690 => (if t690 = true then ((laws_markBlkPieceS.f k x14 1).bind fun bt691 => (if bt691.1 < 0 then (laws_FnExactBlkPut.j1 k x0 x1 x2 x3 x4 x12 x13 x15 true) else ((laws_eqBlkPieceS.f k x15 x12).bind fun t693 => (if t693 = true then (laws_FnExactBlkPut.j1 k x0 x1 x2 x3 x4 x12 x13 x15 (x16 != x13)) else (laws_FnExactBlkPut.j1 k x0 x1 x2 x3 x4 x12 x13 x15 true))))) else (some false))))
def laws_FnExactBlkPut.j1 : Nat → List (S66) → Int → Int → Int → Int → List (S55) → Bool → List (S55) → Bool → Option (Bool)
 | 0, _, _, _, _, _, _, _, _, _ => none
 | k + 1, x0, x1, x2, x3, x4, x12, x13, x15, x77 => if x77 = true then (some false) else ((laws_markBlkPieceS.f k x15 1).bind fun bt694 => ((laws_heldBlkPieceS.f k bt694.2 1).bind fun t696 => (if t696 < 0 then (some false) else (if t696 = bt694.1 then ((laws_toBlkPieceS.f k x0).bind fun t697 => ((impl_BlkPut.f k t697 x1 x2 x3 x4).bind fun bt700 => ((laws_eqBlkPieceS.f k bt700.1 x12).bind fun t704 => (if t704 = true then (laws_FnExactBlkPut.j2 k bt694.2 bt694.1 (bt700.2 != x13)) else (laws_FnExactBlkPut.j2 k bt694.2 bt694.1 true))))) else (some false)))))
def laws_FnExactBlkPut.j2 : Nat → List (S55) → Int → Bool → Option (Bool)
 | 0, _, _, _ => none
 | k + 1, x15, x18, x107 => if x107 = true then (some false) else ((laws_heldBlkPieceS.f k x15 1).bind fun t705 => (if t705 < 0 then (some false) else (if t705 = x18 then (some true) else (some false))))
end
def laws_FnExactBlkPut.f (k : Nat) (l0 : List (S66)) (a1 : Int) (a2 : Int) (a3 : Int) (a4 : Int) : Option (Bool) := (laws_szBlkPieceS.f l0 1048576).bind fun t671 => (if t671 < 0 then (some true) else ((laws_toBlkPieceS.f k l0).bind fun t672 => ((spec_BlkPut.f k t672 a1 a2 a3 a4).bind fun bt675 => ((laws_toBlkPieceS.f k l0).bind fun t679 => ((impl_BlkPut.f k t679 a1 a2 a3 a4).bind fun bt682 => ((laws_eqBlkPieceS.f k bt682.1 bt675.1).bind fun t686 => (if t686 = true then (laws_FnExactBlkPut.j0 k l0 a1 a2 a3 a4 bt675.1 bt675.2 t679 bt682.1 bt682.2 (bt682.2 != bt675.2)) else (laws_FnExactBlkPut.j0 k l0 a1 a2 a3 a4 bt675.1 bt675.2 t679 bt682.1 bt682.2 true))))))))
theorem laws_FnExactBlkPut.mono_l : ∀ k, (∀ y0 y1 y2 y3 y4 y5 y6 y7 y8 y9 y10, LeO (laws_FnExactBlkPut.j0 k y0 y1 y2 y3 y4 y5 y6 y7 y8 y9 y10) (laws_FnExactBlkPut.j0 (k + 1) y0 y1 y2 y3 y4 y5 y6 y7 y8 y9 y10)) ∧ (∀ y0 y1 y2 y3 y4 y5 y6 y7 y8, LeO (laws_FnExactBlkPut.j1 k y0 y1 y2 y3 y4 y5 y6 y7 y8) (laws_FnExactBlkPut.j1 (k + 1) y0 y1 y2 y3 y4 y5 y6 y7 y8)) ∧ (∀ y0 y1 y2, LeO (laws_FnExactBlkPut.j2 k y0 y1 y2) (laws_FnExactBlkPut.j2 (k + 1) y0 y1 y2))
 | 0 => ⟨fun _ _ _ _ _ _ _ _ _ _ _ r h => by simp [laws_FnExactBlkPut.j0] at h, fun _ _ _ _ _ _ _ _ _ r h => by simp [laws_FnExactBlkPut.j1] at h, fun _ _ _ r h => by simp [laws_FnExactBlkPut.j2] at h⟩
 | k + 1 => by
  obtain ⟨ih0, ih1, ih2⟩ := laws_FnExactBlkPut.mono_l k
  refine ⟨?_, ?_, ?_⟩
  ·intro y0 y1 y2 y3 y4 y5 y6 y7 y8 y9 y10
   unfold laws_FnExactBlkPut.j0
   repeat' first
   | (with_reducible exact ih0 _ _ _ _ _ _ _ _ _ _ _)
   | (with_reducible exact ih1 _ _ _ _ _ _ _ _ _)
   | (with_reducible exact ih2 _ _ _)
   | (with_reducible exact impl_BlkPut.mono _ _ _ _ _ _)
   | (with_reducible exact laws_eqBlkPieceS.mono _ _ _)
   | (with_reducible exact laws_heldBlkPieceS.mono _ _ _)
   | (with_reducible exact laws_markBlkPieceS.mono _ _ _)
   | (with_reducible exact laws_toBlkPieceS.mono _ _)
   | (with_reducible exact spec_BlkPut.mono _ _ _ _ _ _)
   | (with_reducible exact LeO.refl _)
   | (with_reducible exact LeO.none _)
   | (with_reducible refine LeO.ite ?_ ?_)
   | (with_reducible refine LeO.bind ?_ (fun _ => ?_))
   | exact ih0 _ _ _ _ _ _ _ _ _ _ _
   | exact ih1 _ _ _ _ _ _ _ _ _
   | exact ih2 _ _ _
   | exact impl_BlkPut.mono _ _ _ _ _ _
   | exact laws_eqBlkPieceS.mono _ _ _
   | exact laws_heldBlkPieceS.mono _ _ _
   | exact laws_markBlkPieceS.mono _ _ _
   | exact laws_toBlkPieceS.mono _ _
   | exact spec_BlkPut.mono _ _ _ _ _ _
   | exact LeO.none _
   | refine LeO.ite ?_ ?_
   | refine LeO.bind ?_ (fun _ => ?_)
  ·intro y0 y1 y2 y3 y4 y5 y6 y7 y8
   unfold laws_FnExactBlkPut.j1
   repeat' first
   | (with_reducible exact ih0 _ _ _ _ _ _ _ _ _ _ _)
   | (with_reducible exact ih1 _ _ _ _ _ _ _ _ _)
   | (with_reducible exact ih2 _ _ _)
   | (with_reducible exact impl_BlkPut.mono _ _ _ _ _ _)
   | (with_reducible exact laws_eqBlkPieceS.mono _ _ _)
   | (with_reducible exact laws_heldBlkPieceS.mono _ _ _)
   | (with_reducible exact laws_markBlkPieceS.mono _ _ _)
   | (with_reducible exact laws_toBlkPieceS.mono _ _)
   | (with_reducible exact spec_BlkPut.mono _ _ _ _ _ _)
   | (with_reducible exact LeO.refl _)
   | (with_reducible exact LeO.none _)
   | (with_reducible refine LeO.ite ?_ ?_)
   | (with_reducible refine LeO.bind ?_ (fun _ => ?_))
   | exact ih0 _ _ _ _ _ _ _ _ _ _ _
   | exact ih1 _ _ _ _ _ _ _ _ _
   | exact ih2 _ _ _
   | exact impl_BlkPut.mono _ _ _ _ _ _
   | exact laws_eqBlkPieceS.mono _ _ _
   | exact laws_heldBlkPieceS.mono _ _ _
   | exact laws_markBlkPieceS.mono _ _ _
   | exact laws_toBlkPieceS.mono _ _
   | exact spec_BlkPut.mono _ _ _ _ _ _
   | exact LeO.none _
   | refine LeO.ite ?_ ?_
   | refine LeO.bind ?_ (fun _ => ?_)
  ·intro y0 y1 y2
   unfold laws_FnExactBlkPut.j2
   repeat' first
   | (with_reducible exact ih0 _ _ _ _ _ _ _ _ _ _ _)
   | (with_reducible exact ih1 _ _ _ _ _ _ _ _ _)
   | (with_reducible exact ih2 _ _ _)
   | (with_reducible exact impl_BlkPut.mono _ _ _ _ _ _)
   | (with_reducible exact laws_eqBlkPieceS.mono _ _ _)
   | (with_reducible exact laws_heldBlkPieceS.mono _ _ _)
   | (with_reducible exact laws_markBlkPieceS.mono _ _ _)
   | (with_reducible exact laws_toBlkPieceS.mono _ _)
   | (with_reducible exact spec_BlkPut.mono _ _ _ _ _ _)
   | (with_reducible exact LeO.refl _)
   | (with_reducible exact LeO.none _)
   | (with_reducible refine LeO.ite ?_ ?_)
   | (with_reducible refine LeO.bind ?_ (fun _ => ?_))
   | exact ih0 _ _ _ _ _ _ _ _ _ _ _
   | exact ih1 _ _ _ _ _ _ _ _ _
   | exact ih2 _ _ _
   | exact impl_BlkPut.mono _ _ _ _ _ _
   | exact laws_eqBlkPieceS.mono _ _ _
   | exact laws_heldBlkPieceS.mono _ _ _
   | exact laws_markBlkPieceS.mono _ _ _
   | exact laws_toBlkPieceS.mono _ _
   | exact spec_BlkPut.mono _ _ _ _ _ _
   | exact LeO.none _
   | refine LeO.ite ?_ ?_
   | refine LeO.bind ?_ (fun _ => ?_)
theorem laws_FnExactBlkPut.mono : ∀ a0 a1 a2 a3 a4 k, LeO (laws_FnExactBlkPut.f k a0 a1 a2 a3 a4) (laws_FnExactBlkPut.f (k + 1) a0 a1 a2 a3 a4) := by
 intro a0 a1 a2 a3 a4 k
 obtain ⟨ih0, ih1, ih2⟩ := laws_FnExactBlkPut.mono_l k
 unfold laws_FnExactBlkPut.f
 repeat' first
   | (with_reducible exact ih0 _ _ _ _ _ _ _ _ _ _ _)
   | (with_reducible exact ih1 _ _ _ _ _ _ _ _ _)
   | (with_reducible exact ih2 _ _ _)
   | (with_reducible exact impl_BlkPut.mono _ _ _ _ _ _)
   | (with_reducible exact laws_eqBlkPieceS.mono _ _ _)
   | (with_reducible exact laws_heldBlkPieceS.mono _ _ _)
   | (with_reducible exact laws_markBlkPieceS.mono _ _ _)
   | (with_reducible exact laws_toBlkPieceS.mono _ _)
   | (with_reducible exact spec_BlkPut.mono _ _ _ _ _ _)
   | (with_reducible exact LeO.refl _)
   | (with_reducible exact LeO.none _)
   | (with_reducible refine LeO.ite ?_ ?_)
   | (with_reducible refine LeO.bind ?_ (fun _ => ?_))
   | exact ih0 _ _ _ _ _ _ _ _ _ _ _
   | exact ih1 _ _ _ _ _ _ _ _ _
   | exact ih2 _ _ _
   | exact impl_BlkPut.mono _ _ _ _ _ _
   | exact laws_eqBlkPieceS.mono _ _ _
   | exact laws_heldBlkPieceS.mono _ _ _
   | exact laws_markBlkPieceS.mono _ _ _
   | exact laws_toBlkPieceS.mono _ _
   | exact spec_BlkPut.mono _ _ _ _ _ _
   | exact LeO.none _
   | refine LeO.ite ?_ ?_
   | refine LeO.bind ?_ (fun _ => ?_)
set_option maxHeartbeats 8000000 in
set_option maxRecDepth 100000 in
theorem laws_FnExactBlkPut.calls (k : Nat) (A0 : Option Addr) (c0 : Nat) (l0 : List (S66)) (a1 : Int) (a2 : Int) (a3 : Int) (a4 : Int) (r : Bool) (w : World) (hr0 : Kd.C k66 w A0 l0.length l0) (hc0 : l0.length ≤ c0) (h : laws_FnExactBlkPut.f k l0 a1 a2 a3 a4 = some r) :
  Calls Try.prog 14 #[.slice A0 l0.length c0, .int .i64 a1, .int .i64 a2, .int .i64 a3, .int .i64 a4] w fun e w' => e = .returned (.bool r) ∧ Below w.heap.size w w' := by
 have HR0 := Aside0.mk hr0
 have HC0 := Aside0.mk hc0
 clear hr0 hc0
 have HB := Aside0.mk (Below.refl w.heap.size w)
 have H : ((laws_szBlkPieceS.f l0 1048576).bind fun t671 => (if t671 < 0 then (some true) else ((laws_toBlkPieceS.f k l0).bind fun t672 => ((spec_BlkPut.f k t672 a1 a2 a3 a4).bind fun bt675 => ((laws_toBlkPieceS.f k l0).bind fun t679 => ((impl_BlkPut.f k t679 a1 a2 a3 a4).bind fun bt682 => ((laws_eqBlkPieceS.f k bt682.1 bt675.1).bind fun t686 => (if t686 = true then (laws_FnExactBlkPut.j0 k l0 a1 a2 a3 a4 bt675.1 bt675.2 t679 bt682.1 bt682.2 (bt682.2 != bt675.2)) else (laws_FnExactBlkPut.j0 k l0 a1 a2 a3 a4 bt675.1 bt675.2 t679 bt682.1 bt682.2 true))))))))) = some r := h
 clear h
 replace H := Option.bind_eq_some_iff.mp H
 obtain ⟨t671, A60, H⟩ := H
 replace H : (if t671 < 0 then (some true) else ((laws_toBlkPieceS.f k l0).bind fun t672 => ((spec_BlkPut.f k t672 a1 a2 a3 a4).bind fun bt675 => ((laws_toBlkPieceS.f k l0).bind fun t679 => ((impl_BlkPut.f k t679 a1 a2 a3 a4).bind fun bt682 => ((laws_eqBlkPieceS.f k bt682.1 bt675.1).bind fun t686 => (if t686 = true then (laws_FnExactBlkPut.j0 k l0 a1 a2 a3 a4 bt675.1 bt675.2 t679 bt682.1 bt682.2 (bt682.2 != bt675.2)) else (laws_FnExactBlkPut.j0 k l0 a1 a2 a3 a4 bt675.1 bt675.2 t679 bt682.1 bt682.2 true)))))))) = some r := H
 have A6 := Aside0.mk A60
 clear A60
 by_cases c7 : t671 < 0
 ·rw [if_pos c7] at H
  have c7b0 : decide (t671 < 0) = true := decide_eq_true c7
  clear c7
  obtain rfl := Option.some.inj H
  go_enter Try.func14, Try.ntmps14
  go_wp2_with (first | ((with_reducible refine gate_callee (f := 20) rfl ?_); refine goesL_ (some 24) rfl rfl Try.func20 (by kernel_rfl) rfl #[.slice A0 l0.length c0, .int .i64 1048576] rfl bM ?_; (with_reducible refine (laws_szBlkPieceS.calls _ _ l0 1048576 t671 _ ?side1 ?side2 A6.out).mono ?_); (case side1 => exact pC HR0.out); (case side2 => exact HC0.out); rintro e w' ⟨rfl, ⟨nd, rfl⟩⟩; refine ⟨_, rfl, ?_⟩))
  go_ret
  exact ⟨by first | rfl | (simp [errW_none, errW_some] <;> rfl) | (simp [*, errW_none, errW_some] <;> rfl), pB HB.out⟩
 ·rw [if_neg c7] at H
  have c7b0 : decide (t671 < 0) = false := decide_eq_false c7
  clear c7
  replace H := Option.bind_eq_some_iff.mp H
  obtain ⟨t672, A80, H⟩ := H
  replace H : ((spec_BlkPut.f k t672 a1 a2 a3 a4).bind fun bt675 => ((laws_toBlkPieceS.f k l0).bind fun t679 => ((impl_BlkPut.f k t679 a1 a2 a3 a4).bind fun bt682 => ((laws_eqBlkPieceS.f k bt682.1 bt675.1).bind fun t686 => (if t686 = true then (laws_FnExactBlkPut.j0 k l0 a1 a2 a3 a4 bt675.1 bt675.2 t679 bt682.1 bt682.2 (bt682.2 != bt675.2)) else (laws_FnExactBlkPut.j0 k l0 a1 a2 a3 a4 bt675.1 bt675.2 t679 bt682.1 bt682.2 true)))))) = some r := H
  have A8 := Aside0.mk A80
  clear A80
  replace H := Option.bind_eq_some_iff.mp H
  obtain ⟨⟨t675, t676⟩, A90, H⟩ := H
  replace H : ((laws_toBlkPieceS.f k l0).bind fun t679 => ((impl_BlkPut.f k t679 a1 a2 a3 a4).bind fun bt682 => ((laws_eqBlkPieceS.f k bt682.1 t675).bind fun t686 => (if t686 = true then (laws_FnExactBlkPut.j0 k l0 a1 a2 a3 a4 t675 t676 t679 bt682.1 bt682.2 (bt682.2 != t676)) else (laws_FnExactBlkPut.j0 k l0 a1 a2 a3 a4 t675 t676 t679 bt682.1 bt682.2 true))))) = some r := H
  have A9 := Aside0.mk A90
  clear A90
  replace H := Option.bind_eq_some_iff.mp H
  obtain ⟨t679, A100, H⟩ := H
  replace H : ((impl_BlkPut.f k t679 a1 a2 a3 a4).bind fun bt682 => ((laws_eqBlkPieceS.f k bt682.1 t675).bind fun t686 => (if t686 = true then (laws_FnExactBlkPut.j0 k l0 a1 a2 a3 a4 t675 t676 t679 bt682.1 bt682.2 (bt682.2 != t676)) else (laws_FnExactBlkPut.j0 k l0 a1 a2 a3 a4 t675 t676 t679 bt682.1 bt682.2 true)))) = some r := H
  have A10 := Aside0.mk A100
  clear A100
  replace H := Option.bind_eq_some_iff.mp H
  obtain ⟨⟨t682, t683⟩, A110, H⟩ := H
  replace H : ((laws_eqBlkPieceS.f k t682 t675).bind fun t686 => (if t686 = true then (laws_FnExactBlkPut.j0 k l0 a1 a2 a3 a4 t675 t676 t679 t682 t683 (t683 != t676)) else (laws_FnExactBlkPut.j0 k l0 a1 a2 a3 a4 t675 t676 t679 t682 t683 true))) = some r := H
  have A11 := Aside0.mk A110
  clear A110
  have HC12 := Aside0.mk H
  clear H
  go_enter Try.func14, Try.ntmps14
  go_upto_region 8 with (first | ((with_reducible refine gate_callee (f := 20) rfl ?_); refine goesL_ (some 24) rfl rfl Try.func20 (by kernel_rfl) rfl #[.slice A0 l0.length c0, .int .i64 1048576] rfl bM ?_; (with_reducible refine (laws_szBlkPieceS.calls _ _ l0 1048576 t671 _ ?side1 ?side2 A6.out).mono ?_); (case side1 => exact pC HR0.out); (case side2 => exact HC0.out); rintro e w' ⟨rfl, ⟨nd, rfl⟩⟩; refine ⟨_, rfl, ?_⟩) | ((with_reducible refine gate_callee (f := 22) rfl ?_); refine goesL_ (some 29) rfl rfl Try.func22 (by kernel_rfl) rfl #[.slice A0 l0.length c0] rfl bM ?_; (with_reducible refine (laws_toBlkPieceS.calls k _ _ l0 t672 _ ?side1 ?side2 A8.out).mono ?_); (case side1 => exact pC HR0.out); (case side2 => exact HC0.out); rintro e w13 ⟨v673, rfl, ho0, hb⟩; refine ⟨_, rfl, ?_⟩; have n0_ := Aside0.mk (Kd.R_lower ho0 (below_size (pB HB.out))); have n1_ := Aside0.mk (below_step (pB HB.out) hb); clear HB; have HO674 := n0_; have HB := n1_; clear n0_ n1_; (try clear hb); (try clear hb2); (try clear hk); (try clear hi); (try clear ho0); obtain ⟨Ao14, co14, eo14⟩ := Kd.R_slice HO674.out; subst eo14) | ((with_reducible refine gate_callee (f := 38) rfl ?_); refine goesL_ (some 34) rfl rfl Try.func38 (by kernel_rfl) rfl #[.slice Ao14 t672.length co14, .int .i64 a1, .int .i64 a2, .int .i64 a3, .int .i64 a4] rfl bM ?_; (with_reducible refine (spec_BlkPut.calls k _ _ t672 a1 a2 a3 a4 t675 t676 _ ?side1 ?side2 A9.out).mono ?_); (case side1 => exact pC (Kd.R_reads' HO674.out).2.2); (case side2 => exact (Kd.R_reads' HO674.out).2.1); rintro e w15 ⟨v677, rfl, ho0, hb⟩; refine ⟨_, rfl, ?_⟩; have n0_ := Aside0.mk (Kd.R_elder' (pR HO674.out) (Kd.R_base ho0) hb); have n1_ := Aside0.mk (Kd.R_lower (Kd.R_new' ho0 (Kd.R_lt (pR HO674.out))) (below_size (pB HB.out))); have n2_ := Aside0.mk (below_step (pB HB.out) hb); clear HO674; clear HB; have HO674 := n0_; have HO678 := n1_; have HB := n2_; clear n0_ n1_ n2_; (try clear hb); (try clear hb2); (try clear hk); (try clear hi); (try clear ho0)) | ((with_reducible refine gate_callee (f := 22) rfl ?_); refine goesL_ (some 38) rfl rfl Try.func22 (by kernel_rfl) rfl #[.slice A0 l0.length c0] rfl bM ?_; (with_reducible refine (laws_toBlkPieceS.calls k _ _ l0 t679 _ ?side1 ?side2 A10.out).mono ?_); (case side1 => repeat (first | exact (Kd.C_below HR0.out HB.out) | (with_reducible refine Kd.C_alloc ?_ _) | (with_reducible refine Kd.C_drewN ?_ _) | (with_reducible refine Kd.C_drew ?_))); (case side2 => exact HC0.out); rintro e w16 ⟨v680, rfl, ho0, hb⟩; refine ⟨_, rfl, ?_⟩; have n0_ := Aside0.mk (Kd.R_elder' (pR HO674.out) (Kd.R_base ho0) hb); have n1_ := Aside0.mk (Kd.R_elder' (pR HO678.out) (Kd.R_base ho0) hb); have n2_ := Aside0.mk (Kd.R_lower (Kd.R_new' (Kd.R_new' ho0 (Kd.R_lt (pR HO674.out))) (Kd.R_lt (pR HO678.out))) (below_size (pB HB.out))); have n3_ := Aside0.mk (below_step (pB HB.out) hb); clear HO674; clear HO678; clear HB; have HO674 := n0_; have HO678 := n1_; have HO681 := n2_; have HB := n3_; clear n0_ n1_ n2_ n3_; (try clear hb); (try clear hb2); (try clear hk); (try clear hi); (try clear ho0); obtain ⟨Ao17, co17, eo17⟩ := Kd.R_slice HO681.out; subst eo17) | ((with_reducible refine gate_callee (f := 39) rfl ?_); refine goesL_ (some 45) rfl rfl Try.func39 (by kernel_rfl) rfl #[.slice Ao17 t679.length co17, .int .i64 a1, .int .i64 a2, .int .i64 a3, .int .i64 a4] rfl bM ?_; (with_reducible refine (impl_BlkPut.calls k _ _ t679 a1 a2 a3 a4 t682 t683 _ ?side1 ?side2 A11.out).mono ?_); (case side1 => exact pC (Kd.R_reads' HO681.out).2.2); (case side2 => exact (Kd.R_reads' HO681.out).2.1); rintro e w18 ⟨v684, rfl, ho0, hb⟩; refine ⟨_, rfl, ?_⟩; have n0_ := Aside0.mk (Kd.R_elder' (pR HO674.out) (Kd.R_base ho0) hb); have n1_ := Aside0.mk (Kd.R_elder' (pR HO678.out) (Kd.R_base ho0) hb); have n2_ := Aside0.mk (Kd.R_elder' (pR HO681.out) (Kd.R_base ho0) hb); have n3_ := Aside0.mk (Kd.R_lower (Kd.R_new' (Kd.R_new' (Kd.R_new' ho0 (Kd.R_lt (pR HO674.out))) (Kd.R_lt (pR HO678.out))) (Kd.R_lt (pR HO681.out))) (below_size (pB HB.out))); have n4_ := Aside0.mk (below_step (pB HB.out) hb); clear HO674; clear HO678; clear HO681; clear HB; have HO674 := n0_; have HO678 := n1_; have HO681 := n2_; have HO685 := n3_; have HB := n4_; clear n0_ n1_ n2_ n3_ n4_; (try clear hb); (try clear hb2); (try clear hk); (try clear hi); (try clear ho0)))
  (try simp only [Act.put, List.setIfInBounds_toArray, List.set_cons_zero, List.set_cons_succ])
  go_cut [56] (fun v56 wc => ∃ (kq : Nat) (x56_11 : Bool), v56 = .bool x56_11 ∧ Aside0 (laws_FnExactBlkPut.j0 kq l0 a1 a2 a3 a4 t675 t676 t679 t682 t683 x56_11 = some r) ∧ Aside0 (kq ≤ k) ∧ Aside0 (Kd.R k55 55 wc w.heap.size (fun k_ => some k_ ≠ ((.slice Ao17 t679.length co17) : Value).ownBlock ∧ some k_ ≠ (v684 : Value).ownBlock) v677 t675) ∧ Aside0 (Kd.R k55 55 wc w.heap.size (fun k_ => some k_ ≠ (v677 : Value).ownBlock ∧ some k_ ≠ (v684 : Value).ownBlock) (.slice Ao17 t679.length co17) t679) ∧ Aside0 (Kd.R k55 55 wc w.heap.size (fun k_ => some k_ ≠ (v677 : Value).ownBlock ∧ some k_ ≠ ((.slice Ao17 t679.length co17) : Value).ownBlock) v684 t682) ∧ Aside0 (Below w.heap.size w wc))
  case first =>
   have H := HC12.out
   clear HC12
   replace H := Option.bind_eq_some_iff.mp H
   obtain ⟨t686, A190, H⟩ := H
   replace H : (if t686 = true then (laws_FnExactBlkPut.j0 k l0 a1 a2 a3 a4 t675 t676 t679 t682 t683 (t683 != t676)) else (laws_FnExactBlkPut.j0 k l0 a1 a2 a3 a4 t675 t676 t679 t682 t683 true)) = some r := H
   have A19 := Aside0.mk A190
   clear A190
   by_cases c20 : t686 = true
   ·subst c20
    have H1 : (laws_FnExactBlkPut.j0 k l0 a1 a2 a3 a4 t675 t676 t679 t682 t683 (t683 != t676)) = some r := by rw [if_pos rfl] at H; exact H
    clear H
    have H := H1
    clear H1
    have H' := Aside0.mk H
    clear H
    obtain ⟨Ao21, co21, eo21⟩ := Kd.R_slice HO685.out
    subst eo21
    obtain ⟨Ao22, co22, eo22⟩ := Kd.R_slice HO678.out
    subst eo22
    go_wp2_with (first | ((with_reducible refine gate_callee (f := 24) rfl ?_); refine goesL_ (some 50) rfl rfl Try.func24 (by kernel_rfl) rfl #[.slice Ao21 t682.length co21, .slice Ao22 t675.length co22] rfl bM ?_; (with_reducible refine (laws_eqBlkPieceS.calls k _ _ t682 _ _ t675 true _ ?side1 ?side2 ?side3 ?side4 A19.out).mono ?_); (case side1 => exact pC (Kd.R_reads' HO685.out).2.2); (case side2 => exact (Kd.R_reads' HO685.out).2.1); (case side3 => exact pC (Kd.R_reads' HO678.out).2.2); (case side4 => exact (Kd.R_reads' HO678.out).2.1); rintro e w23 ⟨rfl, hb⟩; refine ⟨_, rfl, ?_⟩; have n0_ := Aside0.mk (Kd.R_below (pR HO674.out) hb); have n1_ := Aside0.mk (Kd.R_below (pR HO678.out) hb); have n2_ := Aside0.mk (Kd.R_below (pR HO681.out) hb); have n3_ := Aside0.mk (Kd.R_below (pR HO685.out) hb); have n4_ := Aside0.mk (below_step (pB HB.out) hb); clear HO674; clear HO678; clear HO681; clear HO685; clear HB; have HO674 := n0_; have HO678 := n1_; have HO681 := n2_; have HO685 := n3_; have HB := n4_; clear n0_ n1_ n2_ n3_ n4_; (try clear hb); (try clear hb2); (try clear hk); (try clear hi)))
    go_meet
    case rel => exact ⟨_, ((t683 != t676)), (by first | rfl | (simp; done) | (simp [*]; done)), H', ⟨by first | omega | exact Nat.le_refl _⟩, ⟨pR (Kd.R_mono HO678.out (fun _ hk => ⟨hk.1.2, hk.2⟩))⟩, ⟨pR (Kd.R_mono HO681.out (fun _ hk => ⟨hk.1.2, hk.2⟩))⟩, ⟨pR (Kd.R_mono HO685.out (fun _ hk => ⟨hk.1.2, hk.2⟩))⟩, ⟨pB HB.out⟩⟩
   ·replace c20 := Bool.eq_false_iff.mpr c20
    subst c20
    have H1 : (laws_FnExactBlkPut.j0 k l0 a1 a2 a3 a4 t675 t676 t679 t682 t683 true) = some r := by rw [if_neg (show ¬ (false = true) by decide)] at H; exact H
    clear H
    have H := H1
    clear H1
    have H' := Aside0.mk H
    clear H
    obtain ⟨Ao24, co24, eo24⟩ := Kd.R_slice HO685.out
    subst eo24
    obtain ⟨Ao25, co25, eo25⟩ := Kd.R_slice HO678.out
    subst eo25
    go_wp2_with (first | ((with_reducible refine gate_callee (f := 24) rfl ?_); refine goesL_ (some 50) rfl rfl Try.func24 (by kernel_rfl) rfl #[.slice Ao24 t682.length co24, .slice Ao25 t675.length co25] rfl bM ?_; (with_reducible refine (laws_eqBlkPieceS.calls k _ _ t682 _ _ t675 false _ ?side1 ?side2 ?side3 ?side4 A19.out).mono ?_); (case side1 => exact pC (Kd.R_reads' HO685.out).2.2); (case side2 => exact (Kd.R_reads' HO685.out).2.1); (case side3 => exact pC (Kd.R_reads' HO678.out).2.2); (case side4 => exact (Kd.R_reads' HO678.out).2.1); rintro e w26 ⟨rfl, hb⟩; refine ⟨_, rfl, ?_⟩; have n0_ := Aside0.mk (Kd.R_below (pR HO674.out) hb); have n1_ := Aside0.mk (Kd.R_below (pR HO678.out) hb); have n2_ := Aside0.mk (Kd.R_below (pR HO681.out) hb); have n3_ := Aside0.mk (Kd.R_below (pR HO685.out) hb); have n4_ := Aside0.mk (below_step (pB HB.out) hb); clear HO674; clear HO678; clear HO681; clear HO685; clear HB; have HO674 := n0_; have HO678 := n1_; have HO681 := n2_; have HO685 := n3_; have HB := n4_; clear n0_ n1_ n2_ n3_ n4_; (try clear hb); (try clear hb2); (try clear hk); (try clear hi)))
    go_meet
    case rel => exact ⟨_, (true), (by first | rfl | (simp; done) | (simp [*]; done)), H', ⟨by first | omega | exact Nat.le_refl _⟩, ⟨pR (Kd.R_mono HO678.out (fun _ hk => ⟨hk.1.2, hk.2⟩))⟩, ⟨pR (Kd.R_mono HO681.out (fun _ hk => ⟨hk.1.2, hk.2⟩))⟩, ⟨pR (Kd.R_mono HO685.out (fun _ hk => ⟨hk.1.2, hk.2⟩))⟩, ⟨pB HB.out⟩⟩
  case rest =>
   clear HC12
   try clear c1
   try clear c2
   try clear p2
   try clear c3
   try clear c7
   try clear c7b0
   try clear c14
   try clear c20
   try clear c22
   try clear c24
   obtain ⟨kq, x56_11, rfl, HA, HJ11, HO_12, HO_14, HO_15, HB⟩ := hcut
   cases kq with
   | zero => exact absurd HA.out (by simp [laws_FnExactBlkPut.j0])
   | succ kj11 =>
    have H := HA.out
    clear HA
    simp only [laws_FnExactBlkPut.j0] at H
    by_cases c27 : x56_11 = true
    ·subst c27
     have H1 : (some false) = some r := by rw [if_pos rfl] at H; exact H
     clear H
     have H := H1
     clear H1
     obtain rfl := Option.some.inj H
     go_wp2
     go_ret
     exact ⟨by first | rfl | (simp [errW_none, errW_some] <;> rfl) | (simp [*, errW_none, errW_some] <;> rfl), pB HB.out⟩
    ·replace c27 := Bool.eq_false_iff.mpr c27
     subst c27
     have H1 : ((laws_toBlkPieceS.f kj11 l0).bind fun t687 => ((laws_eqBlkPieceS.f kj11 t679 t687).bind fun t690 => (if t690 = true then ((laws_markBlkPieceS.f kj11 t679 1).bind fun bt691 => (if bt691.1 < 0 then (laws_FnExactBlkPut.j1 kj11 l0 a1 a2 a3 a4 t675 t676 t682 true) else ((laws_eqBlkPieceS.f kj11 t682 t675).bind fun t693 => (if t693 = true then (laws_FnExactBlkPut.j1 kj11 l0 a1 a2 a3 a4 t675 t676 t682 (t683 != t676)) else (laws_FnExactBlkPut.j1 kj11 l0 a1 a2 a3 a4 t675 t676 t682 true))))) else (some false)))) = some r := by rw [if_neg (show ¬ (false = true) by decide)] at H; exact H
     clear H
     have H := H1
     clear H1
     replace H := Option.bind_eq_some_iff.mp H
     obtain ⟨t687, A280, H⟩ := H
     replace H : ((laws_eqBlkPieceS.f kj11 t679 t687).bind fun t690 => (if t690 = true then ((laws_markBlkPieceS.f kj11 t679 1).bind fun bt691 => (if bt691.1 < 0 then (laws_FnExactBlkPut.j1 kj11 l0 a1 a2 a3 a4 t675 t676 t682 true) else ((laws_eqBlkPieceS.f kj11 t682 t675).bind fun t693 => (if t693 = true then (laws_FnExactBlkPut.j1 kj11 l0 a1 a2 a3 a4 t675 t676 t682 (t683 != t676)) else (laws_FnExactBlkPut.j1 kj11 l0 a1 a2 a3 a4 t675 t676 t682 true))))) else (some false))) = some r := H
     have A28 := Aside0.mk A280
     clear A280
     replace H := Option.bind_eq_some_iff.mp H
     obtain ⟨t690, A290, H⟩ := H
     replace H : (if t690 = true then ((laws_markBlkPieceS.f kj11 t679 1).bind fun bt691 => (if bt691.1 < 0 then (laws_FnExactBlkPut.j1 kj11 l0 a1 a2 a3 a4 t675 t676 t682 true) else ((laws_eqBlkPieceS.f kj11 t682 t675).bind fun t693 => (if t693 = true then (laws_FnExactBlkPut.j1 kj11 l0 a1 a2 a3 a4 t675 t676 t682 (t683 != t676)) else (laws_FnExactBlkPut.j1 kj11 l0 a1 a2 a3 a4 t675 t676 t682 true))))) else (some false)) = some r := H
     have A29 := Aside0.mk A290
     clear A290
     by_cases c30 : t690 = true
     ·subst c30
      have H1 : ((laws_markBlkPieceS.f kj11 t679 1).bind fun bt691 => (if bt691.1 < 0 then (laws_FnExactBlkPut.j1 kj11 l0 a1 a2 a3 a4 t675 t676 t682 true) else ((laws_eqBlkPieceS.f kj11 t682 t675).bind fun t693 => (if t693 = true then (laws_FnExactBlkPut.j1 kj11 l0 a1 a2 a3 a4 t675 t676 t682 (t683 != t676)) else (laws_FnExactBlkPut.j1 kj11 l0 a1 a2 a3 a4 t675 t676 t682 true))))) = some r := by rw [if_pos rfl] at H; exact H
      clear H
      have H := H1
      clear H1
      replace H := Option.bind_eq_some_iff.mp H
      obtain ⟨⟨t691, t692⟩, A310, H⟩ := H
      replace H : (if t691 < 0 then (laws_FnExactBlkPut.j1 kj11 l0 a1 a2 a3 a4 t675 t676 t682 true) else ((laws_eqBlkPieceS.f kj11 t682 t675).bind fun t693 => (if t693 = true then (laws_FnExactBlkPut.j1 kj11 l0 a1 a2 a3 a4 t675 t676 t682 (t683 != t676)) else (laws_FnExactBlkPut.j1 kj11 l0 a1 a2 a3 a4 t675 t676 t682 true)))) = some r := H
      have A31 := Aside0.mk A310
      clear A310
      have HC32 := Aside0.mk H
      clear H
      go_upto_region 14 with (first | ((with_reducible refine gate_callee (f := 22) rfl ?_); refine goesL_ (some 59) rfl rfl Try.func22 (by kernel_rfl) rfl #[.slice A0 l0.length c0] rfl bM ?_; (with_reducible refine (laws_toBlkPieceS.calls kj11 _ _ l0 t687 _ ?side1 ?side2 A28.out).mono ?_); (case side1 => repeat (first | exact (Kd.C_below HR0.out HB.out) | (with_reducible refine Kd.C_alloc ?_ _) | (with_reducible refine Kd.C_drewN ?_ _) | (with_reducible refine Kd.C_drew ?_))); (case side2 => exact HC0.out); rintro e w33 ⟨v688, rfl, ho0, hb⟩; refine ⟨_, rfl, ?_⟩; have n0_ := Aside0.mk (Kd.R_elder' (pR HO_12.out) (Kd.R_base ho0) hb); have n1_ := Aside0.mk (Kd.R_elder' (pR HO_14.out) (Kd.R_base ho0) hb); have n2_ := Aside0.mk (Kd.R_elder' (pR HO_15.out) (Kd.R_base ho0) hb); have n3_ := Aside0.mk (Kd.R_lower (Kd.R_new' (Kd.R_new' (Kd.R_new' ho0 (Kd.R_lt (pR HO_12.out))) (Kd.R_lt (pR HO_14.out))) (Kd.R_lt (pR HO_15.out))) (below_size (pB HB.out))); have n4_ := Aside0.mk (below_step (pB HB.out) hb); clear HO_12; clear HO_14; clear HO_15; clear HB; have HO_12 := n0_; have HO_14 := n1_; have HO_15 := n2_; have HO689 := n3_; have HB := n4_; clear n0_ n1_ n2_ n3_ n4_; (try clear hb); (try clear hb2); (try clear hk); (try clear hi); (try clear ho0); obtain ⟨Ao34, co34, eo34⟩ := Kd.R_slice HO689.out; subst eo34) | ((with_reducible refine gate_callee (f := 24) rfl ?_); refine goesL_ (some 60) rfl rfl Try.func24 (by kernel_rfl) rfl #[.slice Ao17 t679.length co17, .slice Ao34 t687.length co34] rfl bM ?_; (with_reducible refine (laws_eqBlkPieceS.calls kj11 _ _ t679 _ _ t687 true _ ?side1 ?side2 ?side3 ?side4 A29.out).mono ?_); (case side1 => exact pC (Kd.R_reads' HO_14.out).2.2); (case side2 => exact (Kd.R_reads' HO_14.out).2.1); (case side3 => exact pC (Kd.R_reads' HO689.out).2.2); (case side4 => exact (Kd.R_reads' HO689.out).2.1); rintro e w35 ⟨rfl, hb⟩; refine ⟨_, rfl, ?_⟩; have n0_ := Aside0.mk (Kd.R_below (pR HO_12.out) hb); have n1_ := Aside0.mk (Kd.R_below (pR HO_14.out) hb); have n2_ := Aside0.mk (Kd.R_below (pR HO_15.out) hb); have n3_ := Aside0.mk (Kd.R_below (pR HO689.out) hb); have n4_ := Aside0.mk (below_step (pB HB.out) hb); clear HO_12; clear HO_14; clear HO_15; clear HO689; clear HB; have HO_12 := n0_; have HO_14 := n1_; have HO_15 := n2_; have HO689 := n3_; have HB := n4_; clear n0_ n1_ n2_ n3_ n4_; (try clear hb); (try clear hb2); (try clear hk); (try clear hi)) | ((with_reducible refine gate_callee (f := 35) rfl ?_); refine goesL_ (some 64) rfl rfl Try.func35 (by kernel_rfl) rfl #[.slice Ao17 t679.length co17, .int .i64 1] rfl bM ?_; (with_reducible refine (laws_markBlkPieceS.calls kj11 (fun k_ => some k_ = (.slice Ao17 t679.length co17 : Value).ownBlock) (.slice Ao17 t679.length co17) t679 1 t691 t692 w _ ?side1 ?side2 A31.out).mono ?_); (case side1 => repeat (first | (with_reducible first | exact HB.out | apply below_alloc | apply pw_below_drewN | apply below_drew1) | exact HB.out)); (case side2 => exact Kd.R_tight rfl HO_14.out); rintro e w36 ⟨rfl, hy0, hb, hkp⟩; refine ⟨_, rfl, ?_⟩; have n0_ := Aside0.mk (Kd.R_mono (ok' := fun k_ => some k_ ≠ (.slice Ao17 t679.length co17 : Value).ownBlock ∧ some k_ ≠ (v684 : Value).ownBlock ∧ some k_ ≠ (.slice Ao34 t687.length co34 : Value).ownBlock) (Kd.R_keptB (HO_12.out) hkp (fun k_ hk_ hs_ => (hk_.1.1) hs_)) (fun k_ hk_ => ⟨hk_.1.1.1, hk_.1.1.2, hk_.1.2⟩)); have n1_ := Aside0.mk (Kd.R_reok rfl hy0 (fun k_ e_ => HO_14.out.1 k_ e_)); have n2_ := Aside0.mk (Kd.R_mono (ok' := fun k_ => some k_ ≠ (v677 : Value).ownBlock ∧ some k_ ≠ (.slice Ao17 t679.length co17 : Value).ownBlock ∧ some k_ ≠ (.slice Ao34 t687.length co34 : Value).ownBlock) (Kd.R_keptB (HO_15.out) hkp (fun k_ hk_ hs_ => (hk_.1.2) hs_)) (fun k_ hk_ => ⟨hk_.1.1.1, hk_.1.1.2, hk_.1.2⟩)); have n3_ := Aside0.mk (Kd.R_mono (ok' := fun k_ => some k_ ≠ (v677 : Value).ownBlock ∧ some k_ ≠ (.slice Ao17 t679.length co17 : Value).ownBlock ∧ some k_ ≠ (v684 : Value).ownBlock) (Kd.R_keptB (HO689.out) hkp (fun k_ hk_ hs_ => (hk_.1.2) hs_)) (fun k_ hk_ => ⟨hk_.1.1.1.2, hk_.1.1.2, hk_.1.2⟩)); have n4_ := Aside0.mk (hb); clear HO_12; clear HO_14; clear HO_15; clear HO689; clear HB; have HO_12 := n0_; have HO_14 := n1_; have HO_15 := n2_; have HO689 := n3_; have HB := n4_; clear n0_ n1_ n2_ n3_ n4_; (try clear hb); (try clear hkp); (try clear hy0)))
      (try simp only [Act.put, List.setIfInBounds_toArray, List.set_cons_zero, List.set_cons_succ])
      go_cut [77] (fun v77 wc => ∃ (kq : Nat) (x77_31 : Bool), v77 = .bool x77_31 ∧ Aside0 (laws_FnExactBlkPut.j1 kq l0 a1 a2 a3 a4 t675 t676 t682 x77_31 = some r) ∧ Aside0 (kq ≤ kj11) ∧ Aside0 (Kd.R k55 55 wc w.heap.size (fun k_ => some k_ ≠ (v684 : Value).ownBlock) v677 t675) ∧ Aside0 (Kd.R k55 55 wc w.heap.size (fun k_ => some k_ ≠ (v677 : Value).ownBlock) v684 t682) ∧ Aside0 (Below w.heap.size w wc))
      case first =>
       have H := HC32.out
       clear HC32
       by_cases c37 : t691 < 0
       ·rw [if_pos c37] at H
        have c37b0 : decide (t691 < 0) = true := decide_eq_true c37
        clear c37
        (first | rw [c37b0] | (simp only [i64_w, i32_w]; rw [c37b0]) | skip)
        have H' := Aside0.mk H
        clear H
        go_wp2
        go_meet
        case rel => exact ⟨_, (true), (by first | rfl | (simp; done) | (simp [*]; done)), H', ⟨by have := HJ11.out; first | omega | exact Nat.le_refl _⟩, ⟨pR (Kd.R_mono HO_12.out (fun _ hk => hk.2.1))⟩, ⟨pR (Kd.R_mono HO_15.out (fun _ hk => hk.1))⟩, ⟨pB HB.out⟩⟩
       ·rw [if_neg c37] at H
        have c37b0 : decide (t691 < 0) = false := decide_eq_false c37
        clear c37
        (first | rw [c37b0] | (simp only [i64_w, i32_w]; rw [c37b0]) | skip)
        replace H := Option.bind_eq_some_iff.mp H
        obtain ⟨t693, A380, H⟩ := H
        replace H : (if t693 = true then (laws_FnExactBlkPut.j1 kj11 l0 a1 a2 a3 a4 t675 t676 t682 (t683 != t676)) else (laws_FnExactBlkPut.j1 kj11 l0 a1 a2 a3 a4 t675 t676 t682 true)) = some r := H
        have A38 := Aside0.mk A380
        clear A380
        by_cases c39 : t693 = true
        ·subst c39
         have H1 : (laws_FnExactBlkPut.j1 kj11 l0 a1 a2 a3 a4 t675 t676 t682 (t683 != t676)) = some r := by rw [if_pos rfl] at H; exact H
         clear H
         have H := H1
         clear H1
         have H' := Aside0.mk H
         clear H
         obtain ⟨Ao40, co40, eo40⟩ := Kd.R_slice HO_15.out
         subst eo40
         obtain ⟨Ao41, co41, eo41⟩ := Kd.R_slice HO_12.out
         subst eo41
         go_wp2_with (first | (go_at_call 24; (with_reducible refine (laws_eqBlkPieceS.calls kj11 _ _ t682 _ _ t675 true _ ?side1 ?side2 ?side3 ?side4 A38.out).mono ?_); (case side1 => exact pC (Kd.R_reads' HO_15.out).2.2); (case side2 => exact (Kd.R_reads' HO_15.out).2.1); (case side3 => exact pC (Kd.R_reads' HO_12.out).2.2); (case side4 => exact (Kd.R_reads' HO_12.out).2.1); rintro e w42 ⟨rfl, hb⟩; have n0_ := Aside0.mk (Kd.R_below (pR HO_12.out) hb); have n1_ := Aside0.mk (Kd.R_below (pR HO_14.out) hb); have n2_ := Aside0.mk (Kd.R_below (pR HO_15.out) hb); have n3_ := Aside0.mk (Kd.R_below (pR HO689.out) hb); have n4_ := Aside0.mk (below_step (pB HB.out) hb); clear HO_12; clear HO_14; clear HO_15; clear HO689; clear HB; have HO_12 := n0_; have HO_14 := n1_; have HO_15 := n2_; have HO689 := n3_; have HB := n4_; clear n0_ n1_ n2_ n3_ n4_; (try clear hb); (try clear hb2); (try clear hk); (try clear hi)))
         go_meet
         case rel => exact ⟨_, ((t683 != t676)), (by first | rfl | (simp; done) | (simp [*]; done)), H', ⟨by have := HJ11.out; first | omega | exact Nat.le_refl _⟩, ⟨pR (Kd.R_mono HO_12.out (fun _ hk => hk.2.1))⟩, ⟨pR (Kd.R_mono HO_15.out (fun _ hk => hk.1))⟩, ⟨pB HB.out⟩⟩
        ·replace c39 := Bool.eq_false_iff.mpr c39
         subst c39
         have H1 : (laws_FnExactBlkPut.j1 kj11 l0 a1 a2 a3 a4 t675 t676 t682 true) = some r := by rw [if_neg (show ¬ (false = true) by decide)] at H; exact H
         clear H
         have H := H1
         clear H1
         have H' := Aside0.mk H
         clear H
         obtain ⟨Ao43, co43, eo43⟩ := Kd.R_slice HO_15.out
         subst eo43
         obtain ⟨Ao44, co44, eo44⟩ := Kd.R_slice HO_12.out
         subst eo44
         go_wp2_with (first | (go_at_call 24; (with_reducible refine (laws_eqBlkPieceS.calls kj11 _ _ t682 _ _ t675 false _ ?side1 ?side2 ?side3 ?side4 A38.out).mono ?_); (case side1 => exact pC (Kd.R_reads' HO_15.out).2.2); (case side2 => exact (Kd.R_reads' HO_15.out).2.1); (case side3 => exact pC (Kd.R_reads' HO_12.out).2.2); (case side4 => exact (Kd.R_reads' HO_12.out).2.1); rintro e w45 ⟨rfl, hb⟩; have n0_ := Aside0.mk (Kd.R_below (pR HO_12.out) hb); have n1_ := Aside0.mk (Kd.R_below (pR HO_14.out) hb); have n2_ := Aside0.mk (Kd.R_below (pR HO_15.out) hb); have n3_ := Aside0.mk (Kd.R_below (pR HO689.out) hb); have n4_ := Aside0.mk (below_step (pB HB.out) hb); clear HO_12; clear HO_14; clear HO_15; clear HO689; clear HB; have HO_12 := n0_; have HO_14 := n1_; have HO_15 := n2_; have HO689 := n3_; have HB := n4_; clear n0_ n1_ n2_ n3_ n4_; (try clear hb); (try clear hb2); (try clear hk); (try clear hi)))
         go_meet
         case rel => exact ⟨_, (true), (by first | rfl | (simp; done) | (simp [*]; done)), H', ⟨by have := HJ11.out; first | omega | exact Nat.le_refl _⟩, ⟨pR (Kd.R_mono HO_12.out (fun _ hk => hk.2.1))⟩, ⟨pR (Kd.R_mono HO_15.out (fun _ hk => hk.1))⟩, ⟨pB HB.out⟩⟩
      case rest =>
       clear HC32
       try clear c1
       try clear c2
       try clear p2
       try clear c3
       try clear c7
       try clear c7b0
       try clear c14
       try clear c20
       try clear c22
       try clear c24
       try clear c27
       try clear c30
       try clear c35
       try clear c37
       try clear c37b0
       try clear c38
       try clear c39
       try clear p2
       obtain ⟨kq, x77_31, rfl, HA, HJ31, HO_12, HO_15, HB⟩ := hcut
       cases kq with
       | zero => exact absurd HA.out (by simp [laws_FnExactBlkPut.j1])
       | succ kj31 =>
        have H := HA.out
        clear HA
        simp only [laws_FnExactBlkPut.j1] at H
        by_cases c46 : x77_31 = true
        ·subst c46
         have H1 : (some false) = some r := by rw [if_pos rfl] at H; exact H
         clear H
         have H := H1
         clear H1
         obtain rfl := Option.some.inj H
         go_wp2
         go_ret
         exact ⟨by first | rfl | (simp [errW_none, errW_some] <;> rfl) | (simp [*, errW_none, errW_some] <;> rfl), pB HB.out⟩
        ·replace c46 := Bool.eq_false_iff.mpr c46
         subst c46
         have H1 : ((laws_markBlkPieceS.f kj31 t682 1).bind fun bt694 => ((laws_heldBlkPieceS.f kj31 bt694.2 1).bind fun t696 => (if t696 < 0 then (some false) else (if t696 = bt694.1 then ((laws_toBlkPieceS.f kj31 l0).bind fun t697 => ((impl_BlkPut.f kj31 t697 a1 a2 a3 a4).bind fun bt700 => ((laws_eqBlkPieceS.f kj31 bt700.1 t675).bind fun t704 => (if t704 = true then (laws_FnExactBlkPut.j2 kj31 bt694.2 bt694.1 (bt700.2 != t676)) else (laws_FnExactBlkPut.j2 kj31 bt694.2 bt694.1 true))))) else (some false))))) = some r := by rw [if_neg (show ¬ (false = true) by decide)] at H; exact H
         clear H
         have H := H1
         clear H1
         replace H := Option.bind_eq_some_iff.mp H
         obtain ⟨⟨t694, t695⟩, A470, H⟩ := H
         replace H : ((laws_heldBlkPieceS.f kj31 t695 1).bind fun t696 => (if t696 < 0 then (some false) else (if t696 = t694 then ((laws_toBlkPieceS.f kj31 l0).bind fun t697 => ((impl_BlkPut.f kj31 t697 a1 a2 a3 a4).bind fun bt700 => ((laws_eqBlkPieceS.f kj31 bt700.1 t675).bind fun t704 => (if t704 = true then (laws_FnExactBlkPut.j2 kj31 t695 t694 (bt700.2 != t676)) else (laws_FnExactBlkPut.j2 kj31 t695 t694 true))))) else (some false)))) = some r := H
         have A47 := Aside0.mk A470
         clear A470
         replace H := Option.bind_eq_some_iff.mp H
         obtain ⟨t696, A480, H⟩ := H
         replace H : (if t696 < 0 then (some false) else (if t696 = t694 then ((laws_toBlkPieceS.f kj31 l0).bind fun t697 => ((impl_BlkPut.f kj31 t697 a1 a2 a3 a4).bind fun bt700 => ((laws_eqBlkPieceS.f kj31 bt700.1 t675).bind fun t704 => (if t704 = true then (laws_FnExactBlkPut.j2 kj31 t695 t694 (bt700.2 != t676)) else (laws_FnExactBlkPut.j2 kj31 t695 t694 true))))) else (some false))) = some r := H
         have A48 := Aside0.mk A480
         clear A480
         by_cases c49 : t696 < 0
         ·rw [if_pos c49] at H
          have c49b0 : decide (t696 < 0) = true := decide_eq_true c49
          clear c49
          obtain rfl := Option.some.inj H
          obtain ⟨Ao50, co50, eo50⟩ := Kd.R_slice HO_15.out
          subst eo50
          go_wp2_with (first | ((with_reducible refine gate_callee (f := 35) rfl ?_); refine goesL_ (some 80) rfl rfl Try.func35 (by kernel_rfl) rfl #[.slice Ao50 t682.length co50, .int .i64 1] rfl bM ?_; (with_reducible refine (laws_markBlkPieceS.calls kj31 (fun k_ => some k_ = (.slice Ao50 t682.length co50 : Value).ownBlock) (.slice Ao50 t682.length co50) t682 1 t694 t695 w _ ?side1 ?side2 A47.out).mono ?_); (case side1 => repeat (first | (with_reducible first | exact HB.out | apply below_alloc | apply pw_below_drewN | apply below_drew1) | exact HB.out)); (case side2 => exact Kd.R_tight rfl HO_15.out); rintro e w51 ⟨rfl, hy0, hb, hkp⟩; refine ⟨_, rfl, ?_⟩; have n0_ := Aside0.mk (Kd.R_mono (ok' := fun k_ => some k_ ≠ (.slice Ao50 t682.length co50 : Value).ownBlock) (Kd.R_keptB (HO_12.out) hkp (fun k_ hk_ hs_ => (hk_) hs_)) (fun k_ hk_ => hk_.1)); have n1_ := Aside0.mk (Kd.R_reok rfl hy0 (fun k_ e_ => HO_15.out.1 k_ e_)); have n2_ := Aside0.mk (hb); clear HO_12; clear HO_15; clear HB; have HO_12 := n0_; have HO_15 := n1_; have HB := n2_; clear n0_ n1_ n2_; (try clear hb); (try clear hkp); (try clear hy0)) | ((with_reducible refine gate_callee (f := 36) rfl ?_); refine goesL_ (some 83) rfl rfl Try.func36 (by kernel_rfl) rfl #[.slice Ao50 t695.length co50, .int .i64 1] rfl (by (try simp only [List.map_toArray, List.map_cons, List.map_nil]); first | done | (rw [show t695.length = t682.length from (Kd.R_reads' HO_15.out).1.symm] <;> rfl) | rfl | (simp only [List.length_drop, List.length_take]; rfl)) ?_; (with_reducible refine (laws_heldBlkPieceS.calls kj31 _ _ t695 1 t696 _ ?side1 ?side2 A48.out).mono ?_); (case side1 => exact pC (Kd.R_reads' HO_15.out).2.2); (case side2 => rw [show t695.length = t682.length from (Kd.R_reads' HO_15.out).1.symm]; exact (Kd.R_reads' HO_15.out).2.1); rintro e w' ⟨rfl, ⟨nd, rfl⟩⟩; refine ⟨_, rfl, ?_⟩))
          go_ret
          exact ⟨by first | rfl | (simp [errW_none, errW_some] <;> rfl) | (simp [*, errW_none, errW_some] <;> rfl), pB HB.out⟩
         ·rw [if_neg c49] at H
          have c49b0 : decide (t696 < 0) = false := decide_eq_false c49
          clear c49
          by_cases c52 : t696 = t694
          ·rw [if_pos c52] at H
           have c52b0 : (t696 == t694) = true := beq_iff_eq.mpr c52
           have c52b1 : (t696 != t694) = false := bne_eq_false_iff_eq.mpr c52
           clear c52
           replace H := Option.bind_eq_some_iff.mp H
           obtain ⟨t697, A530, H⟩ := H
           replace H : ((impl_BlkPut.f kj31 t697 a1 a2 a3 a4).bind fun bt700 => ((laws_eqBlkPieceS.f kj31 bt700.1 t675).bind fun t704 => (if t704 = true then (laws_FnExactBlkPut.j2 kj31 t695 t694 (bt700.2 != t676)) else (laws_FnExactBlkPut.j2 kj31 t695 t694 true)))) = some r := H
           have A53 := Aside0.mk A530
           clear A530
           replace H := Option.bind_eq_some_iff.mp H
           obtain ⟨⟨t700, t701⟩, A540, H⟩ := H
           replace H : ((laws_eqBlkPieceS.f kj31 t700 t675).bind fun t704 => (if t704 = true then (laws_FnExactBlkPut.j2 kj31 t695 t694 (t701 != t676)) else (laws_FnExactBlkPut.j2 kj31 t695 t694 true))) = some r := H
           have A54 := Aside0.mk A540
           clear A540
           have HC55 := Aside0.mk H
           clear H
           obtain ⟨Ao56, co56, eo56⟩ := Kd.R_slice HO_15.out
           subst eo56
           go_upto_region 25 with (first | ((with_reducible refine gate_callee (f := 35) rfl ?_); refine goesL_ (some 80) rfl rfl Try.func35 (by kernel_rfl) rfl #[.slice Ao56 t682.length co56, .int .i64 1] rfl bM ?_; (with_reducible refine (laws_markBlkPieceS.calls kj31 (fun k_ => some k_ = (.slice Ao56 t682.length co56 : Value).ownBlock) (.slice Ao56 t682.length co56) t682 1 t694 t695 w _ ?side1 ?side2 A47.out).mono ?_); (case side1 => repeat (first | (with_reducible first | exact HB.out | apply below_alloc | apply pw_below_drewN | apply below_drew1) | exact HB.out)); (case side2 => exact Kd.R_tight rfl HO_15.out); rintro e w57 ⟨rfl, hy0, hb, hkp⟩; refine ⟨_, rfl, ?_⟩; have n0_ := Aside0.mk (Kd.R_mono (ok' := fun k_ => some k_ ≠ (.slice Ao56 t682.length co56 : Value).ownBlock) (Kd.R_keptB (HO_12.out) hkp (fun k_ hk_ hs_ => (hk_) hs_)) (fun k_ hk_ => hk_.1)); have n1_ := Aside0.mk (Kd.R_reok rfl hy0 (fun k_ e_ => HO_15.out.1 k_ e_)); have n2_ := Aside0.mk (hb); clear HO_12; clear HO_15; clear HB; have HO_12 := n0_; have HO_15 := n1_; have HB := n2_; clear n0_ n1_ n2_; (try clear hb); (try clear hkp); (try clear hy0)) | ((with_reducible refine gate_callee (f := 36) rfl ?_); refine goesL_ (some 83) rfl rfl Try.func36 (by kernel_rfl) rfl #[.slice Ao56 t695.length co56, .int .i64 1] rfl (by (try simp only [List.map_toArray, List.map_cons, List.map_nil]); first | done | (rw [show t695.length = t682.length from (Kd.R_reads' HO_15.out).1.symm] <;> rfl) | rfl | (simp only [List.length_drop, List.length_take]; rfl)) ?_; (with_reducible refine (laws_heldBlkPieceS.calls kj31 _ _ t695 1 t696 _ ?side1 ?side2 A48.out).mono ?_); (case side1 => exact pC (Kd.R_reads' HO_15.out).2.2); (case side2 => rw [show t695.length = t682.length from (Kd.R_reads' HO_15.out).1.symm]; exact (Kd.R_reads' HO_15.out).2.1); rintro e w' ⟨rfl, ⟨nd, rfl⟩⟩; refine ⟨_, rfl, ?_⟩) | ((with_reducible refine gate_callee (f := 22) rfl ?_); refine goesL_ (some 91) rfl rfl Try.func22 (by kernel_rfl) rfl #[.slice A0 l0.length c0] rfl bM ?_; (with_reducible refine (laws_toBlkPieceS.calls kj31 _ _ l0 t697 _ ?side1 ?side2 A53.out).mono ?_); (case side1 => repeat (first | exact (Kd.C_below HR0.out (pB HB.out)) | (with_reducible refine Kd.C_alloc ?_ _) | (with_reducible refine Kd.C_drewN ?_ _) | (with_reducible refine Kd.C_drew ?_))); (case side2 => exact HC0.out); rintro e w58 ⟨v698, rfl, ho0, hb⟩; refine ⟨_, rfl, ?_⟩; have n0_ := Aside0.mk (Kd.R_elder' (pR HO_12.out) (Kd.R_base ho0) hb); have n1_ := Aside0.mk (Kd.R_elder' (pR HO_15.out) (Kd.R_base ho0) hb); have n2_ := Aside0.mk (Kd.R_lower (Kd.R_new' (Kd.R_new' ho0 (Kd.R_lt (pR HO_12.out))) (Kd.R_lt (pR HO_15.out))) (below_size (pB HB.out))); have n3_ := Aside0.mk (below_step (pB HB.out) hb); clear HO_12; clear HO_15; clear HB; have HO_12 := n0_; have HO_15 := n1_; have HO699 := n2_; have HB := n3_; clear n0_ n1_ n2_ n3_; (try clear hb); (try clear hb2); (try clear hk); (try clear hi); (try clear ho0); obtain ⟨Ao59, co59, eo59⟩ := Kd.R_slice HO699.out; subst eo59) | ((with_reducible refine gate_callee (f := 39) rfl ?_); refine goesL_ (some 96) rfl rfl Try.func39 (by kernel_rfl) rfl #[.slice Ao59 t697.length co59, .int .i64 a1, .int .i64 a2, .int .i64 a3, .int .i64 a4] rfl bM ?_; (with_reducible refine (impl_BlkPut.calls kj31 _ _ t697 a1 a2 a3 a4 t700 t701 _ ?side1 ?side2 A54.out).mono ?_); (case side1 => exact pC (Kd.R_reads' HO699.out).2.2); (case side2 => exact (Kd.R_reads' HO699.out).2.1); rintro e w60 ⟨v702, rfl, ho0, hb⟩; refine ⟨_, rfl, ?_⟩; have n0_ := Aside0.mk (Kd.R_elder' (pR HO_12.out) (Kd.R_base ho0) hb); have n1_ := Aside0.mk (Kd.R_elder' (pR HO_15.out) (Kd.R_base ho0) hb); have n2_ := Aside0.mk (Kd.R_elder' (pR HO699.out) (Kd.R_base ho0) hb); have n3_ := Aside0.mk (Kd.R_lower (Kd.R_new' (Kd.R_new' (Kd.R_new' ho0 (Kd.R_lt (pR HO_12.out))) (Kd.R_lt (pR HO_15.out))) (Kd.R_lt (pR HO699.out))) (below_size (pB HB.out))); have n4_ := Aside0.mk (below_step (pB HB.out) hb); clear HO_12; clear HO_15; clear HO699; clear HB; have HO_12 := n0_; have HO_15 := n1_; have HO699 := n2_; have HO703 := n3_; have HB := n4_; clear n0_ n1_ n2_ n3_ n4_; (try clear hb); (try clear hb2); (try clear hk); (try clear hi); (try clear ho0)))
           (try simp only [Act.put, List.setIfInBounds_toArray, List.set_cons_zero, List.set_cons_succ])
           go_cut [107] (fun v107 wc => ∃ (kq : Nat) (x107_54 : Bool), v107 = .bool x107_54 ∧ Aside0 (laws_FnExactBlkPut.j2 kq t695 t694 x107_54 = some r) ∧ Aside0 (kq ≤ kj31) ∧ Aside0 (Kd.R k55 55 wc w.heap.size (fun _ => True) (.slice Ao56 t682.length co56) t695) ∧ Aside0 (Below w.heap.size w wc))
           case first =>
            have H := HC55.out
            clear HC55
            replace H := Option.bind_eq_some_iff.mp H
            obtain ⟨t704, A610, H⟩ := H
            replace H : (if t704 = true then (laws_FnExactBlkPut.j2 kj31 t695 t694 (t701 != t676)) else (laws_FnExactBlkPut.j2 kj31 t695 t694 true)) = some r := H
            have A61 := Aside0.mk A610
            clear A610
            by_cases c62 : t704 = true
            ·subst c62
             have H1 : (laws_FnExactBlkPut.j2 kj31 t695 t694 (t701 != t676)) = some r := by rw [if_pos rfl] at H; exact H
             clear H
             have H := H1
             clear H1
             have H' := Aside0.mk H
             clear H
             obtain ⟨Ao63, co63, eo63⟩ := Kd.R_slice HO703.out
             subst eo63
             obtain ⟨Ao64, co64, eo64⟩ := Kd.R_slice HO_12.out
             subst eo64
             go_wp2_with (first | ((with_reducible refine gate_callee (f := 24) rfl ?_); refine goesL_ (some 101) rfl rfl Try.func24 (by kernel_rfl) rfl #[.slice Ao63 t700.length co63, .slice Ao64 t675.length co64] rfl bM ?_; (with_reducible refine (laws_eqBlkPieceS.calls kj31 _ _ t700 _ _ t675 true _ ?side1 ?side2 ?side3 ?side4 A61.out).mono ?_); (case side1 => exact pC (Kd.R_reads' HO703.out).2.2); (case side2 => exact (Kd.R_reads' HO703.out).2.1); (case side3 => exact pC (Kd.R_reads' HO_12.out).2.2); (case side4 => exact (Kd.R_reads' HO_12.out).2.1); rintro e w65 ⟨rfl, hb⟩; refine ⟨_, rfl, ?_⟩; have n0_ := Aside0.mk (Kd.R_below (pR HO_12.out) hb); have n1_ := Aside0.mk (Kd.R_below (pR HO_15.out) hb); have n2_ := Aside0.mk (Kd.R_below (pR HO699.out) hb); have n3_ := Aside0.mk (Kd.R_below (pR HO703.out) hb); have n4_ := Aside0.mk (below_step (pB HB.out) hb); clear HO_12; clear HO_15; clear HO699; clear HO703; clear HB; have HO_12 := n0_; have HO_15 := n1_; have HO699 := n2_; have HO703 := n3_; have HB := n4_; clear n0_ n1_ n2_ n3_ n4_; (try clear hb); (try clear hb2); (try clear hk); (try clear hi)))
             go_meet
             case rel => exact ⟨_, ((t701 != t676)), (by first | rfl | (simp; done) | (simp [*]; done)), H', ⟨by have := HJ11.out; have := HJ31.out; first | omega | exact Nat.le_refl _⟩, ⟨pR (Kd.R_mono HO_15.out (fun _ hk => trivial))⟩, ⟨pB HB.out⟩⟩
            ·replace c62 := Bool.eq_false_iff.mpr c62
             subst c62
             have H1 : (laws_FnExactBlkPut.j2 kj31 t695 t694 true) = some r := by rw [if_neg (show ¬ (false = true) by decide)] at H; exact H
             clear H
             have H := H1
             clear H1
             have H' := Aside0.mk H
             clear H
             obtain ⟨Ao66, co66, eo66⟩ := Kd.R_slice HO703.out
             subst eo66
             obtain ⟨Ao67, co67, eo67⟩ := Kd.R_slice HO_12.out
             subst eo67
             go_wp2_with (first | ((with_reducible refine gate_callee (f := 24) rfl ?_); refine goesL_ (some 101) rfl rfl Try.func24 (by kernel_rfl) rfl #[.slice Ao66 t700.length co66, .slice Ao67 t675.length co67] rfl bM ?_; (with_reducible refine (laws_eqBlkPieceS.calls kj31 _ _ t700 _ _ t675 false _ ?side1 ?side2 ?side3 ?side4 A61.out).mono ?_); (case side1 => exact pC (Kd.R_reads' HO703.out).2.2); (case side2 => exact (Kd.R_reads' HO703.out).2.1); (case side3 => exact pC (Kd.R_reads' HO_12.out).2.2); (case side4 => exact (Kd.R_reads' HO_12.out).2.1); rintro e w68 ⟨rfl, hb⟩; refine ⟨_, rfl, ?_⟩; have n0_ := Aside0.mk (Kd.R_below (pR HO_12.out) hb); have n1_ := Aside0.mk (Kd.R_below (pR HO_15.out) hb); have n2_ := Aside0.mk (Kd.R_below (pR HO699.out) hb); have n3_ := Aside0.mk (Kd.R_below (pR HO703.out) hb); have n4_ := Aside0.mk (below_step (pB HB.out) hb); clear HO_12; clear HO_15; clear HO699; clear HO703; clear HB; have HO_12 := n0_; have HO_15 := n1_; have HO699 := n2_; have HO703 := n3_; have HB := n4_; clear n0_ n1_ n2_ n3_ n4_; (try clear hb); (try clear hb2); (try clear hk); (try clear hi)))
             go_meet
             case rel => exact ⟨_, (true), (by first | rfl | (simp; done) | (simp [*]; done)), H', ⟨by have := HJ11.out; have := HJ31.out; first | omega | exact Nat.le_refl _⟩, ⟨pR (Kd.R_mono HO_15.out (fun _ hk => trivial))⟩, ⟨pB HB.out⟩⟩
           case rest =>
            clear HC55
            try clear c1
            try clear c2
            try clear p2
            try clear c3
            try clear c4
            try clear c5
            try clear c6
            try clear c7
            try clear c7b0
            try clear c14
            try clear c20
            try clear c22
            try clear c24
            try clear c27
            try clear c30
            try clear c35
            try clear c36
            try clear c37
            try clear c37b0
            try clear c38
            try clear c39
            try clear c46
            try clear c49
            try clear c49b0
            try clear c52
            try clear c52b0
            try clear c52b1
            try clear c62
            try clear p2
            obtain ⟨kq, x107_54, rfl, HA, HJ54, HO_15, HB⟩ := hcut
            have hl15_54 := (Kd.R_reads' HO_15.out).1
            rw [hl15_54] at HO_15
            (try simp only [hl15_54])
            cases kq with
            | zero => exact absurd HA.out (by simp [laws_FnExactBlkPut.j2])
            | succ kj54 =>
             have H := HA.out
             clear HA
             simp only [laws_FnExactBlkPut.j2] at H
             by_cases c69 : x107_54 = true
             ·subst c69
              have H1 : (some false) = some r := by rw [if_pos rfl] at H; exact H
              clear H
              have H := H1
              clear H1
              obtain rfl := Option.some.inj H
              go_wp2
              go_ret
              exact ⟨by first | rfl | (simp [errW_none, errW_some] <;> rfl) | (simp [*, errW_none, errW_some] <;> rfl), pB HB.out⟩
             ·replace c69 := Bool.eq_false_iff.mpr c69
              subst c69
              have H1 : ((laws_heldBlkPieceS.f kj54 t695 1).bind fun t705 => (if t705 < 0 then (some false) else (if t705 = t694 then (some true) else (some false)))) = some r := by rw [if_neg (show ¬ (false = true) by decide)] at H; exact H
              clear H
              have H := H1
              clear H1
              replace H := Option.bind_eq_some_iff.mp H
              obtain ⟨t705, A700, H⟩ := H
              replace H : (if t705 < 0 then (some false) else (if t705 = t694 then (some true) else (some false))) = some r := H
              have A70 := Aside0.mk A700
              clear A700
              by_cases c71 : t705 < 0
              ·rw [if_pos c71] at H
               have c71b0 : decide (t705 < 0) = true := decide_eq_true c71
               clear c71
               obtain rfl := Option.some.inj H
               go_wp2_with (first | ((with_reducible refine gate_callee (f := 36) rfl ?_); refine goesL_ (some 110) rfl rfl Try.func36 (by kernel_rfl) rfl #[.slice Ao56 t695.length co56, .int .i64 1] rfl bM ?_; (with_reducible refine (laws_heldBlkPieceS.calls kj54 _ _ t695 1 t705 _ ?side1 ?side2 A70.out).mono ?_); (case side1 => exact pC (Kd.R_reads' HO_15.out).2.2); (case side2 => exact (Kd.R_reads' HO_15.out).2.1); rintro e w' ⟨rfl, ⟨nd, rfl⟩⟩; refine ⟨_, rfl, ?_⟩))
               go_ret
               exact ⟨by first | rfl | (simp [errW_none, errW_some] <;> rfl) | (simp [*, errW_none, errW_some] <;> rfl), pB HB.out⟩
              ·rw [if_neg c71] at H
               have c71b0 : decide (t705 < 0) = false := decide_eq_false c71
               clear c71
               by_cases c72 : t705 = t694
               ·rw [if_pos c72] at H
                have c72b0 : (t705 == t694) = true := beq_iff_eq.mpr c72
                have c72b1 : (t705 != t694) = false := bne_eq_false_iff_eq.mpr c72
                clear c72
                obtain rfl := Option.some.inj H
                go_wp2_with (first | ((with_reducible refine gate_callee (f := 36) rfl ?_); refine goesL_ (some 110) rfl rfl Try.func36 (by kernel_rfl) rfl #[.slice Ao56 t695.length co56, .int .i64 1] rfl bM ?_; (with_reducible refine (laws_heldBlkPieceS.calls kj54 _ _ t695 1 t705 _ ?side1 ?side2 A70.out).mono ?_); (case side1 => exact pC (Kd.R_reads' HO_15.out).2.2); (case side2 => exact (Kd.R_reads' HO_15.out).2.1); rintro e w' ⟨rfl, ⟨nd, rfl⟩⟩; refine ⟨_, rfl, ?_⟩))
                go_ret
                exact ⟨by first | rfl | (simp [errW_none, errW_some] <;> rfl) | (simp [*, errW_none, errW_some] <;> rfl), pB HB.out⟩
               ·rw [if_neg c72] at H
                have c72b0 : (t705 == t694) = false := beq_eq_false_iff_ne.mpr c72
                have c72b1 : (t705 != t694) = true := bne_iff_ne.mpr c72
                obtain rfl := Option.some.inj H
                go_wp2_with (first | ((with_reducible refine gate_callee (f := 36) rfl ?_); refine goesL_ (some 110) rfl rfl Try.func36 (by kernel_rfl) rfl #[.slice Ao56 t695.length co56, .int .i64 1] rfl bM ?_; (with_reducible refine (laws_heldBlkPieceS.calls kj54 _ _ t695 1 t705 _ ?side1 ?side2 A70.out).mono ?_); (case side1 => exact pC (Kd.R_reads' HO_15.out).2.2); (case side2 => exact (Kd.R_reads' HO_15.out).2.1); rintro e w' ⟨rfl, ⟨nd, rfl⟩⟩; refine ⟨_, rfl, ?_⟩))
                go_ret
                exact ⟨by first | rfl | (simp [errW_none, errW_some] <;> rfl) | (simp [*, errW_none, errW_some] <;> rfl), pB HB.out⟩
          ·rw [if_neg c52] at H
           have c52b0 : (t696 == t694) = false := beq_eq_false_iff_ne.mpr c52
           have c52b1 : (t696 != t694) = true := bne_iff_ne.mpr c52
           obtain rfl := Option.some.inj H
           obtain ⟨Ao73, co73, eo73⟩ := Kd.R_slice HO_15.out
           subst eo73
           go_wp2_with (first | ((with_reducible refine gate_callee (f := 35) rfl ?_); refine goesL_ (some 80) rfl rfl Try.func35 (by kernel_rfl) rfl #[.slice Ao73 t682.length co73, .int .i64 1] rfl bM ?_; (with_reducible refine (laws_markBlkPieceS.calls kj31 (fun k_ => some k_ = (.slice Ao73 t682.length co73 : Value).ownBlock) (.slice Ao73 t682.length co73) t682 1 t694 t695 w _ ?side1 ?side2 A47.out).mono ?_); (case side1 => repeat (first | (with_reducible first | exact HB.out | apply below_alloc | apply pw_below_drewN | apply below_drew1) | exact HB.out)); (case side2 => exact Kd.R_tight rfl HO_15.out); rintro e w74 ⟨rfl, hy0, hb, hkp⟩; refine ⟨_, rfl, ?_⟩; have n0_ := Aside0.mk (Kd.R_mono (ok' := fun k_ => some k_ ≠ (.slice Ao73 t682.length co73 : Value).ownBlock) (Kd.R_keptB (HO_12.out) hkp (fun k_ hk_ hs_ => (hk_) hs_)) (fun k_ hk_ => hk_.1)); have n1_ := Aside0.mk (Kd.R_reok rfl hy0 (fun k_ e_ => HO_15.out.1 k_ e_)); have n2_ := Aside0.mk (hb); clear HO_12; clear HO_15; clear HB; have HO_12 := n0_; have HO_15 := n1_; have HB := n2_; clear n0_ n1_ n2_; (try clear hb); (try clear hkp); (try clear hy0)) | ((with_reducible refine gate_callee (f := 36) rfl ?_); refine goesL_ (some 83) rfl rfl Try.func36 (by kernel_rfl) rfl #[.slice Ao73 t695.length co73, .int .i64 1] rfl (by (try simp only [List.map_toArray, List.map_cons, List.map_nil]); first | done | (rw [show t695.length = t682.length from (Kd.R_reads' HO_15.out).1.symm] <;> rfl) | rfl | (simp only [List.length_drop, List.length_take]; rfl)) ?_; (with_reducible refine (laws_heldBlkPieceS.calls kj31 _ _ t695 1 t696 _ ?side1 ?side2 A48.out).mono ?_); (case side1 => exact pC (Kd.R_reads' HO_15.out).2.2); (case side2 => rw [show t695.length = t682.length from (Kd.R_reads' HO_15.out).1.symm]; exact (Kd.R_reads' HO_15.out).2.1); rintro e w' ⟨rfl, ⟨nd, rfl⟩⟩; refine ⟨_, rfl, ?_⟩))
           go_ret
           exact ⟨by first | rfl | (simp [errW_none, errW_some] <;> rfl) | (simp [*, errW_none, errW_some] <;> rfl), pB HB.out⟩
     ·replace c30 := Bool.eq_false_iff.mpr c30
      subst c30
      have H1 : (some false) = some r := by rw [if_neg (show ¬ (false = true) by decide)] at H; exact H
      clear H
      have H := H1
      clear H1
      obtain rfl := Option.some.inj H
      go_wp2_with (first | ((with_reducible refine gate_callee (f := 22) rfl ?_); refine goesL_ (some 59) rfl rfl Try.func22 (by kernel_rfl) rfl #[.slice A0 l0.length c0] rfl bM ?_; (with_reducible refine (laws_toBlkPieceS.calls kj11 _ _ l0 t687 _ ?side1 ?side2 A28.out).mono ?_); (case side1 => repeat (first | exact (Kd.C_below HR0.out HB.out) | (with_reducible refine Kd.C_alloc ?_ _) | (with_reducible refine Kd.C_drewN ?_ _) | (with_reducible refine Kd.C_drew ?_))); (case side2 => exact HC0.out); rintro e w75 ⟨v688, rfl, ho0, hb⟩; refine ⟨_, rfl, ?_⟩; have n0_ := Aside0.mk (Kd.R_elder' (pR HO_12.out) (Kd.R_base ho0) hb); have n1_ := Aside0.mk (Kd.R_elder' (pR HO_14.out) (Kd.R_base ho0) hb); have n2_ := Aside0.mk (Kd.R_elder' (pR HO_15.out) (Kd.R_base ho0) hb); have n3_ := Aside0.mk (Kd.R_lower (Kd.R_new' (Kd.R_new' (Kd.R_new' ho0 (Kd.R_lt (pR HO_12.out))) (Kd.R_lt (pR HO_14.out))) (Kd.R_lt (pR HO_15.out))) (below_size (pB HB.out))); have n4_ := Aside0.mk (below_step (pB HB.out) hb); clear HO_12; clear HO_14; clear HO_15; clear HB; have HO_12 := n0_; have HO_14 := n1_; have HO_15 := n2_; have HO689 := n3_; have HB := n4_; clear n0_ n1_ n2_ n3_ n4_; (try clear hb); (try clear hb2); (try clear hk); (try clear hi); (try clear ho0); obtain ⟨Ao76, co76, eo76⟩ := Kd.R_slice HO689.out; subst eo76) | ((with_reducible refine gate_callee (f := 24) rfl ?_); refine goesL_ (some 60) rfl rfl Try.func24 (by kernel_rfl) rfl #[.slice Ao17 t679.length co17, .slice Ao76 t687.length co76] rfl bM ?_; (with_reducible refine (laws_eqBlkPieceS.calls kj11 _ _ t679 _ _ t687 false _ ?side1 ?side2 ?side3 ?side4 A29.out).mono ?_); (case side1 => exact pC (Kd.R_reads' HO_14.out).2.2); (case side2 => exact (Kd.R_reads' HO_14.out).2.1); (case side3 => exact pC (Kd.R_reads' HO689.out).2.2); (case side4 => exact (Kd.R_reads' HO689.out).2.1); rintro e w77 ⟨rfl, hb⟩; refine ⟨_, rfl, ?_⟩; have n0_ := Aside0.mk (Kd.R_below (pR HO_12.out) hb); have n1_ := Aside0.mk (Kd.R_below (pR HO_14.out) hb); have n2_ := Aside0.mk (Kd.R_below (pR HO_15.out) hb); have n3_ := Aside0.mk (Kd.R_below (pR HO689.out) hb); have n4_ := Aside0.mk (below_step (pB HB.out) hb); clear HO_12; clear HO_14; clear HO_15; clear HO689; clear HB; have HO_12 := n0_; have HO_14 := n1_; have HO_15 := n2_; have HO689 := n3_; have HB := n4_; clear n0_ n1_ n2_ n3_ n4_; (try clear hb); (try clear hb2); (try clear hk); (try clear hi)))
      go_ret
      exact ⟨by first | rfl | (simp [errW_none, errW_some] <;> rfl) | (simp [*, errW_none, errW_some] <;> rfl), pB HB.out⟩

/-- THE ONE PURE STATEMENT of laws_FnExactBlkPut. -/
def laws_FnExactBlkPut.Pure : Prop := ∀ (l0 : List (S66)) (a1 : Int) (a2 : Int) (a3 : Int) (a4 : Int), (l0.length ≤ maxLen ∧ ∀ z_ ∈ l0, wf66 z_) → (Lit.int .i64 a1).wf = true → (Lit.int .i64 a2).wf = true → (Lit.int .i64 a3).wf = true → (Lit.int .i64 a4).wf = true → ∃ k, laws_FnExactBlkPut.f k l0 a1 a2 a3 a4 = some true
theorem laws_FnExactBlkPut.walk (P : laws_FnExactBlkPut.Pure) (A0 : Option Addr) (c0 : Nat) (l0 : List (S66)) (a1 : Int) (a2 : Int) (a3 : Int) (a4 : Int) (w : World) (hw0 : (l0.length ≤ maxLen ∧ ∀ z_ ∈ l0, wf66 z_)) (hw1 : (Lit.int .i64 a1).wf = true) (hw2 : (Lit.int .i64 a2).wf = true) (hw3 : (Lit.int .i64 a3).wf = true) (hw4 : (Lit.int .i64 a4).wf = true) (hr0 : Kd.C k66 w A0 l0.length l0) (hc0 : l0.length ≤ c0) :
  Calls Try.prog 14 #[.slice A0 l0.length c0, .int .i64 a1, .int .i64 a2, .int .i64 a3, .int .i64 a4] w fun e w' => e = .returned (.bool true) ∧ Below w.heap.size w w' := by
 obtain ⟨k, h⟩ := P l0 a1 a2 a3 a4 hw0 hw1 hw2 hw3 hw4
 refine (laws_FnExactBlkPut.calls k A0 c0 l0 a1 a2 a3 a4 true w hr0 hc0 h).mono ?_
 rintro e w' ⟨rfl, hd⟩
 exact ⟨rfl, hd⟩

end Go.Proofs.Ytdcdaclmicmiaaa.P
