-- printed by pprint.py (this session's program over the kit's printer) out of the translation. Lean checks it.
import Derived.Test.YtdcdaclmicmiaaaPx0
import Derived.Test.YtdcdaclmicmiaaaPx8
import Derived.Test.YtdcdaclmicmiaaaPx10
import Derived.Test.YtdcdaclmicmiaaaPx12
import Derived.Test.YtdcdaclmicmiaaaPx13
import Derived.Test.YtdcdaclmicmiaaaPx18
namespace Go.Proofs.Ytdcdaclmicmiaaa.P
open Go.RowKit Go.Proofs.YtdcdaclmicmiaaaX Go.Proofs.YtdcdaclmicmiaaaW.PrintWords Go.Proofs.YtdcdaclmicmiaaaW.PrintLast Go.Proofs.YtdcdaclmicmiaaaW.PrintMore
attribute [local go_sem] max2_int min2_int max_two min_two max_three min_three max_four min_four   -- for this text's walks alone
set_option linter.unusedVariables false
set_option linter.unusedSimpArgs false

/-! ### laws_FnBlkOld: function 13 -/
mutual
def laws_FnBlkOld.l0 : Nat → List (S55) → Int → Int → Int → List (S55) → Bool → Int → Option (Bool)
 | 0, _, _, _, _, _, _, _ => none
 | k + 1, x3, x4, x5, x6, x10, x11, x12 => if x12 < x6 then (if x12 < 9 then (laws_FnBlkOld.j1 k x3 x4 x5 x6 x10 x11 x12 x11) else (laws_FnBlkOld.j1 k x3 x4 x5 x6 x10 x11 x12 false)) else (laws_FnBlkOld.j1 k x3 x4 x5 x6 x10 x11 x12 false)
def laws_FnBlkOld.j1 : Nat → List (S55) → Int → Int → Int → List (S55) → Bool → Int → Bool → Option (Bool)
 | 0, _, _, _, _, _, _, _, _ => none
 | k + 1, x3, x4, x5, x6, x10, x11, x12, x54 => if x54 = true then ((impl_BlkGet.f k x10 x4 x5 x12).bind fun t669 => ((spec_BlkGet.f k x3 x4 x5 x12).bind fun t670 => (if t669 = t670 then (laws_FnBlkOld.l0 k x3 x4 x5 x6 x10 x11 (wrap64 (x12 + 1))) else (some false)))) else (some true)
end
def laws_FnBlkOld.f (k : Nat) (l0 : List Int) : Option (Bool) := if (l0.length : Int) > 1048576 then (some true) else ((spec_DrawBlkPut.f k l0).bind fun bt654 => ((spec_BlkPut.f k bt654.1 bt654.2.1 bt654.2.2.1 bt654.2.2.2.1 bt654.2.2.2.2).bind fun bt661 => ((impl_BlkPut.f k bt654.1 bt654.2.1 bt654.2.2.1 bt654.2.2.2.1 bt654.2.2.2.2).bind fun bt665 => (if (bt665.2 != bt661.2) = true then (some false) else (laws_FnBlkOld.l0 k bt654.1 bt654.2.1 bt654.2.2.1 bt654.2.2.2.1 bt665.1 bt665.2 0)))))
theorem laws_FnBlkOld.mono_l : ∀ k, (∀ y0 y1 y2 y3 y4 y5 y6, LeO (laws_FnBlkOld.l0 k y0 y1 y2 y3 y4 y5 y6) (laws_FnBlkOld.l0 (k + 1) y0 y1 y2 y3 y4 y5 y6)) ∧ (∀ y0 y1 y2 y3 y4 y5 y6 y7, LeO (laws_FnBlkOld.j1 k y0 y1 y2 y3 y4 y5 y6 y7) (laws_FnBlkOld.j1 (k + 1) y0 y1 y2 y3 y4 y5 y6 y7))
 | 0 => ⟨fun _ _ _ _ _ _ _ r h => by simp [laws_FnBlkOld.l0] at h, fun _ _ _ _ _ _ _ _ r h => by simp [laws_FnBlkOld.j1] at h⟩
 | k + 1 => by
  obtain ⟨ih0, ih1⟩ := laws_FnBlkOld.mono_l k
  refine ⟨?_, ?_⟩
  ·intro y0 y1 y2 y3 y4 y5 y6
   unfold laws_FnBlkOld.l0
   repeat' first
   | (with_reducible exact ih0 _ _ _ _ _ _ _)
   | (with_reducible exact ih1 _ _ _ _ _ _ _ _)
   | (with_reducible exact impl_BlkGet.mono _ _ _ _ _)
   | (with_reducible exact impl_BlkPut.mono _ _ _ _ _ _)
   | (with_reducible exact spec_BlkGet.mono _ _ _ _ _)
   | (with_reducible exact spec_BlkPut.mono _ _ _ _ _ _)
   | (with_reducible exact spec_DrawBlkPut.mono _ _)
   | (with_reducible exact LeO.refl _)
   | (with_reducible exact LeO.none _)
   | (with_reducible refine LeO.ite ?_ ?_)
   | (with_reducible refine LeO.bind ?_ (fun _ => ?_))
   | exact ih0 _ _ _ _ _ _ _
   | exact ih1 _ _ _ _ _ _ _ _
   | exact impl_BlkGet.mono _ _ _ _ _
   | exact impl_BlkPut.mono _ _ _ _ _ _
   | exact spec_BlkGet.mono _ _ _ _ _
   | exact spec_BlkPut.mono _ _ _ _ _ _
   | exact spec_DrawBlkPut.mono _ _
   | exact LeO.none _
   | refine LeO.ite ?_ ?_
   | refine LeO.bind ?_ (fun _ => ?_)
  ·intro y0 y1 y2 y3 y4 y5 y6 y7
   unfold laws_FnBlkOld.j1
   repeat' first
   | (with_reducible exact ih0 _ _ _ _ _ _ _)
   | (with_reducible exact ih1 _ _ _ _ _ _ _ _)
   | (with_reducible exact impl_BlkGet.mono _ _ _ _ _)
   | (with_reducible exact impl_BlkPut.mono _ _ _ _ _ _)
   | (with_reducible exact spec_BlkGet.mono _ _ _ _ _)
   | (with_reducible exact spec_BlkPut.mono _ _ _ _ _ _)
   | (with_reducible exact spec_DrawBlkPut.mono _ _)
   | (with_reducible exact LeO.refl _)
   | (with_reducible exact LeO.none _)
   | (with_reducible refine LeO.ite ?_ ?_)
   | (with_reducible refine LeO.bind ?_ (fun _ => ?_))
   | exact ih0 _ _ _ _ _ _ _
   | exact ih1 _ _ _ _ _ _ _ _
   | exact impl_BlkGet.mono _ _ _ _ _
   | exact impl_BlkPut.mono _ _ _ _ _ _
   | exact spec_BlkGet.mono _ _ _ _ _
   | exact spec_BlkPut.mono _ _ _ _ _ _
   | exact spec_DrawBlkPut.mono _ _
   | exact LeO.none _
   | refine LeO.ite ?_ ?_
   | refine LeO.bind ?_ (fun _ => ?_)
theorem laws_FnBlkOld.mono : ∀ a0 k, LeO (laws_FnBlkOld.f k a0) (laws_FnBlkOld.f (k + 1) a0) := by
 intro a0 k
 obtain ⟨ih0, ih1⟩ := laws_FnBlkOld.mono_l k
 unfold laws_FnBlkOld.f
 repeat' first
   | (with_reducible exact ih0 _ _ _ _ _ _ _)
   | (with_reducible exact ih1 _ _ _ _ _ _ _ _)
   | (with_reducible exact impl_BlkGet.mono _ _ _ _ _)
   | (with_reducible exact impl_BlkPut.mono _ _ _ _ _ _)
   | (with_reducible exact spec_BlkGet.mono _ _ _ _ _)
   | (with_reducible exact spec_BlkPut.mono _ _ _ _ _ _)
   | (with_reducible exact spec_DrawBlkPut.mono _ _)
   | (with_reducible exact LeO.refl _)
   | (with_reducible exact LeO.none _)
   | (with_reducible refine LeO.ite ?_ ?_)
   | (with_reducible refine LeO.bind ?_ (fun _ => ?_))
   | exact ih0 _ _ _ _ _ _ _
   | exact ih1 _ _ _ _ _ _ _ _
   | exact impl_BlkGet.mono _ _ _ _ _
   | exact impl_BlkPut.mono _ _ _ _ _ _
   | exact spec_BlkGet.mono _ _ _ _ _
   | exact spec_BlkPut.mono _ _ _ _ _ _
   | exact spec_DrawBlkPut.mono _ _
   | exact LeO.none _
   | refine LeO.ite ?_ ?_
   | refine LeO.bind ?_ (fun _ => ?_)
set_option maxHeartbeats 8000000 in
set_option maxRecDepth 100000 in
theorem laws_FnBlkOld.calls (k : Nat) (A0 : Option Addr) (c0 : Nat) (l0 : List Int) (r : Bool) (w : World) (hr0 : Kd.C (Kd.int .u8) w A0 l0.length l0) (hc0 : l0.length ≤ c0) (h : laws_FnBlkOld.f k l0 = some r) :
  Calls Try.prog 13 #[.slice A0 l0.length c0] w fun e w' => e = .returned (.bool r) ∧ Below w.heap.size w w' := by
 have HR0 := Aside0.mk hr0
 have HC0 := Aside0.mk hc0
 clear hr0 hc0
 have HB := Aside0.mk (Below.refl w.heap.size w)
 have H : (if (l0.length : Int) > 1048576 then (some true) else ((spec_DrawBlkPut.f k l0).bind fun bt654 => ((spec_BlkPut.f k bt654.1 bt654.2.1 bt654.2.2.1 bt654.2.2.2.1 bt654.2.2.2.2).bind fun bt661 => ((impl_BlkPut.f k bt654.1 bt654.2.1 bt654.2.2.1 bt654.2.2.2.1 bt654.2.2.2.2).bind fun bt665 => (if (bt665.2 != bt661.2) = true then (some false) else (laws_FnBlkOld.l0 k bt654.1 bt654.2.1 bt654.2.2.1 bt654.2.2.2.1 bt665.1 bt665.2 0)))))) = some r := h
 clear h
 by_cases c2 : (l0.length : Int) > 1048576
 ·rw [if_pos c2] at H
  have c2b0 : decide (1048576 < (l0.length : Int)) = true := decide_eq_true c2
  have c2b1 : decide (1048576 < l0.length) = true := decide_eq_true (by omega)
  clear c2
  obtain rfl := Option.some.inj H
  go_enter Try.func13, Try.ntmps13
  go_wp2
  go_ret
  exact ⟨by first | rfl | (simp [errW_none, errW_some] <;> rfl) | (simp [*, errW_none, errW_some] <;> rfl), pB HB.out⟩
 ·rw [if_neg c2] at H
  have c2b0 : decide (1048576 < (l0.length : Int)) = false := decide_eq_false c2
  have c2b1 : decide (1048576 < l0.length) = false := decide_eq_false (by omega)
  clear c2
  replace H := Option.bind_eq_some_iff.mp H
  obtain ⟨⟨t654, t655, t656, t657, t658⟩, A30, H⟩ := H
  replace H : ((spec_BlkPut.f k t654 t655 t656 t657 t658).bind fun bt661 => ((impl_BlkPut.f k t654 t655 t656 t657 t658).bind fun bt665 => (if (bt665.2 != bt661.2) = true then (some false) else (laws_FnBlkOld.l0 k t654 t655 t656 t657 bt665.1 bt665.2 0)))) = some r := H
  have A3 := Aside0.mk A30
  clear A30
  replace H := Option.bind_eq_some_iff.mp H
  obtain ⟨⟨t661, t662⟩, A40, H⟩ := H
  replace H : ((impl_BlkPut.f k t654 t655 t656 t657 t658).bind fun bt665 => (if (bt665.2 != t662) = true then (some false) else (laws_FnBlkOld.l0 k t654 t655 t656 t657 bt665.1 bt665.2 0))) = some r := H
  have A4 := Aside0.mk A40
  clear A40
  replace H := Option.bind_eq_some_iff.mp H
  obtain ⟨⟨t665, t666⟩, A50, H⟩ := H
  replace H : (if (t666 != t662) = true then (some false) else (laws_FnBlkOld.l0 k t654 t655 t656 t657 t665 t666 0)) = some r := H
  have A5 := Aside0.mk A50
  clear A50
  by_cases c6 : (t666 != t662) = true
  ·rw [if_pos c6] at H
   have c6b0 : (t666 != t662) = true := c6
   (try (have c6b1 : decide (t666 = t662) = false := by simpa using c6))
   (try (have c6b2 : (t666 == t662) = false := by simpa using c6))
   (try (have c6b3 : ¬ (t666 = t662) := by simpa using c6))
   clear c6
   obtain rfl := Option.some.inj H
   go_enter Try.func13, Try.ntmps13
   go_wp2_with (first | ((with_reducible refine gate_callee (f := 37) rfl ?_); refine goesL_ (some 18) rfl rfl Try.func37 (by kernel_rfl) rfl #[.slice A0 l0.length c0] rfl bM ?_; (with_reducible refine (spec_DrawBlkPut.calls k _ _ l0 t654 t655 t656 t657 t658 _ ?side1 ?side2 A3.out).mono ?_); (case side1 => exact pC HR0.out); (case side2 => exact HC0.out); rintro e w7 ⟨v659, rfl, ho0, hb⟩; refine ⟨_, rfl, ?_⟩; have n0_ := Aside0.mk (Kd.R_lower ho0 (below_size (pB HB.out))); have n1_ := Aside0.mk (below_step (pB HB.out) hb); clear HB; have HO660 := n0_; have HB := n1_; clear n0_ n1_; (try clear hb); (try clear hb2); (try clear hk); (try clear hi); (try clear ho0); obtain ⟨Ao8, co8, eo8⟩ := Kd.R_slice HO660.out; subst eo8) | ((with_reducible refine gate_callee (f := 38) rfl ?_); refine goesL_ (some 30) rfl rfl Try.func38 (by kernel_rfl) rfl #[.slice Ao8 t654.length co8, .int .i64 t655, .int .i64 t656, .int .i64 t657, .int .i64 t658] rfl bM ?_; (with_reducible refine (spec_BlkPut.calls k _ _ t654 t655 t656 t657 t658 t661 t662 _ ?side1 ?side2 A4.out).mono ?_); (case side1 => exact pC (Kd.R_reads' HO660.out).2.2); (case side2 => exact (Kd.R_reads' HO660.out).2.1); rintro e w9 ⟨v663, rfl, ho0, hb⟩; refine ⟨_, rfl, ?_⟩; have n0_ := Aside0.mk (Kd.R_elder' (pR HO660.out) (Kd.R_base ho0) hb); have n1_ := Aside0.mk (Kd.R_lower (Kd.R_new' ho0 (Kd.R_lt (pR HO660.out))) (below_size (pB HB.out))); have n2_ := Aside0.mk (below_step (pB HB.out) hb); clear HO660; clear HB; have HO660 := n0_; have HO664 := n1_; have HB := n2_; clear n0_ n1_ n2_; (try clear hb); (try clear hb2); (try clear hk); (try clear hi); (try clear ho0)) | ((with_reducible refine gate_callee (f := 39) rfl ?_); refine goesL_ (some 39) rfl rfl Try.func39 (by kernel_rfl) rfl #[.slice Ao8 t654.length co8, .int .i64 t655, .int .i64 t656, .int .i64 t657, .int .i64 t658] rfl bM ?_; (with_reducible refine (impl_BlkPut.calls k _ _ t654 t655 t656 t657 t658 t665 t666 _ ?side1 ?side2 A5.out).mono ?_); (case side1 => exact pC (Kd.R_reads' HO660.out).2.2); (case side2 => exact (Kd.R_reads' HO660.out).2.1); rintro e w10 ⟨v667, rfl, ho0, hb⟩; refine ⟨_, rfl, ?_⟩; have n0_ := Aside0.mk (Kd.R_elder' (pR HO660.out) (Kd.R_base ho0) hb); have n1_ := Aside0.mk (Kd.R_elder' (pR HO664.out) (Kd.R_base ho0) hb); have n2_ := Aside0.mk (Kd.R_lower (Kd.R_new' (Kd.R_new' ho0 (Kd.R_lt (pR HO660.out))) (Kd.R_lt (pR HO664.out))) (below_size (pB HB.out))); have n3_ := Aside0.mk (below_step (pB HB.out) hb); clear HO660; clear HO664; clear HB; have HO660 := n0_; have HO664 := n1_; have HO668 := n2_; have HB := n3_; clear n0_ n1_ n2_ n3_; (try clear hb); (try clear hb2); (try clear hk); (try clear hi); (try clear ho0)))
   go_ret
   exact ⟨by first | rfl | (simp [errW_none, errW_some] <;> rfl) | (simp [*, errW_none, errW_some] <;> rfl), pB HB.out⟩
  ·rw [if_neg c6] at H
   have c6b0 : (t666 != t662) = false := by simpa using c6
   (try (have c6b1 : decide (t666 = t662) = true := by simpa using c6))
   (try (have c6b2 : (t666 == t662) = true := by simpa using c6))
   clear c6
   have H' := Aside0.mk H
   clear H
   go_enter Try.func13, Try.ntmps13
   go_wp2_with (first | ((with_reducible refine gate_callee (f := 37) rfl ?_); refine goesL_ (some 18) rfl rfl Try.func37 (by kernel_rfl) rfl #[.slice A0 l0.length c0] rfl bM ?_; (with_reducible refine (spec_DrawBlkPut.calls k _ _ l0 t654 t655 t656 t657 t658 _ ?side1 ?side2 A3.out).mono ?_); (case side1 => exact pC HR0.out); (case side2 => exact HC0.out); rintro e w11 ⟨v659, rfl, ho0, hb⟩; refine ⟨_, rfl, ?_⟩; have n0_ := Aside0.mk (Kd.R_lower ho0 (below_size (pB HB.out))); have n1_ := Aside0.mk (below_step (pB HB.out) hb); clear HB; have HO660 := n0_; have HB := n1_; clear n0_ n1_; (try clear hb); (try clear hb2); (try clear hk); (try clear hi); (try clear ho0); obtain ⟨Ao12, co12, eo12⟩ := Kd.R_slice HO660.out; subst eo12) | ((with_reducible refine gate_callee (f := 38) rfl ?_); refine goesL_ (some 30) rfl rfl Try.func38 (by kernel_rfl) rfl #[.slice Ao12 t654.length co12, .int .i64 t655, .int .i64 t656, .int .i64 t657, .int .i64 t658] rfl bM ?_; (with_reducible refine (spec_BlkPut.calls k _ _ t654 t655 t656 t657 t658 t661 t662 _ ?side1 ?side2 A4.out).mono ?_); (case side1 => exact pC (Kd.R_reads' HO660.out).2.2); (case side2 => exact (Kd.R_reads' HO660.out).2.1); rintro e w13 ⟨v663, rfl, ho0, hb⟩; refine ⟨_, rfl, ?_⟩; have n0_ := Aside0.mk (Kd.R_elder' (pR HO660.out) (Kd.R_base ho0) hb); have n1_ := Aside0.mk (Kd.R_lower (Kd.R_new' ho0 (Kd.R_lt (pR HO660.out))) (below_size (pB HB.out))); have n2_ := Aside0.mk (below_step (pB HB.out) hb); clear HO660; clear HB; have HO660 := n0_; have HO664 := n1_; have HB := n2_; clear n0_ n1_ n2_; (try clear hb); (try clear hb2); (try clear hk); (try clear hi); (try clear ho0)) | ((with_reducible refine gate_callee (f := 39) rfl ?_); refine goesL_ (some 39) rfl rfl Try.func39 (by kernel_rfl) rfl #[.slice Ao12 t654.length co12, .int .i64 t655, .int .i64 t656, .int .i64 t657, .int .i64 t658] rfl bM ?_; (with_reducible refine (impl_BlkPut.calls k _ _ t654 t655 t656 t657 t658 t665 t666 _ ?side1 ?side2 A5.out).mono ?_); (case side1 => exact pC (Kd.R_reads' HO660.out).2.2); (case side2 => exact (Kd.R_reads' HO660.out).2.1); rintro e w14 ⟨v667, rfl, ho0, hb⟩; refine ⟨_, rfl, ?_⟩; have n0_ := Aside0.mk (Kd.R_elder' (pR HO660.out) (Kd.R_base ho0) hb); have n1_ := Aside0.mk (Kd.R_elder' (pR HO664.out) (Kd.R_base ho0) hb); have n2_ := Aside0.mk (Kd.R_lower (Kd.R_new' (Kd.R_new' ho0 (Kd.R_lt (pR HO660.out))) (Kd.R_lt (pR HO664.out))) (below_size (pB HB.out))); have n3_ := Aside0.mk (below_step (pB HB.out) hb); clear HO660; clear HO664; clear HB; have HO660 := n0_; have HO664 := n1_; have HO668 := n2_; have HB := n3_; clear n0_ n1_ n2_ n3_; (try clear hb); (try clear hb2); (try clear hk); (try clear hi); (try clear ho0)))
   go_loopg [12] k (fun kq v12 w' => ∃ (x12_1 : Int), v12 = .int .i64 x12_1 ∧ Aside0 (laws_FnBlkOld.l0 kq t654 t655 t656 t657 t665 t666 x12_1 = some r) ∧ Aside0 (kq ≤ k) ∧ Aside0 (Kd.R k55 55 w' w.heap.size (fun k_ => some k_ ≠ (v667 : Value).ownBlock) (.slice Ao12 t654.length co12) t654) ∧ Aside0 (Kd.R k55 55 w' w.heap.size (fun k_ => some k_ ≠ ((.slice Ao12 t654.length co12) : Value).ownBlock) v667 t665) ∧ Aside0 (Below w.heap.size w w'))
   case atStart => exact ⟨(0), (by first | rfl | (simp; done) | (simp [*]; done)), H', ⟨Nat.le_refl _⟩, ⟨pR (Kd.R_mono HO660.out (fun _ hk => hk.2))⟩, ⟨pR (Kd.R_mono HO668.out (fun _ hk => hk.1.2))⟩, ⟨pB HB.out⟩⟩
   case round =>
    clear H'
    try clear c1
    try clear c2
    try clear c2b0
    try clear c2b1
    try clear p2
    try clear c3
    try clear c6
    try clear c6b0
    try clear c6b1
    try clear c6b2
    try clear c13
    obtain ⟨x12_1, rfl, HA, HK1, HO_3, HO_10, HB⟩ := hrel
    cases gk with
    | zero => exact absurd HA.out (by simp [laws_FnBlkOld.l0])
    | succ k1 =>
     have H := HA.out
     clear HA
     simp only [laws_FnBlkOld.l0] at H
     have HC15 := Aside0.mk H
     clear H
     go_upto_region 9 with (fail)
     go_cut [54] (fun v54 wc => ∃ (kq : Nat) (x54_14 : Bool), v54 = .bool x54_14 ∧ Aside0 (laws_FnBlkOld.j1 kq t654 t655 t656 t657 t665 t666 x12_1 x54_14 = some r) ∧ Aside0 (kq ≤ k1) ∧ Aside0 (Kd.R k55 55 wc w.heap.size (fun k_ => some k_ ≠ (v667 : Value).ownBlock) (.slice Ao12 t654.length co12) t654) ∧ Aside0 (Kd.R k55 55 wc w.heap.size (fun k_ => some k_ ≠ ((.slice Ao12 t654.length co12) : Value).ownBlock) v667 t665) ∧ Aside0 (Below w.heap.size w wc))
     case first =>
      have H := HC15.out
      clear HC15
      by_cases c16 : x12_1 < t657
      ·rw [if_pos c16] at H
       have c16b0 : decide (x12_1 < t657) = true := decide_eq_true c16
       clear c16
       (first | rw [c16b0] | (simp only [i64_w, i32_w]; rw [c16b0]) | skip)
       by_cases c17 : x12_1 < 9
       ·rw [if_pos c17] at H
        have c17b0 : decide (x12_1 < 9) = true := decide_eq_true c17
        clear c17
        have H' := Aside0.mk H
        clear H
        go_wp2
        go_meet
        case rel => exact ⟨_, (t666), (by first | rfl | (simp; done) | (simp [*]; done)), H', ⟨by have := HK1.out; first | omega | exact Nat.le_refl _⟩, ⟨pR HO_3.out⟩, ⟨pR HO_10.out⟩, ⟨pB HB.out⟩⟩
       ·rw [if_neg c17] at H
        have c17b0 : decide (x12_1 < 9) = false := decide_eq_false c17
        clear c17
        have H' := Aside0.mk H
        clear H
        go_wp2
        go_meet
        case rel => exact ⟨_, (false), (by first | rfl | (simp; done) | (simp [*]; done)), H', ⟨by have := HK1.out; first | omega | exact Nat.le_refl _⟩, ⟨pR HO_3.out⟩, ⟨pR HO_10.out⟩, ⟨pB HB.out⟩⟩
      ·rw [if_neg c16] at H
       have c16b0 : decide (x12_1 < t657) = false := decide_eq_false c16
       clear c16
       (first | rw [c16b0] | (simp only [i64_w, i32_w]; rw [c16b0]) | skip)
       have H' := Aside0.mk H
       clear H
       go_wp2
       go_meet
       case rel => exact ⟨_, (false), (by first | rfl | (simp; done) | (simp [*]; done)), H', ⟨by have := HK1.out; first | omega | exact Nat.le_refl _⟩, ⟨pR HO_3.out⟩, ⟨pR HO_10.out⟩, ⟨pB HB.out⟩⟩
     case rest =>
      clear HC15
      try clear c1
      try clear c2
      try clear c2b0
      try clear c2b1
      try clear p2
      try clear c3
      try clear c6
      try clear c6b0
      try clear c6b1
      try clear c6b2
      try clear c13
      try clear c16
      try clear c16b0
      try clear c17
      try clear c17b0
      try clear p2
      obtain ⟨kq, x54_14, rfl, HA, HJ14, HO_3, HO_10, HB⟩ := hcut
      cases kq with
      | zero => exact absurd HA.out (by simp [laws_FnBlkOld.j1])
      | succ kj14 =>
       have H := HA.out
       clear HA
       simp only [laws_FnBlkOld.j1] at H
       by_cases c18 : x54_14 = true
       ·subst c18
        have H1 : ((impl_BlkGet.f kj14 t665 t655 t656 x12_1).bind fun t669 => ((spec_BlkGet.f kj14 t654 t655 t656 x12_1).bind fun t670 => (if t669 = t670 then (laws_FnBlkOld.l0 kj14 t654 t655 t656 t657 t665 t666 (wrap64 (x12_1 + 1))) else (some false)))) = some r := by rw [if_pos rfl] at H; exact H
        clear H
        have H := H1
        clear H1
        replace H := Option.bind_eq_some_iff.mp H
        obtain ⟨t669, A190, H⟩ := H
        replace H : ((spec_BlkGet.f kj14 t654 t655 t656 x12_1).bind fun t670 => (if t669 = t670 then (laws_FnBlkOld.l0 kj14 t654 t655 t656 t657 t665 t666 (wrap64 (x12_1 + 1))) else (some false))) = some r := H
        have A19 := Aside0.mk A190
        clear A190
        replace H := Option.bind_eq_some_iff.mp H
        obtain ⟨t670, A200, H⟩ := H
        replace H : (if t669 = t670 then (laws_FnBlkOld.l0 kj14 t654 t655 t656 t657 t665 t666 (wrap64 (x12_1 + 1))) else (some false)) = some r := H
        have A20 := Aside0.mk A200
        clear A200
        by_cases c21 : t669 = t670
        ·rw [if_pos c21] at H
         have c21b0 : (t669 == t670) = true := beq_iff_eq.mpr c21
         have c21b1 : (t669 != t670) = false := bne_eq_false_iff_eq.mpr c21
         clear c21
         have H' := Aside0.mk H
         clear H
         obtain ⟨Ao22, co22, eo22⟩ := Kd.R_slice HO_10.out
         subst eo22
         go_wp2_with (first | ((with_reducible refine gate_callee (f := 26) rfl ?_); refine goesL_ (some 61) rfl rfl Try.func26 (by kernel_rfl) rfl #[.slice Ao22 t665.length co22, .int .i64 t655, .int .i64 t656, .int .i64 x12_1] rfl bM ?_; (with_reducible refine (impl_BlkGet.calls kj14 _ _ t665 t655 t656 x12_1 t669 _ ?side1 ?side2 A19.out).mono ?_); (case side1 => exact pC (Kd.R_reads' HO_10.out).2.2); (case side2 => exact (Kd.R_reads' HO_10.out).2.1); rintro e w23 ⟨rfl, hb⟩; refine ⟨_, rfl, ?_⟩; have n0_ := Aside0.mk (Kd.R_below (pR HO_3.out) hb); have n1_ := Aside0.mk (Kd.R_below (pR HO_10.out) hb); have n2_ := Aside0.mk (below_step (pB HB.out) hb); clear HO_3; clear HO_10; clear HB; have HO_3 := n0_; have HO_10 := n1_; have HB := n2_; clear n0_ n1_ n2_; (try clear hb); (try clear hb2); (try clear hk); (try clear hi)) | ((with_reducible refine gate_callee (f := 25) rfl ?_); refine goesL_ (some 66) rfl rfl Try.func25 (by kernel_rfl) rfl #[.slice Ao12 t654.length co12, .int .i64 t655, .int .i64 t656, .int .i64 x12_1] rfl bM ?_; (with_reducible refine (spec_BlkGet.calls kj14 _ _ t654 t655 t656 x12_1 t670 _ ?side1 ?side2 A20.out).mono ?_); (case side1 => exact pC (Kd.R_reads' HO_3.out).2.2); (case side2 => exact (Kd.R_reads' HO_3.out).2.1); rintro e w24 ⟨rfl, hb⟩; refine ⟨_, rfl, ?_⟩; have n0_ := Aside0.mk (Kd.R_below (pR HO_3.out) hb); have n1_ := Aside0.mk (Kd.R_below (pR HO_10.out) hb); have n2_ := Aside0.mk (below_step (pB HB.out) hb); clear HO_3; clear HO_10; clear HB; have HO_3 := n0_; have HO_10 := n1_; have HB := n2_; clear n0_ n1_ n2_; (try clear hb); (try clear hb2); (try clear hk); (try clear hi)))
         go_roundg kj14
         case measure => have := HK1.out; have := HJ14.out; omega
         case rel => exact ⟨(wrap64 (x12_1 + 1)), (by first | rfl | (simp; done) | (simp [*]; done)), H', ⟨by have := HK1.out; have := HJ14.out; omega⟩, ⟨pR HO_3.out⟩, ⟨pR HO_10.out⟩, ⟨pB HB.out⟩⟩
        ·rw [if_neg c21] at H
         have c21b0 : (t669 == t670) = false := beq_eq_false_iff_ne.mpr c21
         have c21b1 : (t669 != t670) = true := bne_iff_ne.mpr c21
         obtain rfl := Option.some.inj H
         obtain ⟨Ao25, co25, eo25⟩ := Kd.R_slice HO_10.out
         subst eo25
         go_wp2_with (first | ((with_reducible refine gate_callee (f := 26) rfl ?_); refine goesL_ (some 61) rfl rfl Try.func26 (by kernel_rfl) rfl #[.slice Ao25 t665.length co25, .int .i64 t655, .int .i64 t656, .int .i64 x12_1] rfl bM ?_; (with_reducible refine (impl_BlkGet.calls kj14 _ _ t665 t655 t656 x12_1 t669 _ ?side1 ?side2 A19.out).mono ?_); (case side1 => exact pC (Kd.R_reads' HO_10.out).2.2); (case side2 => exact (Kd.R_reads' HO_10.out).2.1); rintro e w26 ⟨rfl, hb⟩; refine ⟨_, rfl, ?_⟩; have n0_ := Aside0.mk (Kd.R_below (pR HO_3.out) hb); have n1_ := Aside0.mk (Kd.R_below (pR HO_10.out) hb); have n2_ := Aside0.mk (below_step (pB HB.out) hb); clear HO_3; clear HO_10; clear HB; have HO_3 := n0_; have HO_10 := n1_; have HB := n2_; clear n0_ n1_ n2_; (try clear hb); (try clear hb2); (try clear hk); (try clear hi)) | ((with_reducible refine gate_callee (f := 25) rfl ?_); refine goesL_ (some 66) rfl rfl Try.func25 (by kernel_rfl) rfl #[.slice Ao12 t654.length co12, .int .i64 t655, .int .i64 t656, .int .i64 x12_1] rfl bM ?_; (with_reducible refine (spec_BlkGet.calls kj14 _ _ t654 t655 t656 x12_1 t670 _ ?side1 ?side2 A20.out).mono ?_); (case side1 => exact pC (Kd.R_reads' HO_3.out).2.2); (case side2 => exact (Kd.R_reads' HO_3.out).2.1); rintro e w27 ⟨rfl, hb⟩; refine ⟨_, rfl, ?_⟩; have n0_ := Aside0.mk (Kd.R_below (pR HO_3.out) hb); have n1_ := Aside0.mk (Kd.R_below (pR HO_10.out) hb); have n2_ := Aside0.mk (below_step (pB HB.out) hb); clear HO_3; clear HO_10; clear HB; have HO_3 := n0_; have HO_10 := n1_; have HB := n2_; clear n0_ n1_ n2_; (try clear hb); (try clear hb2); (try clear hk); (try clear hi)))
         go_ret
         exact ⟨by first | rfl | (simp [errW_none, errW_some] <;> rfl) | (simp [*, errW_none, errW_some] <;> rfl), pB HB.out⟩
       ·replace c18 := Bool.eq_false_iff.mpr c18
        subst c18
        have H1 : (some true) = some r := by rw [if_neg (show ¬ (false = true) by decide)] at H; exact H
        clear H
        have H := H1
        clear H1
        obtain rfl := Option.some.inj H
        go_wp2
        go_ret
        exact ⟨by first | rfl | (simp [errW_none, errW_some] <;> rfl) | (simp [*, errW_none, errW_some] <;> rfl), pB HB.out⟩

/-- THE ONE PURE STATEMENT of laws_FnBlkOld: yours. -/
def laws_FnBlkOld.Pure : Prop := ∀ (l0 : List Int), l0.length ≤ maxLen → l0.length * 1 ≤ 140737488351232 → (∀ x ∈ l0, (Lit.int .u8 x).wf = true) → ∃ k, laws_FnBlkOld.f k l0 = some true
theorem laws_FnBlkOld.walk (P : laws_FnBlkOld.Pure) (a0 : Option Addr) (len0 cap0 : Nat) (z0 : List Int) (w : World) (w0 : (a0 = none ∧ len0 = 0 ∧ cap0 = 0 ∧ z0 = []) ∨ ∃ x, a0 = some x ∧ len0 ≤ cap0 ∧ cap0 ≤ maxLen ∧ z0.length = cap0 ∧ (∀ i, i < z0.length → w.cell? (x.add i) = some (.int .u8 (z0.getD i 0))) ∧ ∀ n ∈ z0, (Lit.int .u8 n).wf = true) (y0 : len0 * 1 ≤ 140737488351232) :
  Calls Try.prog 13 #[.slice a0 len0 cap0] w fun e w' => e = .returned (.bool true) ∧ Below w.heap.size w w' := by
 obtain ⟨l0, rfl, hr0, hm0, hw0, hc0⟩ := ReadsInt.ofRowC w0
 obtain ⟨k, h⟩ := P l0 hm0 y0 hw0
 refine (laws_FnBlkOld.calls k _ _ l0 true w (Kd.C_of_reads (d := (0 : Int)) (h1 := fun _ => rfl) hr0) hc0 h).mono ?_
 rintro e w' ⟨rfl, hd⟩
 exact ⟨rfl, hd⟩

end Go.Proofs.Ytdcdaclmicmiaaa.P
