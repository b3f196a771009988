-- printed by pprint.py (this session's program over the kit's printer) out of the translation. Lean checks it.
import Derived.Test.YtdcdaclmicmiaaaPx0
import Derived.Test.YtdcdaclmicmiaaaPx8
import Derived.Test.YtdcdaclmicmiaaaPx10
import Derived.Test.YtdcdaclmicmiaaaPx13
import Derived.Test.YtdcdaclmicmiaaaPx14
namespace Go.Proofs.Ytdcdaclmicmiaaa.P
open Go.RowKit Go.Proofs.YtdcdaclmicmiaaaX Go.Proofs.YtdcdaclmicmiaaaW.PrintWords Go.Proofs.YtdcdaclmicmiaaaW.PrintLast Go.Proofs.YtdcdaclmicmiaaaW.PrintMore
attribute [local go_sem] max2_int min2_int max_two min_two max_three min_three max_four min_four   -- for this text's walks alone
set_option linter.unusedVariables false
set_option linter.unusedSimpArgs false

/-! ### laws_FnBlkTwice: function 10 -/
def laws_FnBlkTwice.j0 : Nat → Int → Int → Int → Int → List (S55) → Bool → Bool → Option (Bool)
 | 0, _, _, _, _, _, _, _ => none
 | k + 1, x4, x5, x6, x7, x10, x11, x51 => if x51 = true then (some false) else ((impl_BlkPut.f k x10 x4 x5 x6 x7).bind fun bt596 => (if x11 = true then (if bt596.2 = true then ((laws_lpPieces.f k bt596.1 x10).bind fun t600 => (some t600)) else (some false)) else (some true)))
def laws_FnBlkTwice.f (k : Nat) (l0 : List Int) : Option (Bool) := if (l0.length : Int) > 1048576 then (some true) else ((spec_DrawBlkPut.f k l0).bind fun bt580 => ((spec_BlkPut.f k bt580.1 bt580.2.1 bt580.2.2.1 bt580.2.2.2.1 bt580.2.2.2.2).bind fun bt587 => ((impl_BlkPut.f k bt580.1 bt580.2.1 bt580.2.2.1 bt580.2.2.2.1 bt580.2.2.2.2).bind fun bt591 => (if (bt591.2 != bt587.2) = true then (laws_FnBlkTwice.j0 k bt580.2.1 bt580.2.2.1 bt580.2.2.2.1 bt580.2.2.2.2 bt591.1 bt591.2 true) else ((laws_lpPieces.f k bt591.1 bt587.1).bind fun t595 => (laws_FnBlkTwice.j0 k bt580.2.1 bt580.2.2.1 bt580.2.2.2.1 bt580.2.2.2.2 bt591.1 bt591.2 (!t595)))))))
theorem laws_FnBlkTwice.mono_l : ∀ k, (∀ y0 y1 y2 y3 y4 y5 y6, LeO (laws_FnBlkTwice.j0 k y0 y1 y2 y3 y4 y5 y6) (laws_FnBlkTwice.j0 (k + 1) y0 y1 y2 y3 y4 y5 y6))
 | 0 => fun _ _ _ _ _ _ _ r h => by simp [laws_FnBlkTwice.j0] at h
 | k + 1 => by
  have ih0 := laws_FnBlkTwice.mono_l k
  ·intro y0 y1 y2 y3 y4 y5 y6
   unfold laws_FnBlkTwice.j0
   repeat' first
   | (with_reducible exact ih0 _ _ _ _ _ _ _)
   | (with_reducible exact impl_BlkPut.mono _ _ _ _ _ _)
   | (with_reducible exact laws_lpPieces.mono _ _ _)
   | (with_reducible exact spec_BlkPut.mono _ _ _ _ _ _)
   | (with_reducible exact spec_DrawBlkPut.mono _ _)
   | (with_reducible exact LeO.refl _)
   | (with_reducible exact LeO.none _)
   | (with_reducible refine LeO.ite ?_ ?_)
   | (with_reducible refine LeO.bind ?_ (fun _ => ?_))
   | exact ih0 _ _ _ _ _ _ _
   | exact impl_BlkPut.mono _ _ _ _ _ _
   | exact laws_lpPieces.mono _ _ _
   | exact spec_BlkPut.mono _ _ _ _ _ _
   | exact spec_DrawBlkPut.mono _ _
   | exact LeO.none _
   | refine LeO.ite ?_ ?_
   | refine LeO.bind ?_ (fun _ => ?_)
theorem laws_FnBlkTwice.mono : ∀ a0 k, LeO (laws_FnBlkTwice.f k a0) (laws_FnBlkTwice.f (k + 1) a0) := by
 intro a0 k
 have ih0 := laws_FnBlkTwice.mono_l k
 unfold laws_FnBlkTwice.f
 repeat' first
   | (with_reducible exact ih0 _ _ _ _ _ _ _)
   | (with_reducible exact impl_BlkPut.mono _ _ _ _ _ _)
   | (with_reducible exact laws_lpPieces.mono _ _ _)
   | (with_reducible exact spec_BlkPut.mono _ _ _ _ _ _)
   | (with_reducible exact spec_DrawBlkPut.mono _ _)
   | (with_reducible exact LeO.refl _)
   | (with_reducible exact LeO.none _)
   | (with_reducible refine LeO.ite ?_ ?_)
   | (with_reducible refine LeO.bind ?_ (fun _ => ?_))
   | exact ih0 _ _ _ _ _ _ _
   | exact impl_BlkPut.mono _ _ _ _ _ _
   | exact laws_lpPieces.mono _ _ _
   | exact spec_BlkPut.mono _ _ _ _ _ _
   | exact spec_DrawBlkPut.mono _ _
   | exact LeO.none _
   | refine LeO.ite ?_ ?_
   | refine LeO.bind ?_ (fun _ => ?_)
set_option maxHeartbeats 8000000 in
set_option maxRecDepth 100000 in
theorem laws_FnBlkTwice.calls (k : Nat) (A0 : Option Addr) (c0 : Nat) (l0 : List Int) (r : Bool) (w : World) (hr0 : Kd.C (Kd.int .u8) w A0 l0.length l0) (hc0 : l0.length ≤ c0) (h : laws_FnBlkTwice.f k l0 = some r) :
  Calls Try.prog 10 #[.slice A0 l0.length c0] w fun e w' => e = .returned (.bool r) ∧ Below w.heap.size w w' := by
 have HR0 := Aside0.mk hr0
 have HC0 := Aside0.mk hc0
 clear hr0 hc0
 have HB := Aside0.mk (Below.refl w.heap.size w)
 have H : (if (l0.length : Int) > 1048576 then (some true) else ((spec_DrawBlkPut.f k l0).bind fun bt580 => ((spec_BlkPut.f k bt580.1 bt580.2.1 bt580.2.2.1 bt580.2.2.2.1 bt580.2.2.2.2).bind fun bt587 => ((impl_BlkPut.f k bt580.1 bt580.2.1 bt580.2.2.1 bt580.2.2.2.1 bt580.2.2.2.2).bind fun bt591 => (if (bt591.2 != bt587.2) = true then (laws_FnBlkTwice.j0 k bt580.2.1 bt580.2.2.1 bt580.2.2.2.1 bt580.2.2.2.2 bt591.1 bt591.2 true) else ((laws_lpPieces.f k bt591.1 bt587.1).bind fun t595 => (laws_FnBlkTwice.j0 k bt580.2.1 bt580.2.2.1 bt580.2.2.2.1 bt580.2.2.2.2 bt591.1 bt591.2 (!t595)))))))) = some r := h
 clear h
 by_cases c2 : (l0.length : Int) > 1048576
 ·rw [if_pos c2] at H
  have c2b0 : decide (1048576 < (l0.length : Int)) = true := decide_eq_true c2
  have c2b1 : decide (1048576 < l0.length) = true := decide_eq_true (by omega)
  clear c2
  obtain rfl := Option.some.inj H
  go_enter Try.func10, Try.ntmps10
  go_wp2
  go_ret
  exact ⟨by first | rfl | (simp [errW_none, errW_some] <;> rfl) | (simp [*, errW_none, errW_some] <;> rfl), pB HB.out⟩
 ·rw [if_neg c2] at H
  have c2b0 : decide (1048576 < (l0.length : Int)) = false := decide_eq_false c2
  have c2b1 : decide (1048576 < l0.length) = false := decide_eq_false (by omega)
  clear c2
  replace H := Option.bind_eq_some_iff.mp H
  obtain ⟨⟨t580, t581, t582, t583, t584⟩, A30, H⟩ := H
  replace H : ((spec_BlkPut.f k t580 t581 t582 t583 t584).bind fun bt587 => ((impl_BlkPut.f k t580 t581 t582 t583 t584).bind fun bt591 => (if (bt591.2 != bt587.2) = true then (laws_FnBlkTwice.j0 k t581 t582 t583 t584 bt591.1 bt591.2 true) else ((laws_lpPieces.f k bt591.1 bt587.1).bind fun t595 => (laws_FnBlkTwice.j0 k t581 t582 t583 t584 bt591.1 bt591.2 (!t595)))))) = some r := H
  have A3 := Aside0.mk A30
  clear A30
  replace H := Option.bind_eq_some_iff.mp H
  obtain ⟨⟨t587, t588⟩, A40, H⟩ := H
  replace H : ((impl_BlkPut.f k t580 t581 t582 t583 t584).bind fun bt591 => (if (bt591.2 != t588) = true then (laws_FnBlkTwice.j0 k t581 t582 t583 t584 bt591.1 bt591.2 true) else ((laws_lpPieces.f k bt591.1 t587).bind fun t595 => (laws_FnBlkTwice.j0 k t581 t582 t583 t584 bt591.1 bt591.2 (!t595))))) = some r := H
  have A4 := Aside0.mk A40
  clear A40
  replace H := Option.bind_eq_some_iff.mp H
  obtain ⟨⟨t591, t592⟩, A50, H⟩ := H
  replace H : (if (t592 != t588) = true then (laws_FnBlkTwice.j0 k t581 t582 t583 t584 t591 t592 true) else ((laws_lpPieces.f k t591 t587).bind fun t595 => (laws_FnBlkTwice.j0 k t581 t582 t583 t584 t591 t592 (!t595)))) = some r := H
  have A5 := Aside0.mk A50
  clear A50
  have HC6 := Aside0.mk H
  clear H
  go_enter Try.func10, Try.ntmps10
  go_upto_region 6 with (first | ((with_reducible refine gate_callee (f := 37) rfl ?_); refine goesL_ (some 19) rfl rfl Try.func37 (by kernel_rfl) rfl #[.slice A0 l0.length c0] rfl bM ?_; (with_reducible refine (spec_DrawBlkPut.calls k _ _ l0 t580 t581 t582 t583 t584 _ ?side1 ?side2 A3.out).mono ?_); (case side1 => exact pC HR0.out); (case side2 => exact HC0.out); rintro e w7 ⟨v585, rfl, ho0, hb⟩; refine ⟨_, rfl, ?_⟩; have n0_ := Aside0.mk (Kd.R_lower ho0 (below_size (pB HB.out))); have n1_ := Aside0.mk (below_step (pB HB.out) hb); clear HB; have HO586 := n0_; have HB := n1_; clear n0_ n1_; (try clear hb); (try clear hb2); (try clear hk); (try clear hi); (try clear ho0); obtain ⟨Ao8, co8, eo8⟩ := Kd.R_slice HO586.out; subst eo8) | ((with_reducible refine gate_callee (f := 38) rfl ?_); refine goesL_ (some 31) rfl rfl Try.func38 (by kernel_rfl) rfl #[.slice Ao8 t580.length co8, .int .i64 t581, .int .i64 t582, .int .i64 t583, .int .i64 t584] rfl bM ?_; (with_reducible refine (spec_BlkPut.calls k _ _ t580 t581 t582 t583 t584 t587 t588 _ ?side1 ?side2 A4.out).mono ?_); (case side1 => exact pC (Kd.R_reads' HO586.out).2.2); (case side2 => exact (Kd.R_reads' HO586.out).2.1); rintro e w9 ⟨v589, rfl, ho0, hb⟩; refine ⟨_, rfl, ?_⟩; have n0_ := Aside0.mk (Kd.R_elder' (pR HO586.out) (Kd.R_base ho0) hb); have n1_ := Aside0.mk (Kd.R_lower (Kd.R_new' ho0 (Kd.R_lt (pR HO586.out))) (below_size (pB HB.out))); have n2_ := Aside0.mk (below_step (pB HB.out) hb); clear HO586; clear HB; have HO586 := n0_; have HO590 := n1_; have HB := n2_; clear n0_ n1_ n2_; (try clear hb); (try clear hb2); (try clear hk); (try clear hi); (try clear ho0)) | ((with_reducible refine gate_callee (f := 39) rfl ?_); refine goesL_ (some 40) rfl rfl Try.func39 (by kernel_rfl) rfl #[.slice Ao8 t580.length co8, .int .i64 t581, .int .i64 t582, .int .i64 t583, .int .i64 t584] rfl bM ?_; (with_reducible refine (impl_BlkPut.calls k _ _ t580 t581 t582 t583 t584 t591 t592 _ ?side1 ?side2 A5.out).mono ?_); (case side1 => exact pC (Kd.R_reads' HO586.out).2.2); (case side2 => exact (Kd.R_reads' HO586.out).2.1); rintro e w10 ⟨v593, rfl, ho0, hb⟩; refine ⟨_, rfl, ?_⟩; have n0_ := Aside0.mk (Kd.R_elder' (pR HO586.out) (Kd.R_base ho0) hb); have n1_ := Aside0.mk (Kd.R_elder' (pR HO590.out) (Kd.R_base ho0) hb); have n2_ := Aside0.mk (Kd.R_lower (Kd.R_new' (Kd.R_new' ho0 (Kd.R_lt (pR HO586.out))) (Kd.R_lt (pR HO590.out))) (below_size (pB HB.out))); have n3_ := Aside0.mk (below_step (pB HB.out) hb); clear HO586; clear HO590; clear HB; have HO586 := n0_; have HO590 := n1_; have HO594 := n2_; have HB := n3_; clear n0_ n1_ n2_ n3_; (try clear hb); (try clear hb2); (try clear hk); (try clear hi); (try clear ho0)))
  (try simp only [Act.put, List.setIfInBounds_toArray, List.set_cons_zero, List.set_cons_succ])
  go_cut [51] (fun v51 wc => ∃ (kq : Nat) (x51_5 : Bool), v51 = .bool x51_5 ∧ Aside0 (laws_FnBlkTwice.j0 kq t581 t582 t583 t584 t591 t592 x51_5 = some r) ∧ Aside0 (kq ≤ k) ∧ Aside0 (Kd.R k55 55 wc w.heap.size (fun _ => True) v593 t591) ∧ Aside0 (Below w.heap.size w wc))
  case first =>
   have H := HC6.out
   clear HC6
   by_cases c11 : (t592 != t588) = true
   ·rw [if_pos c11] at H
    have c11b0 : (t592 != t588) = true := c11
    (try (have c11b1 : decide (t592 = t588) = false := by simpa using c11))
    (try (have c11b2 : (t592 == t588) = false := by simpa using c11))
    (try (have c11b3 : ¬ (t592 = t588) := by simpa using c11))
    clear c11
    (first | rw [c11b0] | (simp only [i64_w, i32_w]; rw [c11b0]) | skip)
    have H' := Aside0.mk H
    clear H
    go_wp2
    go_meet
    case rel => exact ⟨_, (true), (by first | rfl | (simp; done) | (simp [*]; done)), H', ⟨by first | omega | exact Nat.le_refl _⟩, ⟨pR (Kd.R_mono HO594.out (fun _ hk => trivial))⟩, ⟨pB HB.out⟩⟩
   ·rw [if_neg c11] at H
    have c11b0 : (t592 != t588) = false := by simpa using c11
    (try (have c11b1 : decide (t592 = t588) = true := by simpa using c11))
    (try (have c11b2 : (t592 == t588) = true := by simpa using c11))
    clear c11
    (first | rw [c11b0] | (simp only [i64_w, i32_w]; rw [c11b0]) | skip)
    replace H := Option.bind_eq_some_iff.mp H
    obtain ⟨t595, A120, H⟩ := H
    replace H : (laws_FnBlkTwice.j0 k t581 t582 t583 t584 t591 t592 (!t595)) = some r := H
    have A12 := Aside0.mk A120
    clear A120
    have H' := Aside0.mk H
    clear H
    obtain ⟨Ao13, co13, eo13⟩ := Kd.R_slice HO594.out
    subst eo13
    obtain ⟨Ao14, co14, eo14⟩ := Kd.R_slice HO590.out
    subst eo14
    go_wp2_with (first | (go_at_call 40; (with_reducible refine (laws_lpPieces.calls k _ _ t591 _ _ t587 t595 _ ?side1 ?side2 ?side3 ?side4 A12.out).mono ?_); (case side1 => exact pC (Kd.R_reads' HO594.out).2.2); (case side2 => exact (Kd.R_reads' HO594.out).2.1); (case side3 => exact pC (Kd.R_reads' HO590.out).2.2); (case side4 => exact (Kd.R_reads' HO590.out).2.1); rintro e w' ⟨rfl, ⟨nd, rfl⟩⟩))
    go_meet
    case rel => exact ⟨_, (!t595), (by first | rfl | (simp; done) | (simp [*]; done)), H', ⟨by first | omega | exact Nat.le_refl _⟩, ⟨pR (Kd.R_mono HO594.out (fun _ hk => trivial))⟩, ⟨pB HB.out⟩⟩
  case rest =>
   clear HC6
   try clear c1
   try clear c2
   try clear c2b0
   try clear c2b1
   try clear p2
   try clear c3
   try clear c10
   try clear c11
   try clear c11b0
   try clear c11b1
   try clear c11b2
   obtain ⟨kq, x51_5, rfl, HA, HJ5, HO_10, HB⟩ := hcut
   cases kq with
   | zero => exact absurd HA.out (by simp [laws_FnBlkTwice.j0])
   | succ kj5 =>
    have H := HA.out
    clear HA
    simp only [laws_FnBlkTwice.j0] at H
    by_cases c15 : x51_5 = true
    ·subst c15
     have H1 : (some false) = some r := by rw [if_pos rfl] at H; exact H
     clear H
     have H := H1
     clear H1
     obtain rfl := Option.some.inj H
     go_wp2
     go_ret
     exact ⟨by first | rfl | (simp [errW_none, errW_some] <;> rfl) | (simp [*, errW_none, errW_some] <;> rfl), pB HB.out⟩
    ·replace c15 := Bool.eq_false_iff.mpr c15
     subst c15
     have H1 : ((impl_BlkPut.f kj5 t591 t581 t582 t583 t584).bind fun bt596 => (if t592 = true then (if bt596.2 = true then ((laws_lpPieces.f kj5 bt596.1 t591).bind fun t600 => (some t600)) else (some false)) else (some true))) = some r := by rw [if_neg (show ¬ (false = true) by decide)] at H; exact H
     clear H
     have H := H1
     clear H1
     replace H := Option.bind_eq_some_iff.mp H
     obtain ⟨⟨t596, t597⟩, A160, H⟩ := H
     replace H : (if t592 = true then (if t597 = true then ((laws_lpPieces.f kj5 t596 t591).bind fun t600 => (some t600)) else (some false)) else (some true)) = some r := H
     have A16 := Aside0.mk A160
     clear A160
     by_cases c17 : t592 = true
     ·subst c17
      have H1 : (if t597 = true then ((laws_lpPieces.f kj5 t596 t591).bind fun t600 => (some t600)) else (some false)) = some r := by rw [if_pos rfl] at H; exact H
      clear H
      have H := H1
      clear H1
      by_cases c18 : t597 = true
      ·subst c18
       have H1 : ((laws_lpPieces.f kj5 t596 t591).bind fun t600 => (some t600)) = some r := by rw [if_pos rfl] at H; exact H
       clear H
       have H := H1
       clear H1
       replace H := Option.bind_eq_some_iff.mp H
       obtain ⟨t600, A190, H⟩ := H
       replace H : (some t600) = some r := H
       have A19 := Aside0.mk A190
       clear A190
       obtain rfl := Option.some.inj H
       obtain ⟨Ao20, co20, eo20⟩ := Kd.R_slice HO_10.out
       subst eo20
       go_wp2_with (first | ((with_reducible refine gate_callee (f := 39) rfl ?_); refine goesL_ (some 58) rfl rfl Try.func39 (by kernel_rfl) rfl #[.slice Ao20 t591.length co20, .int .i64 t581, .int .i64 t582, .int .i64 t583, .int .i64 t584] rfl bM ?_; (with_reducible refine (impl_BlkPut.calls kj5 _ _ t591 t581 t582 t583 t584 t596 true _ ?side1 ?side2 A16.out).mono ?_); (case side1 => exact pC (Kd.R_reads' HO_10.out).2.2); (case side2 => exact (Kd.R_reads' HO_10.out).2.1); rintro e w21 ⟨v598, rfl, ho0, hb⟩; refine ⟨_, rfl, ?_⟩; have n0_ := Aside0.mk (Kd.R_elder' (pR HO_10.out) (Kd.R_base ho0) hb); have n1_ := Aside0.mk (Kd.R_lower (Kd.R_new' ho0 (Kd.R_lt (pR HO_10.out))) (below_size (pB HB.out))); have n2_ := Aside0.mk (below_step (pB HB.out) hb); clear HO_10; clear HB; have HO_10 := n0_; have HO599 := n1_; have HB := n2_; clear n0_ n1_ n2_; (try clear hb); (try clear hb2); (try clear hk); (try clear hi); (try clear ho0); obtain ⟨Ao22, co22, eo22⟩ := Kd.R_slice HO599.out; subst eo22) | (go_at_call 40; (with_reducible refine (laws_lpPieces.calls kj5 _ _ t596 _ _ t591 t600 _ ?side1 ?side2 ?side3 ?side4 A19.out).mono ?_); (case side1 => exact pC (Kd.R_reads' HO599.out).2.2); (case side2 => exact (Kd.R_reads' HO599.out).2.1); (case side3 => exact pC (Kd.R_reads' HO_10.out).2.2); (case side4 => exact (Kd.R_reads' HO_10.out).2.1); rintro e w' ⟨rfl, ⟨nd, rfl⟩⟩))
       go_ret
       exact ⟨by first | rfl | (simp [errW_none, errW_some] <;> rfl) | (simp [*, errW_none, errW_some] <;> rfl), pB HB.out⟩
      ·replace c18 := Bool.eq_false_iff.mpr c18
       subst c18
       have H1 : (some false) = some r := by rw [if_neg (show ¬ (false = true) by decide)] at H; exact H
       clear H
       have H := H1
       clear H1
       obtain rfl := Option.some.inj H
       obtain ⟨Ao23, co23, eo23⟩ := Kd.R_slice HO_10.out
       subst eo23
       go_wp2_with (first | ((with_reducible refine gate_callee (f := 39) rfl ?_); refine goesL_ (some 58) rfl rfl Try.func39 (by kernel_rfl) rfl #[.slice Ao23 t591.length co23, .int .i64 t581, .int .i64 t582, .int .i64 t583, .int .i64 t584] rfl bM ?_; (with_reducible refine (impl_BlkPut.calls kj5 _ _ t591 t581 t582 t583 t584 t596 false _ ?side1 ?side2 A16.out).mono ?_); (case side1 => exact pC (Kd.R_reads' HO_10.out).2.2); (case side2 => exact (Kd.R_reads' HO_10.out).2.1); rintro e w24 ⟨v598, rfl, ho0, hb⟩; refine ⟨_, rfl, ?_⟩; have n0_ := Aside0.mk (Kd.R_elder' (pR HO_10.out) (Kd.R_base ho0) hb); have n1_ := Aside0.mk (Kd.R_lower (Kd.R_new' ho0 (Kd.R_lt (pR HO_10.out))) (below_size (pB HB.out))); have n2_ := Aside0.mk (below_step (pB HB.out) hb); clear HO_10; clear HB; have HO_10 := n0_; have HO599 := n1_; have HB := n2_; clear n0_ n1_ n2_; (try clear hb); (try clear hb2); (try clear hk); (try clear hi); (try clear ho0)))
       go_ret
       exact ⟨by first | rfl | (simp [errW_none, errW_some] <;> rfl) | (simp [*, errW_none, errW_some] <;> rfl), pB HB.out⟩
     ·replace c17 := Bool.eq_false_iff.mpr c17
      subst c17
      have H1 : (some true) = some r := by rw [if_neg (show ¬ (false = true) by decide)] at H; exact H
      clear H
      have H := H1
      clear H1
      obtain rfl := Option.some.inj H
      obtain ⟨Ao25, co25, eo25⟩ := Kd.R_slice HO_10.out
      subst eo25
      go_wp2_with (first | ((with_reducible refine gate_callee (f := 39) rfl ?_); refine goesL_ (some 58) rfl rfl Try.func39 (by kernel_rfl) rfl #[.slice Ao25 t591.length co25, .int .i64 t581, .int .i64 t582, .int .i64 t583, .int .i64 t584] rfl bM ?_; (with_reducible refine (impl_BlkPut.calls kj5 _ _ t591 t581 t582 t583 t584 t596 t597 _ ?side1 ?side2 A16.out).mono ?_); (case side1 => exact pC (Kd.R_reads' HO_10.out).2.2); (case side2 => exact (Kd.R_reads' HO_10.out).2.1); rintro e w26 ⟨v598, rfl, ho0, hb⟩; refine ⟨_, rfl, ?_⟩; have n0_ := Aside0.mk (Kd.R_elder' (pR HO_10.out) (Kd.R_base ho0) hb); have n1_ := Aside0.mk (Kd.R_lower (Kd.R_new' ho0 (Kd.R_lt (pR HO_10.out))) (below_size (pB HB.out))); have n2_ := Aside0.mk (below_step (pB HB.out) hb); clear HO_10; clear HB; have HO_10 := n0_; have HO599 := n1_; have HB := n2_; clear n0_ n1_ n2_; (try clear hb); (try clear hb2); (try clear hk); (try clear hi); (try clear ho0)))
      go_ret
      exact ⟨by first | rfl | (simp [errW_none, errW_some] <;> rfl) | (simp [*, errW_none, errW_some] <;> rfl), pB HB.out⟩

/-- THE ONE PURE STATEMENT of laws_FnBlkTwice: yours. -/
def laws_FnBlkTwice.Pure : Prop := ∀ (l0 : List Int), l0.length ≤ maxLen → l0.length * 1 ≤ 140737488351232 → (∀ x ∈ l0, (Lit.int .u8 x).wf = true) → ∃ k, laws_FnBlkTwice.f k l0 = some true
theorem laws_FnBlkTwice.walk (P : laws_FnBlkTwice.Pure) (a0 : Option Addr) (len0 cap0 : Nat) (z0 : List Int) (w : World) (w0 : (a0 = none ∧ len0 = 0 ∧ cap0 = 0 ∧ z0 = []) ∨ ∃ x, a0 = some x ∧ len0 ≤ cap0 ∧ cap0 ≤ maxLen ∧ z0.length = cap0 ∧ (∀ i, i < z0.length → w.cell? (x.add i) = some (.int .u8 (z0.getD i 0))) ∧ ∀ n ∈ z0, (Lit.int .u8 n).wf = true) (y0 : len0 * 1 ≤ 140737488351232) :
  Calls Try.prog 10 #[.slice a0 len0 cap0] w fun e w' => e = .returned (.bool true) ∧ Below w.heap.size w w' := by
 obtain ⟨l0, rfl, hr0, hm0, hw0, hc0⟩ := ReadsInt.ofRowC w0
 obtain ⟨k, h⟩ := P l0 hm0 y0 hw0
 refine (laws_FnBlkTwice.calls k _ _ l0 true w (Kd.C_of_reads (d := (0 : Int)) (h1 := fun _ => rfl) hr0) hc0 h).mono ?_
 rintro e w' ⟨rfl, hd⟩
 exact ⟨rfl, hd⟩

end Go.Proofs.Ytdcdaclmicmiaaa.P
