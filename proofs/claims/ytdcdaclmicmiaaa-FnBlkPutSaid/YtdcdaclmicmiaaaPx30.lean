-- printed by pprint.py (this session's program over the kit's printer) out of the translation. Lean checks it.
import Derived.Test.YtdcdaclmicmiaaaPx0
import Derived.Test.YtdcdaclmicmiaaaPx4
import Derived.Test.YtdcdaclmicmiaaaPx5
import Derived.Test.YtdcdaclmicmiaaaPx7
import Derived.Test.YtdcdaclmicmiaaaPx9
import Derived.Test.YtdcdaclmicmiaaaPx12
import Derived.Test.YtdcdaclmicmiaaaPx13
import Derived.Test.YtdcdaclmicmiaaaPx14
namespace Go.Proofs.Ytdcdaclmicmiaaa.P
open Go.RowKit Go.Proofs.YtdcdaclmicmiaaaX Go.Proofs.YtdcdaclmicmiaaaW.PrintWords Go.Proofs.YtdcdaclmicmiaaaW.PrintLast Go.Proofs.YtdcdaclmicmiaaaW.PrintMore
attribute [local go_sem] max2_int min2_int max_two min_two max_three min_three max_four min_four   -- for this text's walks alone
set_option linter.unusedVariables false
set_option linter.unusedSimpArgs false

/-! ### laws_FnBlkPut: function 12 -/
mutual
def laws_FnBlkPut.j0 : Nat → List (S55) → Int → Int → Int → Int → Bool → List (S55) → Bool → Bool → Option (Bool)
 | 0, _, _, _, _, _, _, _, _, _ => none
 | k + 1, x3, x4, x5, x6, x7, x10, x11, x12, x54 => if x54 = true then (some false) else (if x12 = true then (laws_FnBlkPut.l0 k x3 x4 x5 x6 x7 x11 0) else (if x10 = true then ((laws_lpPieces.f k x11 x3).bind fun t583 => (some t583)) else (if (x11.length : Int) = 0 then (some true) else (some false))))
def laws_FnBlkPut.l0 : Nat → List (S55) → Int → Int → Int → Int → List (S55) → Int → Option (Bool)
 | 0, _, _, _, _, _, _, _ => none
 | k + 1, x3, x4, x5, x6, x7, x11, x13 => if x13 < (x3.length : Int) then (if 0 ≤ x13 then (if ((rd_T55 x3 x13).f0) = x4 then (if ((rd_T55 x3 x13).f1) = x5 then (laws_FnBlkPut.l0 k x3 x4 x5 x6 x7 x11 (wrap64 (x13 + 1))) else ((impl_BlkGet.f k x11 ((rd_T55 x3 x13).f0) ((rd_T55 x3 x13).f1) ((rd_T55 x3 x13).f2)).bind fun t588 => ((impl_BlkGet.f k x3 ((rd_T55 x3 x13).f0) ((rd_T55 x3 x13).f1) ((rd_T55 x3 x13).f2)).bind fun t589 => (if t588 = t589 then (laws_FnBlkPut.l0 k x3 x4 x5 x6 x7 x11 (wrap64 (x13 + 1))) else (some false))))) else ((impl_BlkGet.f k x11 ((rd_T55 x3 x13).f0) ((rd_T55 x3 x13).f1) ((rd_T55 x3 x13).f2)).bind fun t590 => ((impl_BlkGet.f k x3 ((rd_T55 x3 x13).f0) ((rd_T55 x3 x13).f1) ((rd_T55 x3 x13).f2)).bind fun t591 => (if t590 = t591 then (laws_FnBlkPut.l0 k x3 x4 x5 x6 x7 x11 (wrap64 (x13 + 1))) else (some false))))) else (none)) else ((impl_BlkOk.f k x11).bind fun t584 => (if t584 = true then ((impl_BlkGet.f k x11 x4 x5 x6).bind fun t585 => (if t585 = x7 then (some (decide ((x11.length : Int) ≤ (wrap64 ((x3.length : Int) + 1))))) else (some false))) else (some false)))
end
def laws_FnBlkPut.f (k : Nat) (l0 : List Int) : Option (Bool) := if (l0.length : Int) > 1048576 then (some true) else ((spec_DrawBlkPut.f k l0).bind fun bt566 => ((spec_BlkPut.f k bt566.1 bt566.2.1 bt566.2.2.1 bt566.2.2.2.1 bt566.2.2.2.2).bind fun bt573 => ((spec_BlkOk.f k bt566.1).bind fun t577 => ((impl_BlkPut.f k bt566.1 bt566.2.1 bt566.2.2.1 bt566.2.2.2.1 bt566.2.2.2.2).bind fun bt578 => (if (bt578.2 != bt573.2) = true then (laws_FnBlkPut.j0 k bt566.1 bt566.2.1 bt566.2.2.1 bt566.2.2.2.1 bt566.2.2.2.2 t577 bt578.1 bt578.2 true) else ((laws_lpPieces.f k bt578.1 bt573.1).bind fun t582 => (laws_FnBlkPut.j0 k bt566.1 bt566.2.1 bt566.2.2.1 bt566.2.2.2.1 bt566.2.2.2.2 t577 bt578.1 bt578.2 (!t582))))))))
theorem laws_FnBlkPut.mono_l : ∀ k, (∀ y0 y1 y2 y3 y4 y5 y6 y7 y8, LeO (laws_FnBlkPut.j0 k y0 y1 y2 y3 y4 y5 y6 y7 y8) (laws_FnBlkPut.j0 (k + 1) y0 y1 y2 y3 y4 y5 y6 y7 y8)) ∧ (∀ y0 y1 y2 y3 y4 y5 y6, LeO (laws_FnBlkPut.l0 k y0 y1 y2 y3 y4 y5 y6) (laws_FnBlkPut.l0 (k + 1) y0 y1 y2 y3 y4 y5 y6))
 | 0 => ⟨fun _ _ _ _ _ _ _ _ _ r h => by simp [laws_FnBlkPut.j0] at h, fun _ _ _ _ _ _ _ r h => by simp [laws_FnBlkPut.l0] at h⟩
 | k + 1 => by
  obtain ⟨ih0, ih1⟩ := laws_FnBlkPut.mono_l k
  refine ⟨?_, ?_⟩
  ·intro y0 y1 y2 y3 y4 y5 y6 y7 y8
   unfold laws_FnBlkPut.j0
   repeat' first
   | (with_reducible exact ih0 _ _ _ _ _ _ _ _ _)
   | (with_reducible exact ih1 _ _ _ _ _ _ _)
   | (with_reducible exact impl_BlkGet.mono _ _ _ _ _)
   | (with_reducible exact impl_BlkOk.mono _ _)
   | (with_reducible exact impl_BlkPut.mono _ _ _ _ _ _)
   | (with_reducible exact laws_lpPieces.mono _ _ _)
   | (with_reducible exact spec_BlkOk.mono _ _)
   | (with_reducible exact spec_BlkPut.mono _ _ _ _ _ _)
   | (with_reducible exact spec_DrawBlkPut.mono _ _)
   | (with_reducible exact LeO.refl _)
   | (with_reducible exact LeO.none _)
   | (with_reducible refine LeO.ite ?_ ?_)
   | (with_reducible refine LeO.bind ?_ (fun _ => ?_))
   | exact ih0 _ _ _ _ _ _ _ _ _
   | exact ih1 _ _ _ _ _ _ _
   | exact impl_BlkGet.mono _ _ _ _ _
   | exact impl_BlkOk.mono _ _
   | exact impl_BlkPut.mono _ _ _ _ _ _
   | exact laws_lpPieces.mono _ _ _
   | exact spec_BlkOk.mono _ _
   | exact spec_BlkPut.mono _ _ _ _ _ _
   | exact spec_DrawBlkPut.mono _ _
   | exact LeO.none _
   | refine LeO.ite ?_ ?_
   | refine LeO.bind ?_ (fun _ => ?_)
  ·intro y0 y1 y2 y3 y4 y5 y6
   unfold laws_FnBlkPut.l0
   repeat' first
   | (with_reducible exact ih0 _ _ _ _ _ _ _ _ _)
   | (with_reducible exact ih1 _ _ _ _ _ _ _)
   | (with_reducible exact impl_BlkGet.mono _ _ _ _ _)
   | (with_reducible exact impl_BlkOk.mono _ _)
   | (with_reducible exact impl_BlkPut.mono _ _ _ _ _ _)
   | (with_reducible exact laws_lpPieces.mono _ _ _)
   | (with_reducible exact spec_BlkOk.mono _ _)
   | (with_reducible exact spec_BlkPut.mono _ _ _ _ _ _)
   | (with_reducible exact spec_DrawBlkPut.mono _ _)
   | (with_reducible exact LeO.refl _)
   | (with_reducible exact LeO.none _)
   | (with_reducible refine LeO.ite ?_ ?_)
   | (with_reducible refine LeO.bind ?_ (fun _ => ?_))
   | exact ih0 _ _ _ _ _ _ _ _ _
   | exact ih1 _ _ _ _ _ _ _
   | exact impl_BlkGet.mono _ _ _ _ _
   | exact impl_BlkOk.mono _ _
   | exact impl_BlkPut.mono _ _ _ _ _ _
   | exact laws_lpPieces.mono _ _ _
   | exact spec_BlkOk.mono _ _
   | exact spec_BlkPut.mono _ _ _ _ _ _
   | exact spec_DrawBlkPut.mono _ _
   | exact LeO.none _
   | refine LeO.ite ?_ ?_
   | refine LeO.bind ?_ (fun _ => ?_)
theorem laws_FnBlkPut.mono : ∀ a0 k, LeO (laws_FnBlkPut.f k a0) (laws_FnBlkPut.f (k + 1) a0) := by
 intro a0 k
 obtain ⟨ih0, ih1⟩ := laws_FnBlkPut.mono_l k
 unfold laws_FnBlkPut.f
 repeat' first
   | (with_reducible exact ih0 _ _ _ _ _ _ _ _ _)
   | (with_reducible exact ih1 _ _ _ _ _ _ _)
   | (with_reducible exact impl_BlkGet.mono _ _ _ _ _)
   | (with_reducible exact impl_BlkOk.mono _ _)
   | (with_reducible exact impl_BlkPut.mono _ _ _ _ _ _)
   | (with_reducible exact laws_lpPieces.mono _ _ _)
   | (with_reducible exact spec_BlkOk.mono _ _)
   | (with_reducible exact spec_BlkPut.mono _ _ _ _ _ _)
   | (with_reducible exact spec_DrawBlkPut.mono _ _)
   | (with_reducible exact LeO.refl _)
   | (with_reducible exact LeO.none _)
   | (with_reducible refine LeO.ite ?_ ?_)
   | (with_reducible refine LeO.bind ?_ (fun _ => ?_))
   | exact ih0 _ _ _ _ _ _ _ _ _
   | exact ih1 _ _ _ _ _ _ _
   | exact impl_BlkGet.mono _ _ _ _ _
   | exact impl_BlkOk.mono _ _
   | exact impl_BlkPut.mono _ _ _ _ _ _
   | exact laws_lpPieces.mono _ _ _
   | exact spec_BlkOk.mono _ _
   | exact spec_BlkPut.mono _ _ _ _ _ _
   | exact spec_DrawBlkPut.mono _ _
   | exact LeO.none _
   | refine LeO.ite ?_ ?_
   | refine LeO.bind ?_ (fun _ => ?_)
def laws_FnBlkPut.T15 : Bool × List (List Nat × List Nat) := (true, [([], []), ([0], [0]), ([], []), ([1, 2], [1, 2]), ([3], [3]), ([4], [4]), ([5, 4], [4, 5]), ([4], [4]), ([6, 7, 4], [4, 6, 7]), ([4, 8], [4, 8]), ([9, 4], [9]), ([10], [10]), ([10], [10]), ([12, 10], [10, 12]), ([10], [10]), ([14, 10], [10, 14]), ([10], [10]), ([16, 10], [10, 16]), ([11, 13, 15, 17, 10, 10], [10, 11, 13, 15, 17]), ([10], [10]), ([10], [10]), ([20, 10], [10, 20]), ([10], [10]), ([22, 10], [10, 22]), ([10], [10]), ([24, 10], [10, 24]), ([19, 21, 23, 25, 18, 10], [10, 19, 21, 23, 25]), ([18, 26, 10], [10, 18, 26]), ([10, 27], [10, 27])])
def laws_FnBlkPut.B15 : List Nat := [0, 1, 0, 7, 15, 31, 63, 31, 255, 511, 1023, 2047, 2047, 6143, 2047, 18431, 2047, 67583, 262143, 2047, 2047, 1050623, 2047, 4196351, 2047, 16779263, 67108863, 134217727, 268435455]
theorem laws_FnBlkPut.tab15 : rtab .any (opsOf Try.f12 15) = laws_FnBlkPut.T15 := by kernel_rfl
theorem laws_FnBlkPut.bits15 : waitsOk laws_FnBlkPut.T15.2 laws_FnBlkPut.B15 = true := by kernel_rfl
set_option maxHeartbeats 8000000 in
set_option maxRecDepth 100000 in
theorem laws_FnBlkPut.calls (k : Nat) (A0 : Option Addr) (c0 : Nat) (l0 : List Int) (r : Bool) (w : World) (hr0 : Kd.C (Kd.int .u8) w A0 l0.length l0) (hc0 : l0.length ≤ c0) (h : laws_FnBlkPut.f k l0 = some r) :
  Calls Try.prog 12 #[.slice A0 l0.length c0] w fun e w' => e = .returned (.bool r) ∧ Below w.heap.size w w' := by
 have hu55 := Try.underlying55
 have HR0 := Aside0.mk hr0
 have HC0 := Aside0.mk hc0
 clear hr0 hc0
 have HB := Aside0.mk (Below.refl w.heap.size w)
 have H : (if (l0.length : Int) > 1048576 then (some true) else ((spec_DrawBlkPut.f k l0).bind fun bt566 => ((spec_BlkPut.f k bt566.1 bt566.2.1 bt566.2.2.1 bt566.2.2.2.1 bt566.2.2.2.2).bind fun bt573 => ((spec_BlkOk.f k bt566.1).bind fun t577 => ((impl_BlkPut.f k bt566.1 bt566.2.1 bt566.2.2.1 bt566.2.2.2.1 bt566.2.2.2.2).bind fun bt578 => (if (bt578.2 != bt573.2) = true then (laws_FnBlkPut.j0 k bt566.1 bt566.2.1 bt566.2.2.1 bt566.2.2.2.1 bt566.2.2.2.2 t577 bt578.1 bt578.2 true) else ((laws_lpPieces.f k bt578.1 bt573.1).bind fun t582 => (laws_FnBlkPut.j0 k bt566.1 bt566.2.1 bt566.2.2.1 bt566.2.2.2.1 bt566.2.2.2.2 t577 bt578.1 bt578.2 (!t582))))))))) = some r := h
 clear h
 by_cases c2 : (l0.length : Int) > 1048576
 ·rw [if_pos c2] at H
  have c2b0 : decide (1048576 < (l0.length : Int)) = true := decide_eq_true c2
  have c2b1 : decide (1048576 < l0.length) = true := decide_eq_true (by omega)
  clear c2
  obtain rfl := Option.some.inj H
  go_enter Try.func12, Try.ntmps12
  go_wp2
  go_ret
  exact ⟨by first | rfl | (simp [errW_none, errW_some] <;> rfl) | (simp [*, errW_none, errW_some] <;> rfl), pB HB.out⟩
 ·rw [if_neg c2] at H
  have c2b0 : decide (1048576 < (l0.length : Int)) = false := decide_eq_false c2
  have c2b1 : decide (1048576 < l0.length) = false := decide_eq_false (by omega)
  clear c2
  replace H := Option.bind_eq_some_iff.mp H
  obtain ⟨⟨t566, t567, t568, t569, t570⟩, A30, H⟩ := H
  replace H : ((spec_BlkPut.f k t566 t567 t568 t569 t570).bind fun bt573 => ((spec_BlkOk.f k t566).bind fun t577 => ((impl_BlkPut.f k t566 t567 t568 t569 t570).bind fun bt578 => (if (bt578.2 != bt573.2) = true then (laws_FnBlkPut.j0 k t566 t567 t568 t569 t570 t577 bt578.1 bt578.2 true) else ((laws_lpPieces.f k bt578.1 bt573.1).bind fun t582 => (laws_FnBlkPut.j0 k t566 t567 t568 t569 t570 t577 bt578.1 bt578.2 (!t582))))))) = some r := H
  have A3 := Aside0.mk A30
  clear A30
  replace H := Option.bind_eq_some_iff.mp H
  obtain ⟨⟨t573, t574⟩, A40, H⟩ := H
  replace H : ((spec_BlkOk.f k t566).bind fun t577 => ((impl_BlkPut.f k t566 t567 t568 t569 t570).bind fun bt578 => (if (bt578.2 != t574) = true then (laws_FnBlkPut.j0 k t566 t567 t568 t569 t570 t577 bt578.1 bt578.2 true) else ((laws_lpPieces.f k bt578.1 t573).bind fun t582 => (laws_FnBlkPut.j0 k t566 t567 t568 t569 t570 t577 bt578.1 bt578.2 (!t582)))))) = some r := H
  have A4 := Aside0.mk A40
  clear A40
  replace H := Option.bind_eq_some_iff.mp H
  obtain ⟨t577, A50, H⟩ := H
  replace H : ((impl_BlkPut.f k t566 t567 t568 t569 t570).bind fun bt578 => (if (bt578.2 != t574) = true then (laws_FnBlkPut.j0 k t566 t567 t568 t569 t570 t577 bt578.1 bt578.2 true) else ((laws_lpPieces.f k bt578.1 t573).bind fun t582 => (laws_FnBlkPut.j0 k t566 t567 t568 t569 t570 t577 bt578.1 bt578.2 (!t582))))) = some r := H
  have A5 := Aside0.mk A50
  clear A50
  replace H := Option.bind_eq_some_iff.mp H
  obtain ⟨⟨t578, t579⟩, A60, H⟩ := H
  replace H : (if (t579 != t574) = true then (laws_FnBlkPut.j0 k t566 t567 t568 t569 t570 t577 t578 t579 true) else ((laws_lpPieces.f k t578 t573).bind fun t582 => (laws_FnBlkPut.j0 k t566 t567 t568 t569 t570 t577 t578 t579 (!t582)))) = some r := H
  have A6 := Aside0.mk A60
  clear A60
  have HC7 := Aside0.mk H
  clear H
  go_enter Try.func12, Try.ntmps12
  go_upto_region 7 with (first | ((with_reducible refine gate_callee (f := 37) rfl ?_); refine goesL_ (some 20) rfl rfl Try.func37 (by kernel_rfl) rfl #[.slice A0 l0.length c0] rfl bM ?_; (with_reducible refine (spec_DrawBlkPut.calls k _ _ l0 t566 t567 t568 t569 t570 _ ?side1 ?side2 A3.out).mono ?_); (case side1 => exact pC HR0.out); (case side2 => exact HC0.out); rintro e w8 ⟨v571, rfl, ho0, hb⟩; refine ⟨_, rfl, ?_⟩; have n0_ := Aside0.mk (Kd.R_lower ho0 (below_size (pB HB.out))); have n1_ := Aside0.mk (below_step (pB HB.out) hb); clear HB; have HO572 := n0_; have HB := n1_; clear n0_ n1_; (try clear hb); (try clear hb2); (try clear hk); (try clear hi); (try clear ho0); obtain ⟨Ao9, co9, eo9⟩ := Kd.R_slice HO572.out; subst eo9) | ((with_reducible refine gate_callee (f := 38) rfl ?_); refine goesL_ (some 32) rfl rfl Try.func38 (by kernel_rfl) rfl #[.slice Ao9 t566.length co9, .int .i64 t567, .int .i64 t568, .int .i64 t569, .int .i64 t570] rfl bM ?_; (with_reducible refine (spec_BlkPut.calls k _ _ t566 t567 t568 t569 t570 t573 t574 _ ?side1 ?side2 A4.out).mono ?_); (case side1 => exact pC (Kd.R_reads' HO572.out).2.2); (case side2 => exact (Kd.R_reads' HO572.out).2.1); rintro e w10 ⟨v575, rfl, ho0, hb⟩; refine ⟨_, rfl, ?_⟩; have n0_ := Aside0.mk (Kd.R_elder' (pR HO572.out) (Kd.R_base ho0) hb); have n1_ := Aside0.mk (Kd.R_lower (Kd.R_new' ho0 (Kd.R_lt (pR HO572.out))) (below_size (pB HB.out))); have n2_ := Aside0.mk (below_step (pB HB.out) hb); clear HO572; clear HB; have HO572 := n0_; have HO576 := n1_; have HB := n2_; clear n0_ n1_ n2_; (try clear hb); (try clear hb2); (try clear hk); (try clear hi); (try clear ho0)) | ((with_reducible refine gate_callee (f := 21) rfl ?_); refine goesL_ (some 36) rfl rfl Try.func21 (by kernel_rfl) rfl #[.slice Ao9 t566.length co9] rfl bM ?_; (with_reducible refine (spec_BlkOk.calls k _ _ t566 t577 _ ?side1 ?side2 A5.out).mono ?_); (case side1 => exact pC (Kd.R_reads' HO572.out).2.2); (case side2 => exact (Kd.R_reads' HO572.out).2.1); rintro e w11 ⟨rfl, hb⟩; refine ⟨_, rfl, ?_⟩; have n0_ := Aside0.mk (Kd.R_below (pR HO572.out) hb); have n1_ := Aside0.mk (Kd.R_below (pR HO576.out) hb); have n2_ := Aside0.mk (below_step (pB HB.out) hb); clear HO572; clear HO576; clear HB; have HO572 := n0_; have HO576 := n1_; have HB := n2_; clear n0_ n1_ n2_; (try clear hb); (try clear hb2); (try clear hk); (try clear hi)) | ((with_reducible refine gate_callee (f := 39) rfl ?_); refine goesL_ (some 43) rfl rfl Try.func39 (by kernel_rfl) rfl #[.slice Ao9 t566.length co9, .int .i64 t567, .int .i64 t568, .int .i64 t569, .int .i64 t570] rfl bM ?_; (with_reducible refine (impl_BlkPut.calls k _ _ t566 t567 t568 t569 t570 t578 t579 _ ?side1 ?side2 A6.out).mono ?_); (case side1 => exact pC (Kd.R_reads' HO572.out).2.2); (case side2 => exact (Kd.R_reads' HO572.out).2.1); rintro e w12 ⟨v580, rfl, ho0, hb⟩; refine ⟨_, rfl, ?_⟩; have n0_ := Aside0.mk (Kd.R_elder' (pR HO572.out) (Kd.R_base ho0) hb); have n1_ := Aside0.mk (Kd.R_elder' (pR HO576.out) (Kd.R_base ho0) hb); have n2_ := Aside0.mk (Kd.R_lower (Kd.R_new' (Kd.R_new' ho0 (Kd.R_lt (pR HO572.out))) (Kd.R_lt (pR HO576.out))) (below_size (pB HB.out))); have n3_ := Aside0.mk (below_step (pB HB.out) hb); clear HO572; clear HO576; clear HB; have HO572 := n0_; have HO576 := n1_; have HO581 := n2_; have HB := n3_; clear n0_ n1_ n2_ n3_; (try clear hb); (try clear hb2); (try clear hk); (try clear hi); (try clear ho0)))
  (try simp only [Act.put, List.setIfInBounds_toArray, List.set_cons_zero, List.set_cons_succ])
  go_cut [54] (fun v54 wc => ∃ (kq : Nat) (x54_6 : Bool), v54 = .bool x54_6 ∧ Aside0 (laws_FnBlkPut.j0 kq t566 t567 t568 t569 t570 t577 t578 t579 x54_6 = some r) ∧ Aside0 (kq ≤ k) ∧ Aside0 (Kd.R k55 55 wc w.heap.size (fun k_ => some k_ ≠ (v580 : Value).ownBlock) (.slice Ao9 t566.length co9) t566) ∧ Aside0 (Kd.R k55 55 wc w.heap.size (fun k_ => some k_ ≠ ((.slice Ao9 t566.length co9) : Value).ownBlock) v580 t578) ∧ Aside0 (Below w.heap.size w wc))
  case first =>
   have H := HC7.out
   clear HC7
   by_cases c13 : (t579 != t574) = true
   ·rw [if_pos c13] at H
    have c13b0 : (t579 != t574) = true := c13
    (try (have c13b1 : decide (t579 = t574) = false := by simpa using c13))
    (try (have c13b2 : (t579 == t574) = false := by simpa using c13))
    (try (have c13b3 : ¬ (t579 = t574) := by simpa using c13))
    clear c13
    (first | rw [c13b0] | (simp only [i64_w, i32_w]; rw [c13b0]) | skip)
    have H' := Aside0.mk H
    clear H
    go_wp2
    go_meet
    case rel => exact ⟨_, (true), (by first | rfl | (simp; done) | (simp [*]; done)), H', ⟨by first | omega | exact Nat.le_refl _⟩, ⟨pR (Kd.R_mono HO572.out (fun _ hk => hk.2))⟩, ⟨pR (Kd.R_mono HO581.out (fun _ hk => hk.1.2))⟩, ⟨pB HB.out⟩⟩
   ·rw [if_neg c13] at H
    have c13b0 : (t579 != t574) = false := by simpa using c13
    (try (have c13b1 : decide (t579 = t574) = true := by simpa using c13))
    (try (have c13b2 : (t579 == t574) = true := by simpa using c13))
    clear c13
    (first | rw [c13b0] | (simp only [i64_w, i32_w]; rw [c13b0]) | skip)
    replace H := Option.bind_eq_some_iff.mp H
    obtain ⟨t582, A140, H⟩ := H
    replace H : (laws_FnBlkPut.j0 k t566 t567 t568 t569 t570 t577 t578 t579 (!t582)) = some r := H
    have A14 := Aside0.mk A140
    clear A140
    have H' := Aside0.mk H
    clear H
    obtain ⟨Ao15, co15, eo15⟩ := Kd.R_slice HO581.out
    subst eo15
    obtain ⟨Ao16, co16, eo16⟩ := Kd.R_slice HO576.out
    subst eo16
    go_wp2_with (first | (go_at_call 40; (with_reducible refine (laws_lpPieces.calls k _ _ t578 _ _ t573 t582 _ ?side1 ?side2 ?side3 ?side4 A14.out).mono ?_); (case side1 => exact pC (Kd.R_reads' HO581.out).2.2); (case side2 => exact (Kd.R_reads' HO581.out).2.1); (case side3 => exact pC (Kd.R_reads' HO576.out).2.2); (case side4 => exact (Kd.R_reads' HO576.out).2.1); rintro e w' ⟨rfl, ⟨nd, rfl⟩⟩))
    go_meet
    case rel => exact ⟨_, (!t582), (by first | rfl | (simp; done) | (simp [*]; done)), H', ⟨by first | omega | exact Nat.le_refl _⟩, ⟨pR (Kd.R_mono HO572.out (fun _ hk => hk.2))⟩, ⟨pR (Kd.R_mono HO581.out (fun _ hk => hk.1.2))⟩, ⟨pB HB.out⟩⟩
  case rest =>
   clear HC7
   try clear c1
   try clear c2
   try clear c2b0
   try clear c2b1
   try clear p2
   try clear c3
   try clear c12
   try clear c13
   try clear c13b0
   try clear c13b1
   try clear c13b2
   obtain ⟨kq, x54_6, rfl, HA, HJ6, HO_3, HO_11, HB⟩ := hcut
   cases kq with
   | zero => exact absurd HA.out (by simp [laws_FnBlkPut.j0])
   | succ kj6 =>
    have H := HA.out
    clear HA
    simp only [laws_FnBlkPut.j0] at H
    by_cases c17 : x54_6 = true
    ·subst c17
     have H1 : (some false) = some r := by rw [if_pos rfl] at H; exact H
     clear H
     have H := H1
     clear H1
     obtain rfl := Option.some.inj H
     go_wp2
     go_ret
     exact ⟨by first | rfl | (simp [errW_none, errW_some] <;> rfl) | (simp [*, errW_none, errW_some] <;> rfl), pB HB.out⟩
    ·replace c17 := Bool.eq_false_iff.mpr c17
     subst c17
     have H1 : (if t579 = true then (laws_FnBlkPut.l0 kj6 t566 t567 t568 t569 t570 t578 0) else (if t577 = true then ((laws_lpPieces.f kj6 t578 t566).bind fun t583 => (some t583)) else (if (t578.length : Int) = 0 then (some true) else (some false)))) = some r := by rw [if_neg (show ¬ (false = true) by decide)] at H; exact H
     clear H
     have H := H1
     clear H1
     by_cases c18 : t579 = true
     ·subst c18
      have H1 : (laws_FnBlkPut.l0 kj6 t566 t567 t568 t569 t570 t578 0) = some r := by rw [if_pos rfl] at H; exact H
      clear H
      have H := H1
      clear H1
      have H' := Aside0.mk H
      clear H
      go_wp2
      go_loopg [13] kj6 (fun kq v13 w' => ∃ (x13_2 : Int), v13 = .int .i64 x13_2 ∧ Aside0 (laws_FnBlkPut.l0 kq t566 t567 t568 t569 t570 t578 x13_2 = some r) ∧ Aside0 (kq ≤ kj6) ∧ Aside0 (Kd.R k55 55 w' w.heap.size (fun k_ => some k_ ≠ (v580 : Value).ownBlock) (.slice Ao9 t566.length co9) t566) ∧ Aside0 (Kd.R k55 55 w' w.heap.size (fun k_ => some k_ ≠ ((.slice Ao9 t566.length co9) : Value).ownBlock) v580 t578) ∧ Aside0 (Below w.heap.size w w'))
      case atStart => exact ⟨(0), (by first | rfl | (simp; done) | (simp [*]; done)), H', ⟨Nat.le_refl _⟩, ⟨pR HO_3.out⟩, ⟨pR HO_11.out⟩, ⟨pB HB.out⟩⟩
      case round =>
       clear H'
       try clear c1
       try clear c2
       try clear c2b0
       try clear c2b1
       try clear p2
       try clear c3
       try clear c12
       try clear c13
       try clear c13b0
       try clear c13b1
       try clear c13b2
       try clear c17
       try clear c18
       try clear p2
       obtain ⟨x13_2, rfl, HA, HK2, HO_3, HO_11, HB⟩ := hrel
       cases gk with
       | zero => exact absurd HA.out (by simp [laws_FnBlkPut.l0])
       | succ k2 =>
        have H := HA.out
        clear HA
        simp only [laws_FnBlkPut.l0] at H
        by_cases c19 : x13_2 < (t566.length : Int)
        ·rw [if_pos c19] at H
         have c19b0 : decide (x13_2 < (t566.length : Int)) = true := decide_eq_true c19
         clear c19
         by_cases c20 : 0 ≤ x13_2
         ·rw [if_pos c20] at H
          have c20b0 : decide (0 ≤ x13_2) = true := decide_eq_true c20
          clear c20
          by_cases c21 : ((rd_T55 t566 x13_2).f0) = t567
          ·rw [if_pos c21] at H
           have c21b0 : (((rd_T55 t566 x13_2).f0) == t567) = true := beq_iff_eq.mpr c21
           have c21b1 : (((rd_T55 t566 x13_2).f0) != t567) = false := bne_eq_false_iff_eq.mpr c21
           clear c21
           by_cases c22 : ((rd_T55 t566 x13_2).f1) = t568
           ·rw [if_pos c22] at H
            have c22b0 : (((rd_T55 t566 x13_2).f1) == t568) = true := beq_iff_eq.mpr c22
            have c22b1 : (((rd_T55 t566 x13_2).f1) != t568) = false := bne_eq_false_iff_eq.mpr c22
            clear c22
            have H' := Aside0.mk H
            clear H
            have p586 : 0 ≤ (x13_2 : Int) := of_decide_eq_true bA
            have q586 : x13_2 < (t566.length : Int) := of_decide_eq_true bA
            obtain ⟨ad586, e586, hx586_0, hx586_1, hx586_2, hx586_3⟩ := at_T55 (Kd.R_reads' HO_3.out).2.2 x13_2 p586 q586
            cases e586
            replace p586 := eq_true p586
            replace q586 := eq_true q586
            try go_wp2_with (first | ((with_reducible refine gate_dst (N := 14) rfl ?_); (try (refine gate_guard (by rfl) ?_; dsimp only)); refine box_event ?hg (N := 14) ?hd (cs := #[.int .i64 0, .int .i64 0, .int .i64 0, .int .i64 0]) (t := 55) ?hr ?_; (case hd => rfl); (case hg => rfl); (case hr => first | (go_simp; done) | (go_simp; rfl)); intro gb587 hg w23 hbox hb; have n0_ := Aside0.mk (Kd.R_below (Kd.R_elderB (pR HO_3.out) gb587 (Nat.le_of_eq hg.symm)) hb); have n1_ := Aside0.mk (Kd.R_below (Kd.R_elderB (pR HO_11.out) gb587 (Nat.le_of_eq hg.symm)) hb); have n2_ := Aside0.mk (below_step (pB HB.out) hb); have n3_ := Aside0.mk (hbox); have n4_ := Aside0.mk ((by rw [hg]; exact (below_size (pB HB.out)) : w.heap.size ≤ gb587)); have n5_ := Aside0.mk ((by rw [hg]; exact (below_size (pB HB.out)) : w.heap.size ≤ gb587)); clear HO_3; clear HO_11; clear HB; have HO_3 := n0_; have HO_11 := n1_; have HB := n2_; have BK587 := n3_; have GW587 := n4_; have GE587 := n5_; clear n0_ n1_ n2_ n3_ n4_ n5_; clear hb hbox hg; have hcz24_0 : w23.cell? ⟨gb587, 0, none⟩ = some (.int .i64 0) := (blk_cell BK587.out 0).trans rfl; have hcz24_1 : w23.cell? ⟨gb587, 1, none⟩ = some (.int .i64 0) := (blk_cell BK587.out 1).trans rfl; have hcz24_2 : w23.cell? ⟨gb587, 2, none⟩ = some (.int .i64 0) := (blk_cell BK587.out 2).trans rfl; have hcz24_3 : w23.cell? ⟨gb587, 3, none⟩ = some (.int .i64 0) := (blk_cell BK587.out 3).trans rfl; have hfz24_0 := blk_frozen BK587.out 0; have hfz24_1 := blk_frozen BK587.out 1; have hfz24_2 := blk_frozen BK587.out 2; have hfz24_3 := blk_frozen BK587.out 3))
            have n0_ : Aside0 (Kd.R k55 55 ((((w23.setCell ⟨gb587, 0, none⟩ (.int .i64 ((rd_T55 t566 x13_2).f0))).setCell ⟨gb587, 1, none⟩ (.int .i64 ((rd_T55 t566 x13_2).f1))).setCell ⟨gb587, 2, none⟩ (.int .i64 ((rd_T55 t566 x13_2).f2))).setCell ⟨gb587, 3, none⟩ (.int .i64 ((rd_T55 t566 x13_2).f3))) w.heap.size (fun k_ => some k_ ≠ (v580 : Value).ownBlock ∧ k_ ≠ gb587) (.slice (some ad586) t566.length co9) t566) := ⟨pR (Kd.R_mono (Kd.R_far (p := ⟨gb587, 3, none⟩) (Kd.R_far (p := ⟨gb587, 2, none⟩) (Kd.R_far (p := ⟨gb587, 1, none⟩) (Kd.R_far (p := ⟨gb587, 0, none⟩) (Kd.R_mono HO_3.out (fun k_ hk => (⟨hk, hk.2⟩ : _ ∧ k_ ≠ gb587))) (fun _ hk => hk.2) (.int .i64 ((rd_T55 t566 x13_2).f0))) (fun _ hk => hk.2) (.int .i64 ((rd_T55 t566 x13_2).f1))) (fun _ hk => hk.2) (.int .i64 ((rd_T55 t566 x13_2).f2))) (fun _ hk => hk.2) (.int .i64 ((rd_T55 t566 x13_2).f3))) (fun _ hk => ⟨hk.1.1, hk.1.2⟩))⟩
            have n1_ : Aside0 (Kd.R k55 55 ((((w23.setCell ⟨gb587, 0, none⟩ (.int .i64 ((rd_T55 t566 x13_2).f0))).setCell ⟨gb587, 1, none⟩ (.int .i64 ((rd_T55 t566 x13_2).f1))).setCell ⟨gb587, 2, none⟩ (.int .i64 ((rd_T55 t566 x13_2).f2))).setCell ⟨gb587, 3, none⟩ (.int .i64 ((rd_T55 t566 x13_2).f3))) w.heap.size (fun k_ => some k_ ≠ (.slice (some ad586) t566.length co9 : Value).ownBlock ∧ k_ ≠ gb587) v580 t578) := ⟨pR (Kd.R_mono (Kd.R_far (p := ⟨gb587, 3, none⟩) (Kd.R_far (p := ⟨gb587, 2, none⟩) (Kd.R_far (p := ⟨gb587, 1, none⟩) (Kd.R_far (p := ⟨gb587, 0, none⟩) (Kd.R_mono HO_11.out (fun k_ hk => (⟨hk, hk.2⟩ : _ ∧ k_ ≠ gb587))) (fun _ hk => hk.2) (.int .i64 ((rd_T55 t566 x13_2).f0))) (fun _ hk => hk.2) (.int .i64 ((rd_T55 t566 x13_2).f1))) (fun _ hk => hk.2) (.int .i64 ((rd_T55 t566 x13_2).f2))) (fun _ hk => hk.2) (.int .i64 ((rd_T55 t566 x13_2).f3))) (fun _ hk => ⟨hk.1.1, hk.1.2⟩))⟩
            have n2_ : Aside0 (((((w23.setCell ⟨gb587, 0, none⟩ (.int .i64 ((rd_T55 t566 x13_2).f0))).setCell ⟨gb587, 1, none⟩ (.int .i64 ((rd_T55 t566 x13_2).f1))).setCell ⟨gb587, 2, none⟩ (.int .i64 ((rd_T55 t566 x13_2).f2))).setCell ⟨gb587, 3, none⟩ (.int .i64 ((rd_T55 t566 x13_2).f3))).heap[gb587]? = some (.cells #[.int .i64 ((rd_T55 t566 x13_2).f0), .int .i64 ((rd_T55 t566 x13_2).f1), .int .i64 ((rd_T55 t566 x13_2).f2), .int .i64 ((rd_T55 t566 x13_2).f3)] 55 (0, 0))) := ⟨by (with_reducible repeat (first | refine blk_drewN ?_ _ | refine blk_drew ?_ | refine blk_alloc ?_ _)); refine blk_put (cs := #[.int .i64 ((rd_T55 t566 x13_2).f0), .int .i64 ((rd_T55 t566 x13_2).f1), .int .i64 ((rd_T55 t566 x13_2).f2), .int .i64 0]) ?_ 3 _ rfl; (with_reducible repeat (first | refine blk_drewN ?_ _ | refine blk_drew ?_ | refine blk_alloc ?_ _)); refine blk_put (cs := #[.int .i64 ((rd_T55 t566 x13_2).f0), .int .i64 ((rd_T55 t566 x13_2).f1), .int .i64 0, .int .i64 0]) ?_ 2 _ rfl; (with_reducible repeat (first | refine blk_drewN ?_ _ | refine blk_drew ?_ | refine blk_alloc ?_ _)); refine blk_put (cs := #[.int .i64 ((rd_T55 t566 x13_2).f0), .int .i64 0, .int .i64 0, .int .i64 0]) ?_ 1 _ rfl; (with_reducible repeat (first | refine blk_drewN ?_ _ | refine blk_drew ?_ | refine blk_alloc ?_ _)); refine blk_put (cs := #[.int .i64 0, .int .i64 0, .int .i64 0, .int .i64 0]) ?_ 0 _ rfl; (with_reducible repeat (first | refine blk_drewN ?_ _ | refine blk_drew ?_ | refine blk_alloc ?_ _)); exact BK587.out⟩
            have n3_ : Aside0 (Below w.heap.size w ((((w23.setCell ⟨gb587, 0, none⟩ (.int .i64 ((rd_T55 t566 x13_2).f0))).setCell ⟨gb587, 1, none⟩ (.int .i64 ((rd_T55 t566 x13_2).f1))).setCell ⟨gb587, 2, none⟩ (.int .i64 ((rd_T55 t566 x13_2).f2))).setCell ⟨gb587, 3, none⟩ (.int .i64 ((rd_T55 t566 x13_2).f3)))) := ⟨by repeat (first | (with_reducible first | exact HB.out | apply below_alloc | apply pw_below_drewN | apply below_drew1 | refine below_set ?_ GE587.out) | exact HB.out)⟩
            (try clear HO_3)
            (try clear HO_11)
            (try clear BK587)
            (try clear HB)
            generalize ((((w23.setCell ⟨gb587, 0, none⟩ (.int .i64 ((rd_T55 t566 x13_2).f0))).setCell ⟨gb587, 1, none⟩ (.int .i64 ((rd_T55 t566 x13_2).f1))).setCell ⟨gb587, 2, none⟩ (.int .i64 ((rd_T55 t566 x13_2).f2))).setCell ⟨gb587, 3, none⟩ (.int .i64 ((rd_T55 t566 x13_2).f3))) = w25 at n0_ n1_ n2_ n3_ ⊢
            have HO_3 := n0_
            have HO_11 := n1_
            have BK587 := n2_
            have HB := n3_
            clear n0_ n1_ n2_ n3_
            have n0_ := Aside0.mk (Kd.R_drew HO_3.out)
            have n1_ := Aside0.mk (Kd.R_drew HO_11.out)
            have n2_ := Aside0.mk (blk_drew BK587.out)
            have n3_ := Aside0.mk (below_drew1 HB.out)
            clear HO_3
            clear HO_11
            clear BK587
            clear HB
            have HO_3 := n0_
            have HO_11 := n1_
            have BK587 := n2_
            have HB := n3_
            clear n0_ n1_ n2_ n3_
            refine start_ (n := 29) (S := fun w' => w'.cell? ⟨gb587, 0, none⟩ = some (.int .i64 ((rd_T55 t566 x13_2).f0)) ∧ w'.cell? ⟨gb587, 1, none⟩ = some (.int .i64 ((rd_T55 t566 x13_2).f1)) ∧ w'.cell? ⟨gb587, 2, none⟩ = some (.int .i64 ((rd_T55 t566 x13_2).f2)) ∧ w'.cell? ⟨gb587, 3, none⟩ = some (.int .i64 ((rd_T55 t566 x13_2).f3))) (ds := []) #[false, false, false, false, false, false, false, false, false, false, false, false, false, false, false, false, false, false, false, false, false, false, false, false, false, false, false, false, false] (by kernel_rfl) rfl rfl ⟨(blk_cell BK587.out 0).trans rfl, (blk_cell BK587.out 1).trans rfl, (blk_cell BK587.out 2).trans rfl, (blk_cell BK587.out 3).trans rfl⟩ (fun hHeld => ?_); refine with_tabW laws_FnBlkPut.tab15 laws_FnBlkPut.bits15 (fun HT_ HW_ => ?_)
            generalize w25.drew = w26 at HO_3 HO_11 BK587 HB hHeld ⊢
            refine pure_ (i := 0) (N := some 82) (v := ?_) (a' := ?_) #[true, false, false, false, false, false, false, false, false, false, false, false, false, false, false, false, false, false, false, false, false, false, false, false, false, false, false, false, false] rfl rfl (any_of HT_.out (by kernel_rfl)) (fun _ _ _ h => h) (Or.inl ⟨by rfl, ?_⟩) ?_ ?_
            rotate_left
            ·intro w'
             go_simp
             with_reducible rfl
            rotate_left
            ·simp only [Act.put, List.setIfInBounds_toArray, List.set_cons_zero, List.set_cons_succ, i64_w, i32_w]
             rfl
            refine pure_ (i := 2) (N := some 84) (v := ?_) (a' := ?_) #[true, false, true, false, false, false, false, false, false, false, false, false, false, false, false, false, false, false, false, false, false, false, false, false, false, false, false, false, false] rfl rfl (any_of HT_.out (by kernel_rfl)) (fun _ _ _ h => h) (Or.inl ⟨by rfl, ?_⟩) ?_ ?_
            rotate_left
            ·intro w'
             go_simp
             with_reducible rfl
            rotate_left
            ·simp only [Act.put, List.setIfInBounds_toArray, List.set_cons_zero, List.set_cons_succ, i64_w, i32_w]
             rfl
            refine take_ (i := 1) (N := some 83) (v := ?_) (a' := ?_) #[true, true, true, false, false, false, false, false, false, false, false, false, false, false, false, false, false, false, false, false, false, false, false, false, false, false, false, false, false] rfl rfl (take_ofW HT_.out HW_.out (by kernel_rfl)) (fun _ _ _ h => h) (Or.inl ⟨by rfl, ?_⟩) hHeld ?_ ?_
            rotate_left
            ·rintro w' ⟨s0, s1, s2, s3⟩
             go_simp
             with_reducible rfl
            rotate_left
            ·simp only [Act.put, List.setIfInBounds_toArray, List.set_cons_zero, List.set_cons_succ, i64_w, i32_w]
             rfl
            refine pure_ (i := 3) (N := some 85) (v := ?_) (a' := ?_) #[true, true, true, true, false, false, false, false, false, false, false, false, false, false, false, false, false, false, false, false, false, false, false, false, false, false, false, false, false] rfl rfl (any_of HT_.out (by kernel_rfl)) (fun _ _ _ h => h) (Or.inl ⟨by rfl, ?_⟩) ?_ ?_
            rotate_left
            ·intro w'
             go_simp
             with_reducible rfl
            rotate_left
            ·simp only [Act.put, List.setIfInBounds_toArray, List.set_cons_zero, List.set_cons_succ, i64_w, i32_w]
             rfl
            refine pure_ (i := 4) (N := some 86) (v := ?_) (a' := ?_) #[true, true, true, true, true, false, false, false, false, false, false, false, false, false, false, false, false, false, false, false, false, false, false, false, false, false, false, false, false] rfl rfl (any_of HT_.out (by kernel_rfl)) (fun _ _ _ h => h) (Or.inl ⟨by rfl, ?_⟩) ?_ ?_
            rotate_left
            ·intro w'
             go_simp
             with_reducible rfl
            rotate_left
            ·simp only [Act.put, List.setIfInBounds_toArray, List.set_cons_zero, List.set_cons_succ, i64_w, i32_w]
             rfl
            refine pure_ (i := 5) (N := some 87) (v := ?_) (a' := ?_) #[true, true, true, true, true, true, false, false, false, false, false, false, false, false, false, false, false, false, false, false, false, false, false, false, false, false, false, false, false] rfl rfl (any_of HT_.out (by kernel_rfl)) (fun _ _ _ h => h) (Or.inl ⟨by rfl, ?_⟩) ?_ ?_
            rotate_left
            ·intro w'
             go_simp
             with_reducible rfl
            rotate_left
            ·simp only [Act.put, List.setIfInBounds_toArray, List.set_cons_zero, List.set_cons_succ, i64_w, i32_w]
             rfl
            refine pure_ (i := 7) (N := some 89) (v := ?_) (a' := ?_) #[true, true, true, true, true, true, false, true, false, false, false, false, false, false, false, false, false, false, false, false, false, false, false, false, false, false, false, false, false] rfl rfl (any_of HT_.out (by kernel_rfl)) (fun _ _ _ h => h) (Or.inl ⟨by rfl, ?_⟩) ?_ ?_
            rotate_left
            ·intro w'
             go_simp
             with_reducible rfl
            rotate_left
            ·simp only [Act.put, List.setIfInBounds_toArray, List.set_cons_zero, List.set_cons_succ, i64_w, i32_w]
             rfl
            refine take_ (i := 6) (N := some 88) (v := ?_) (a' := ?_) #[true, true, true, true, true, true, true, true, false, false, false, false, false, false, false, false, false, false, false, false, false, false, false, false, false, false, false, false, false] rfl rfl (take_ofW HT_.out HW_.out (by kernel_rfl)) (fun _ _ _ h => h) (Or.inl ⟨by rfl, ?_⟩) hHeld ?_ ?_
            rotate_left
            ·rintro w' ⟨s0, s1, s2, s3⟩
             go_simp
             with_reducible rfl
            rotate_left
            ·simp only [Act.put, List.setIfInBounds_toArray, List.set_cons_zero, List.set_cons_succ, i64_w, i32_w]
             rfl
            refine pure_ (i := 8) (N := some 90) (v := ?_) (a' := ?_) #[true, true, true, true, true, true, true, true, true, false, false, false, false, false, false, false, false, false, false, false, false, false, false, false, false, false, false, false, false] rfl rfl (any_of HT_.out (by kernel_rfl)) (fun _ _ _ h => h) (Or.inl ⟨by rfl, ?_⟩) ?_ ?_
            rotate_left
            ·intro w'
             go_simp
             with_reducible rfl
            rotate_left
            ·simp only [Act.put, List.setIfInBounds_toArray, List.set_cons_zero, List.set_cons_succ, i64_w, i32_w]
             rfl
            refine pure_ (i := 9) (N := some 91) (v := ?_) (a' := ?_) #[true, true, true, true, true, true, true, true, true, true, false, false, false, false, false, false, false, false, false, false, false, false, false, false, false, false, false, false, false] rfl rfl (any_of HT_.out (by kernel_rfl)) (fun _ _ _ h => h) (Or.inl ⟨by rfl, ?_⟩) ?_ ?_
            rotate_left
            ·intro w'
             go_simp
             with_reducible rfl
            rotate_left
            ·simp only [Act.put, List.setIfInBounds_toArray, List.set_cons_zero, List.set_cons_succ, i64_w, i32_w]
             rfl
            refine pure_ (i := 10) (N := some 92) (v := ?_) (a' := ?_) #[true, true, true, true, true, true, true, true, true, true, true, false, false, false, false, false, false, false, false, false, false, false, false, false, false, false, false, false, false] rfl rfl (any_of HT_.out (by kernel_rfl)) (fun _ _ _ h => h) (Or.inl ⟨by rfl, ?_⟩) ?_ ?_
            rotate_left
            ·intro w'
             go_simp
             with_reducible rfl
            rotate_left
            ·simp only [Act.put, List.setIfInBounds_toArray, List.set_cons_zero, List.set_cons_succ, i64_w, i32_w]
             rfl
            refine pure_ (i := 11) (N := some 93) (v := undef) (a' := ?_) #[true, true, true, true, true, true, true, true, true, true, true, true, false, false, false, false, false, false, false, false, false, false, false, false, false, false, false, false, false] rfl rfl (any_of HT_.out (by kernel_rfl)) (fun _ _ _ h => h) (Or.inr ⟨by rfl, rfl⟩) ?_ ?_
            rotate_left
            ·simp only [Act.put, List.setIfInBounds_toArray, List.set_cons_zero, List.set_cons_succ, i64_w, i32_w]
             rfl
            refine pure_ (i := 12) (N := some 94) (v := undef) (a' := ?_) #[true, true, true, true, true, true, true, true, true, true, true, true, true, false, false, false, false, false, false, false, false, false, false, false, false, false, false, false, false] rfl rfl (any_of HT_.out (by kernel_rfl)) (fun _ _ _ h => h) (Or.inr ⟨by rfl, rfl⟩) ?_ ?_
            rotate_left
            ·simp only [Act.put, List.setIfInBounds_toArray, List.set_cons_zero, List.set_cons_succ, i64_w, i32_w]
             rfl
            refine pure_ (i := 13) (N := some 95) (v := undef) (a' := ?_) #[true, true, true, true, true, true, true, true, true, true, true, true, true, true, false, false, false, false, false, false, false, false, false, false, false, false, false, false, false] rfl rfl (any_of HT_.out (by kernel_rfl)) (fun _ _ _ h => h) (Or.inr ⟨by rfl, rfl⟩) ?_ ?_
            rotate_left
            ·simp only [Act.put, List.setIfInBounds_toArray, List.set_cons_zero, List.set_cons_succ, i64_w, i32_w]
             rfl
            refine pure_ (i := 14) (N := some 96) (v := undef) (a' := ?_) #[true, true, true, true, true, true, true, true, true, true, true, true, true, true, true, false, false, false, false, false, false, false, false, false, false, false, false, false, false] rfl rfl (any_of HT_.out (by kernel_rfl)) (fun _ _ _ h => h) (Or.inr ⟨by rfl, rfl⟩) ?_ ?_
            rotate_left
            ·simp only [Act.put, List.setIfInBounds_toArray, List.set_cons_zero, List.set_cons_succ, i64_w, i32_w]
             rfl
            refine pure_ (i := 15) (N := some 97) (v := undef) (a' := ?_) #[true, true, true, true, true, true, true, true, true, true, true, true, true, true, true, true, false, false, false, false, false, false, false, false, false, false, false, false, false] rfl rfl (any_of HT_.out (by kernel_rfl)) (fun _ _ _ h => h) (Or.inr ⟨by rfl, rfl⟩) ?_ ?_
            rotate_left
            ·simp only [Act.put, List.setIfInBounds_toArray, List.set_cons_zero, List.set_cons_succ, i64_w, i32_w]
             rfl
            refine pure_ (i := 16) (N := some 98) (v := undef) (a' := ?_) #[true, true, true, true, true, true, true, true, true, true, true, true, true, true, true, true, true, false, false, false, false, false, false, false, false, false, false, false, false] rfl rfl (any_of HT_.out (by kernel_rfl)) (fun _ _ _ h => h) (Or.inr ⟨by rfl, rfl⟩) ?_ ?_
            rotate_left
            ·simp only [Act.put, List.setIfInBounds_toArray, List.set_cons_zero, List.set_cons_succ, i64_w, i32_w]
             rfl
            refine pure_ (i := 17) (N := some 99) (v := undef) (a' := ?_) #[true, true, true, true, true, true, true, true, true, true, true, true, true, true, true, true, true, true, false, false, false, false, false, false, false, false, false, false, false] rfl rfl (any_of HT_.out (by kernel_rfl)) (fun _ _ _ h => h) (Or.inr ⟨by rfl, rfl⟩) ?_ ?_
            rotate_left
            ·simp only [Act.put, List.setIfInBounds_toArray, List.set_cons_zero, List.set_cons_succ, i64_w, i32_w]
             rfl
            refine pure_ (i := 18) (N := some 100) (v := undef) (a' := ?_) #[true, true, true, true, true, true, true, true, true, true, true, true, true, true, true, true, true, true, true, false, false, false, false, false, false, false, false, false, false] rfl rfl (any_of HT_.out (by kernel_rfl)) (fun _ _ _ h => h) (Or.inr ⟨by rfl, rfl⟩) ?_ ?_
            rotate_left
            ·simp only [Act.put, List.setIfInBounds_toArray, List.set_cons_zero, List.set_cons_succ, i64_w, i32_w]
             rfl
            refine pure_ (i := 19) (N := some 101) (v := undef) (a' := ?_) #[true, true, true, true, true, true, true, true, true, true, true, true, true, true, true, true, true, true, true, true, false, false, false, false, false, false, false, false, false] rfl rfl (any_of HT_.out (by kernel_rfl)) (fun _ _ _ h => h) (Or.inr ⟨by rfl, rfl⟩) ?_ ?_
            rotate_left
            ·simp only [Act.put, List.setIfInBounds_toArray, List.set_cons_zero, List.set_cons_succ, i64_w, i32_w]
             rfl
            refine pure_ (i := 20) (N := some 102) (v := undef) (a' := ?_) #[true, true, true, true, true, true, true, true, true, true, true, true, true, true, true, true, true, true, true, true, true, false, false, false, false, false, false, false, false] rfl rfl (any_of HT_.out (by kernel_rfl)) (fun _ _ _ h => h) (Or.inr ⟨by rfl, rfl⟩) ?_ ?_
            rotate_left
            ·simp only [Act.put, List.setIfInBounds_toArray, List.set_cons_zero, List.set_cons_succ, i64_w, i32_w]
             rfl
            refine pure_ (i := 21) (N := some 103) (v := undef) (a' := ?_) #[true, true, true, true, true, true, true, true, true, true, true, true, true, true, true, true, true, true, true, true, true, true, false, false, false, false, false, false, false] rfl rfl (any_of HT_.out (by kernel_rfl)) (fun _ _ _ h => h) (Or.inr ⟨by rfl, rfl⟩) ?_ ?_
            rotate_left
            ·simp only [Act.put, List.setIfInBounds_toArray, List.set_cons_zero, List.set_cons_succ, i64_w, i32_w]
             rfl
            refine pure_ (i := 22) (N := some 104) (v := undef) (a' := ?_) #[true, true, true, true, true, true, true, true, true, true, true, true, true, true, true, true, true, true, true, true, true, true, true, false, false, false, false, false, false] rfl rfl (any_of HT_.out (by kernel_rfl)) (fun _ _ _ h => h) (Or.inr ⟨by rfl, rfl⟩) ?_ ?_
            rotate_left
            ·simp only [Act.put, List.setIfInBounds_toArray, List.set_cons_zero, List.set_cons_succ, i64_w, i32_w]
             rfl
            refine pure_ (i := 23) (N := some 105) (v := undef) (a' := ?_) #[true, true, true, true, true, true, true, true, true, true, true, true, true, true, true, true, true, true, true, true, true, true, true, true, false, false, false, false, false] rfl rfl (any_of HT_.out (by kernel_rfl)) (fun _ _ _ h => h) (Or.inr ⟨by rfl, rfl⟩) ?_ ?_
            rotate_left
            ·simp only [Act.put, List.setIfInBounds_toArray, List.set_cons_zero, List.set_cons_succ, i64_w, i32_w]
             rfl
            refine pure_ (i := 24) (N := some 106) (v := undef) (a' := ?_) #[true, true, true, true, true, true, true, true, true, true, true, true, true, true, true, true, true, true, true, true, true, true, true, true, true, false, false, false, false] rfl rfl (any_of HT_.out (by kernel_rfl)) (fun _ _ _ h => h) (Or.inr ⟨by rfl, rfl⟩) ?_ ?_
            rotate_left
            ·simp only [Act.put, List.setIfInBounds_toArray, List.set_cons_zero, List.set_cons_succ, i64_w, i32_w]
             rfl
            refine pure_ (i := 25) (N := some 107) (v := undef) (a' := ?_) #[true, true, true, true, true, true, true, true, true, true, true, true, true, true, true, true, true, true, true, true, true, true, true, true, true, true, false, false, false] rfl rfl (any_of HT_.out (by kernel_rfl)) (fun _ _ _ h => h) (Or.inr ⟨by rfl, rfl⟩) ?_ ?_
            rotate_left
            ·simp only [Act.put, List.setIfInBounds_toArray, List.set_cons_zero, List.set_cons_succ, i64_w, i32_w]
             rfl
            refine pure_ (i := 26) (N := some 108) (v := undef) (a' := ?_) #[true, true, true, true, true, true, true, true, true, true, true, true, true, true, true, true, true, true, true, true, true, true, true, true, true, true, true, false, false] rfl rfl (any_of HT_.out (by kernel_rfl)) (fun _ _ _ h => h) (Or.inr ⟨by rfl, rfl⟩) ?_ ?_
            rotate_left
            ·simp only [Act.put, List.setIfInBounds_toArray, List.set_cons_zero, List.set_cons_succ, i64_w, i32_w]
             rfl
            refine pure_ (i := 27) (N := some 109) (v := undef) (a' := ?_) #[true, true, true, true, true, true, true, true, true, true, true, true, true, true, true, true, true, true, true, true, true, true, true, true, true, true, true, true, false] rfl rfl (any_of HT_.out (by kernel_rfl)) (fun _ _ _ h => h) (Or.inr ⟨by rfl, rfl⟩) ?_ ?_
            rotate_left
            ·simp only [Act.put, List.setIfInBounds_toArray, List.set_cons_zero, List.set_cons_succ, i64_w, i32_w]
             rfl
            refine pure_ (i := 28) (N := some 110) (v := ?_) (a' := ?_) #[true, true, true, true, true, true, true, true, true, true, true, true, true, true, true, true, true, true, true, true, true, true, true, true, true, true, true, true, true] rfl rfl (any_of HT_.out (by kernel_rfl)) (fun _ _ _ h => h) (Or.inl ⟨by rfl, ?_⟩) ?_ ?_
            rotate_left
            ·intro w'
             go_simp
             with_reducible rfl
            rotate_left
            ·simp only [Act.put, List.setIfInBounds_toArray, List.set_cons_zero, List.set_cons_succ, i64_w, i32_w]
             rfl
            refine done_ (done_of HT_.out (by kernel_rfl)) ?_
            try go_wp2
            go_roundg k2
            case measure => have := HJ6.out; have := HK2.out; omega
            case rel => exact ⟨(wrap64 (x13_2 + 1)), (by first | rfl | (simp; done) | (simp [*]; done)), H', ⟨by have := HJ6.out; have := HK2.out; omega⟩, ⟨pR (Kd.R_mono HO_3.out (fun _ hk => hk.1))⟩, ⟨pR (Kd.R_mono HO_11.out (fun _ hk => hk.1))⟩, ⟨by repeat (first | (with_reducible first | exact HB.out | apply below_alloc | apply pw_below_drewN | apply below_drew1 | refine below_set ?_ GE587.out) | exact HB.out)⟩⟩
           ·rw [if_neg c22] at H
            have c22b0 : (((rd_T55 t566 x13_2).f1) == t568) = false := beq_eq_false_iff_ne.mpr c22
            have c22b1 : (((rd_T55 t566 x13_2).f1) != t568) = true := bne_iff_ne.mpr c22
            replace H := Option.bind_eq_some_iff.mp H
            obtain ⟨t588, A270, H⟩ := H
            replace H : ((impl_BlkGet.f k2 t566 ((rd_T55 t566 x13_2).f0) ((rd_T55 t566 x13_2).f1) ((rd_T55 t566 x13_2).f2)).bind fun t589 => (if t588 = t589 then (laws_FnBlkPut.l0 k2 t566 t567 t568 t569 t570 t578 (wrap64 (x13_2 + 1))) else (some false))) = some r := H
            have A27 := Aside0.mk A270
            clear A270
            replace H := Option.bind_eq_some_iff.mp H
            obtain ⟨t589, A280, H⟩ := H
            replace H : (if t588 = t589 then (laws_FnBlkPut.l0 k2 t566 t567 t568 t569 t570 t578 (wrap64 (x13_2 + 1))) else (some false)) = some r := H
            have A28 := Aside0.mk A280
            clear A280
            by_cases c29 : t588 = t589
            ·rw [if_pos c29] at H
             have c29b0 : (t588 == t589) = true := beq_iff_eq.mpr c29
             have c29b1 : (t588 != t589) = false := bne_eq_false_iff_eq.mpr c29
             clear c29
             have H' := Aside0.mk H
             clear H
             have p586 : 0 ≤ (x13_2 : Int) := of_decide_eq_true bA
             have q586 : x13_2 < (t566.length : Int) := of_decide_eq_true bA
             obtain ⟨ad586, e586, hx586_0, hx586_1, hx586_2, hx586_3⟩ := at_T55 (Kd.R_reads' HO_3.out).2.2 x13_2 p586 q586
             cases e586
             replace p586 := eq_true p586
             replace q586 := eq_true q586
             try go_wp2_with (first | ((with_reducible refine gate_dst (N := 14) rfl ?_); (try (refine gate_guard (by rfl) ?_; dsimp only)); refine box_event ?hg (N := 14) ?hd (cs := #[.int .i64 0, .int .i64 0, .int .i64 0, .int .i64 0]) (t := 55) ?hr ?_; (case hd => rfl); (case hg => rfl); (case hr => first | (go_simp; done) | (go_simp; rfl)); intro gb587 hg w30 hbox hb; have n0_ := Aside0.mk (Kd.R_below (Kd.R_elderB (pR HO_3.out) gb587 (Nat.le_of_eq hg.symm)) hb); have n1_ := Aside0.mk (Kd.R_below (Kd.R_elderB (pR HO_11.out) gb587 (Nat.le_of_eq hg.symm)) hb); have n2_ := Aside0.mk (below_step (pB HB.out) hb); have n3_ := Aside0.mk (hbox); have n4_ := Aside0.mk ((by rw [hg]; exact (below_size (pB HB.out)) : w.heap.size ≤ gb587)); have n5_ := Aside0.mk ((by rw [hg]; exact (below_size (pB HB.out)) : w.heap.size ≤ gb587)); clear HO_3; clear HO_11; clear HB; have HO_3 := n0_; have HO_11 := n1_; have HB := n2_; have BK587 := n3_; have GW587 := n4_; have GE587 := n5_; clear n0_ n1_ n2_ n3_ n4_ n5_; clear hb hbox hg; have hcz31_0 : w30.cell? ⟨gb587, 0, none⟩ = some (.int .i64 0) := (blk_cell BK587.out 0).trans rfl; have hcz31_1 : w30.cell? ⟨gb587, 1, none⟩ = some (.int .i64 0) := (blk_cell BK587.out 1).trans rfl; have hcz31_2 : w30.cell? ⟨gb587, 2, none⟩ = some (.int .i64 0) := (blk_cell BK587.out 2).trans rfl; have hcz31_3 : w30.cell? ⟨gb587, 3, none⟩ = some (.int .i64 0) := (blk_cell BK587.out 3).trans rfl; have hfz31_0 := blk_frozen BK587.out 0; have hfz31_1 := blk_frozen BK587.out 1; have hfz31_2 := blk_frozen BK587.out 2; have hfz31_3 := blk_frozen BK587.out 3))
             have n0_ : Aside0 (Kd.R k55 55 ((((w30.setCell ⟨gb587, 0, none⟩ (.int .i64 ((rd_T55 t566 x13_2).f0))).setCell ⟨gb587, 1, none⟩ (.int .i64 ((rd_T55 t566 x13_2).f1))).setCell ⟨gb587, 2, none⟩ (.int .i64 ((rd_T55 t566 x13_2).f2))).setCell ⟨gb587, 3, none⟩ (.int .i64 ((rd_T55 t566 x13_2).f3))) w.heap.size (fun k_ => some k_ ≠ (v580 : Value).ownBlock ∧ k_ ≠ gb587) (.slice (some ad586) t566.length co9) t566) := ⟨pR (Kd.R_mono (Kd.R_far (p := ⟨gb587, 3, none⟩) (Kd.R_far (p := ⟨gb587, 2, none⟩) (Kd.R_far (p := ⟨gb587, 1, none⟩) (Kd.R_far (p := ⟨gb587, 0, none⟩) (Kd.R_mono HO_3.out (fun k_ hk => (⟨hk, hk.2⟩ : _ ∧ k_ ≠ gb587))) (fun _ hk => hk.2) (.int .i64 ((rd_T55 t566 x13_2).f0))) (fun _ hk => hk.2) (.int .i64 ((rd_T55 t566 x13_2).f1))) (fun _ hk => hk.2) (.int .i64 ((rd_T55 t566 x13_2).f2))) (fun _ hk => hk.2) (.int .i64 ((rd_T55 t566 x13_2).f3))) (fun _ hk => ⟨hk.1.1, hk.1.2⟩))⟩
             have n1_ : Aside0 (Kd.R k55 55 ((((w30.setCell ⟨gb587, 0, none⟩ (.int .i64 ((rd_T55 t566 x13_2).f0))).setCell ⟨gb587, 1, none⟩ (.int .i64 ((rd_T55 t566 x13_2).f1))).setCell ⟨gb587, 2, none⟩ (.int .i64 ((rd_T55 t566 x13_2).f2))).setCell ⟨gb587, 3, none⟩ (.int .i64 ((rd_T55 t566 x13_2).f3))) w.heap.size (fun k_ => some k_ ≠ (.slice (some ad586) t566.length co9 : Value).ownBlock ∧ k_ ≠ gb587) v580 t578) := ⟨pR (Kd.R_mono (Kd.R_far (p := ⟨gb587, 3, none⟩) (Kd.R_far (p := ⟨gb587, 2, none⟩) (Kd.R_far (p := ⟨gb587, 1, none⟩) (Kd.R_far (p := ⟨gb587, 0, none⟩) (Kd.R_mono HO_11.out (fun k_ hk => (⟨hk, hk.2⟩ : _ ∧ k_ ≠ gb587))) (fun _ hk => hk.2) (.int .i64 ((rd_T55 t566 x13_2).f0))) (fun _ hk => hk.2) (.int .i64 ((rd_T55 t566 x13_2).f1))) (fun _ hk => hk.2) (.int .i64 ((rd_T55 t566 x13_2).f2))) (fun _ hk => hk.2) (.int .i64 ((rd_T55 t566 x13_2).f3))) (fun _ hk => ⟨hk.1.1, hk.1.2⟩))⟩
             have n2_ : Aside0 (((((w30.setCell ⟨gb587, 0, none⟩ (.int .i64 ((rd_T55 t566 x13_2).f0))).setCell ⟨gb587, 1, none⟩ (.int .i64 ((rd_T55 t566 x13_2).f1))).setCell ⟨gb587, 2, none⟩ (.int .i64 ((rd_T55 t566 x13_2).f2))).setCell ⟨gb587, 3, none⟩ (.int .i64 ((rd_T55 t566 x13_2).f3))).heap[gb587]? = some (.cells #[.int .i64 ((rd_T55 t566 x13_2).f0), .int .i64 ((rd_T55 t566 x13_2).f1), .int .i64 ((rd_T55 t566 x13_2).f2), .int .i64 ((rd_T55 t566 x13_2).f3)] 55 (0, 0))) := ⟨by (with_reducible repeat (first | refine blk_drewN ?_ _ | refine blk_drew ?_ | refine blk_alloc ?_ _)); refine blk_put (cs := #[.int .i64 ((rd_T55 t566 x13_2).f0), .int .i64 ((rd_T55 t566 x13_2).f1), .int .i64 ((rd_T55 t566 x13_2).f2), .int .i64 0]) ?_ 3 _ rfl; (with_reducible repeat (first | refine blk_drewN ?_ _ | refine blk_drew ?_ | refine blk_alloc ?_ _)); refine blk_put (cs := #[.int .i64 ((rd_T55 t566 x13_2).f0), .int .i64 ((rd_T55 t566 x13_2).f1), .int .i64 0, .int .i64 0]) ?_ 2 _ rfl; (with_reducible repeat (first | refine blk_drewN ?_ _ | refine blk_drew ?_ | refine blk_alloc ?_ _)); refine blk_put (cs := #[.int .i64 ((rd_T55 t566 x13_2).f0), .int .i64 0, .int .i64 0, .int .i64 0]) ?_ 1 _ rfl; (with_reducible repeat (first | refine blk_drewN ?_ _ | refine blk_drew ?_ | refine blk_alloc ?_ _)); refine blk_put (cs := #[.int .i64 0, .int .i64 0, .int .i64 0, .int .i64 0]) ?_ 0 _ rfl; (with_reducible repeat (first | refine blk_drewN ?_ _ | refine blk_drew ?_ | refine blk_alloc ?_ _)); exact BK587.out⟩
             have n3_ : Aside0 (Below w.heap.size w ((((w30.setCell ⟨gb587, 0, none⟩ (.int .i64 ((rd_T55 t566 x13_2).f0))).setCell ⟨gb587, 1, none⟩ (.int .i64 ((rd_T55 t566 x13_2).f1))).setCell ⟨gb587, 2, none⟩ (.int .i64 ((rd_T55 t566 x13_2).f2))).setCell ⟨gb587, 3, none⟩ (.int .i64 ((rd_T55 t566 x13_2).f3)))) := ⟨by repeat (first | (with_reducible first | exact HB.out | apply below_alloc | apply pw_below_drewN | apply below_drew1 | refine below_set ?_ GE587.out) | exact HB.out)⟩
             (try clear HO_3)
             (try clear HO_11)
             (try clear BK587)
             (try clear HB)
             generalize ((((w30.setCell ⟨gb587, 0, none⟩ (.int .i64 ((rd_T55 t566 x13_2).f0))).setCell ⟨gb587, 1, none⟩ (.int .i64 ((rd_T55 t566 x13_2).f1))).setCell ⟨gb587, 2, none⟩ (.int .i64 ((rd_T55 t566 x13_2).f2))).setCell ⟨gb587, 3, none⟩ (.int .i64 ((rd_T55 t566 x13_2).f3))) = w32 at n0_ n1_ n2_ n3_ ⊢
             have HO_3 := n0_
             have HO_11 := n1_
             have BK587 := n2_
             have HB := n3_
             clear n0_ n1_ n2_ n3_
             have n0_ := Aside0.mk (Kd.R_drew HO_3.out)
             have n1_ := Aside0.mk (Kd.R_drew HO_11.out)
             have n2_ := Aside0.mk (blk_drew BK587.out)
             have n3_ := Aside0.mk (below_drew1 HB.out)
             clear HO_3
             clear HO_11
             clear BK587
             clear HB
             have HO_3 := n0_
             have HO_11 := n1_
             have BK587 := n2_
             have HB := n3_
             clear n0_ n1_ n2_ n3_
             obtain ⟨Ao34, co34, eo34⟩ := Kd.R_slice HO_11.out
             (first | subst eo34 | (injection eo34 with f1_ f2_ f3_; have f4_ := f1_.symm; have f5_ := f3_.symm; clear f1_ f2_ f3_; subst f4_; subst f5_))
             refine start_ (n := 29) (S := fun w' => w'.cell? ⟨gb587, 0, none⟩ = some (.int .i64 ((rd_T55 t566 x13_2).f0)) ∧ w'.cell? ⟨gb587, 1, none⟩ = some (.int .i64 ((rd_T55 t566 x13_2).f1)) ∧ w'.cell? ⟨gb587, 2, none⟩ = some (.int .i64 ((rd_T55 t566 x13_2).f2)) ∧ w'.cell? ⟨gb587, 3, none⟩ = some (.int .i64 ((rd_T55 t566 x13_2).f3))) (ds := []) #[false, false, false, false, false, false, false, false, false, false, false, false, false, false, false, false, false, false, false, false, false, false, false, false, false, false, false, false, false] (by kernel_rfl) rfl rfl ⟨(blk_cell BK587.out 0).trans rfl, (blk_cell BK587.out 1).trans rfl, (blk_cell BK587.out 2).trans rfl, (blk_cell BK587.out 3).trans rfl⟩ (fun hHeld => ?_); refine with_tabW laws_FnBlkPut.tab15 laws_FnBlkPut.bits15 (fun HT_ HW_ => ?_)
             generalize w32.drew = w33 at HO_3 HO_11 BK587 HB hHeld ⊢
             refine pure_ (i := 0) (N := some 82) (v := ?_) (a' := ?_) #[true, false, false, false, false, false, false, false, false, false, false, false, false, false, false, false, false, false, false, false, false, false, false, false, false, false, false, false, false] rfl rfl (any_of HT_.out (by kernel_rfl)) (fun _ _ _ h => h) (Or.inl ⟨by rfl, ?_⟩) ?_ ?_
             rotate_left
             ·intro w'
              go_simp
              with_reducible rfl
             rotate_left
             ·simp only [Act.put, List.setIfInBounds_toArray, List.set_cons_zero, List.set_cons_succ, i64_w, i32_w]
              rfl
             refine pure_ (i := 2) (N := some 84) (v := ?_) (a' := ?_) #[true, false, true, false, false, false, false, false, false, false, false, false, false, false, false, false, false, false, false, false, false, false, false, false, false, false, false, false, false] rfl rfl (any_of HT_.out (by kernel_rfl)) (fun _ _ _ h => h) (Or.inl ⟨by rfl, ?_⟩) ?_ ?_
             rotate_left
             ·intro w'
              go_simp
              with_reducible rfl
             rotate_left
             ·simp only [Act.put, List.setIfInBounds_toArray, List.set_cons_zero, List.set_cons_succ, i64_w, i32_w]
              rfl
             refine take_ (i := 1) (N := some 83) (v := ?_) (a' := ?_) #[true, true, true, false, false, false, false, false, false, false, false, false, false, false, false, false, false, false, false, false, false, false, false, false, false, false, false, false, false] rfl rfl (take_ofW HT_.out HW_.out (by kernel_rfl)) (fun _ _ _ h => h) (Or.inl ⟨by rfl, ?_⟩) hHeld ?_ ?_
             rotate_left
             ·rintro w' ⟨s0, s1, s2, s3⟩
              go_simp
              with_reducible rfl
             rotate_left
             ·simp only [Act.put, List.setIfInBounds_toArray, List.set_cons_zero, List.set_cons_succ, i64_w, i32_w]
              rfl
             refine pure_ (i := 3) (N := some 85) (v := ?_) (a' := ?_) #[true, true, true, true, false, false, false, false, false, false, false, false, false, false, false, false, false, false, false, false, false, false, false, false, false, false, false, false, false] rfl rfl (any_of HT_.out (by kernel_rfl)) (fun _ _ _ h => h) (Or.inl ⟨by rfl, ?_⟩) ?_ ?_
             rotate_left
             ·intro w'
              go_simp
              with_reducible rfl
             rotate_left
             ·simp only [Act.put, List.setIfInBounds_toArray, List.set_cons_zero, List.set_cons_succ, i64_w, i32_w]
              rfl
             refine pure_ (i := 4) (N := some 86) (v := ?_) (a' := ?_) #[true, true, true, true, true, false, false, false, false, false, false, false, false, false, false, false, false, false, false, false, false, false, false, false, false, false, false, false, false] rfl rfl (any_of HT_.out (by kernel_rfl)) (fun _ _ _ h => h) (Or.inl ⟨by rfl, ?_⟩) ?_ ?_
             rotate_left
             ·intro w'
              go_simp
              with_reducible rfl
             rotate_left
             ·simp only [Act.put, List.setIfInBounds_toArray, List.set_cons_zero, List.set_cons_succ, i64_w, i32_w]
              rfl
             refine pure_ (i := 5) (N := some 87) (v := ?_) (a' := ?_) #[true, true, true, true, true, true, false, false, false, false, false, false, false, false, false, false, false, false, false, false, false, false, false, false, false, false, false, false, false] rfl rfl (any_of HT_.out (by kernel_rfl)) (fun _ _ _ h => h) (Or.inl ⟨by rfl, ?_⟩) ?_ ?_
             rotate_left
             ·intro w'
              go_simp
              with_reducible rfl
             rotate_left
             ·simp only [Act.put, List.setIfInBounds_toArray, List.set_cons_zero, List.set_cons_succ, i64_w, i32_w]
              rfl
             refine pure_ (i := 7) (N := some 89) (v := ?_) (a' := ?_) #[true, true, true, true, true, true, false, true, false, false, false, false, false, false, false, false, false, false, false, false, false, false, false, false, false, false, false, false, false] rfl rfl (any_of HT_.out (by kernel_rfl)) (fun _ _ _ h => h) (Or.inl ⟨by rfl, ?_⟩) ?_ ?_
             rotate_left
             ·intro w'
              go_simp
              with_reducible rfl
             rotate_left
             ·simp only [Act.put, List.setIfInBounds_toArray, List.set_cons_zero, List.set_cons_succ, i64_w, i32_w]
              rfl
             refine take_ (i := 6) (N := some 88) (v := ?_) (a' := ?_) #[true, true, true, true, true, true, true, true, false, false, false, false, false, false, false, false, false, false, false, false, false, false, false, false, false, false, false, false, false] rfl rfl (take_ofW HT_.out HW_.out (by kernel_rfl)) (fun _ _ _ h => h) (Or.inl ⟨by rfl, ?_⟩) hHeld ?_ ?_
             rotate_left
             ·rintro w' ⟨s0, s1, s2, s3⟩
              go_simp
              with_reducible rfl
             rotate_left
             ·simp only [Act.put, List.setIfInBounds_toArray, List.set_cons_zero, List.set_cons_succ, i64_w, i32_w]
              rfl
             refine pure_ (i := 8) (N := some 90) (v := ?_) (a' := ?_) #[true, true, true, true, true, true, true, true, true, false, false, false, false, false, false, false, false, false, false, false, false, false, false, false, false, false, false, false, false] rfl rfl (any_of HT_.out (by kernel_rfl)) (fun _ _ _ h => h) (Or.inl ⟨by rfl, ?_⟩) ?_ ?_
             rotate_left
             ·intro w'
              go_simp
              with_reducible rfl
             rotate_left
             ·simp only [Act.put, List.setIfInBounds_toArray, List.set_cons_zero, List.set_cons_succ, i64_w, i32_w]
              rfl
             refine pure_ (i := 9) (N := some 91) (v := ?_) (a' := ?_) #[true, true, true, true, true, true, true, true, true, true, false, false, false, false, false, false, false, false, false, false, false, false, false, false, false, false, false, false, false] rfl rfl (any_of HT_.out (by kernel_rfl)) (fun _ _ _ h => h) (Or.inl ⟨by rfl, ?_⟩) ?_ ?_
             rotate_left
             ·intro w'
              go_simp
              with_reducible rfl
             rotate_left
             ·simp only [Act.put, List.setIfInBounds_toArray, List.set_cons_zero, List.set_cons_succ, i64_w, i32_w]
              rfl
             refine pure_ (i := 10) (N := some 92) (v := ?_) (a' := ?_) #[true, true, true, true, true, true, true, true, true, true, true, false, false, false, false, false, false, false, false, false, false, false, false, false, false, false, false, false, false] rfl rfl (any_of HT_.out (by kernel_rfl)) (fun _ _ _ h => h) (Or.inl ⟨by rfl, ?_⟩) ?_ ?_
             rotate_left
             ·intro w'
              go_simp
              with_reducible rfl
             rotate_left
             ·simp only [Act.put, List.setIfInBounds_toArray, List.set_cons_zero, List.set_cons_succ, i64_w, i32_w]
              rfl
             refine pure_ (i := 11) (N := some 93) (v := ?_) (a' := ?_) #[true, true, true, true, true, true, true, true, true, true, true, true, false, false, false, false, false, false, false, false, false, false, false, false, false, false, false, false, false] rfl rfl (any_of HT_.out (by kernel_rfl)) (fun _ _ _ h => h) (Or.inl ⟨by rfl, ?_⟩) ?_ ?_
             rotate_left
             ·intro w'
              go_simp
              with_reducible rfl
             rotate_left
             ·simp only [Act.put, List.setIfInBounds_toArray, List.set_cons_zero, List.set_cons_succ, i64_w, i32_w]
              rfl
             refine pure_ (i := 12) (N := some 94) (v := ?_) (a' := ?_) #[true, true, true, true, true, true, true, true, true, true, true, true, true, false, false, false, false, false, false, false, false, false, false, false, false, false, false, false, false] rfl rfl (any_of HT_.out (by kernel_rfl)) (fun _ _ _ h => h) (Or.inl ⟨by rfl, ?_⟩) ?_ ?_
             rotate_left
             ·intro w'
              go_simp
              with_reducible rfl
             rotate_left
             ·simp only [Act.put, List.setIfInBounds_toArray, List.set_cons_zero, List.set_cons_succ, i64_w, i32_w]
              rfl
             refine pure_ (i := 14) (N := some 96) (v := ?_) (a' := ?_) #[true, true, true, true, true, true, true, true, true, true, true, true, true, false, true, false, false, false, false, false, false, false, false, false, false, false, false, false, false] rfl rfl (any_of HT_.out (by kernel_rfl)) (fun _ _ _ h => h) (Or.inl ⟨by rfl, ?_⟩) ?_ ?_
             rotate_left
             ·intro w'
              go_simp
              with_reducible rfl
             rotate_left
             ·simp only [Act.put, List.setIfInBounds_toArray, List.set_cons_zero, List.set_cons_succ, i64_w, i32_w]
              rfl
             refine pure_ (i := 16) (N := some 98) (v := ?_) (a' := ?_) #[true, true, true, true, true, true, true, true, true, true, true, true, true, false, true, false, true, false, false, false, false, false, false, false, false, false, false, false, false] rfl rfl (any_of HT_.out (by kernel_rfl)) (fun _ _ _ h => h) (Or.inl ⟨by rfl, ?_⟩) ?_ ?_
             rotate_left
             ·intro w'
              go_simp
              with_reducible rfl
             rotate_left
             ·simp only [Act.put, List.setIfInBounds_toArray, List.set_cons_zero, List.set_cons_succ, i64_w, i32_w]
              rfl
             refine pure_ (i := 19) (N := some 101) (v := ?_) (a' := ?_) #[true, true, true, true, true, true, true, true, true, true, true, true, true, false, true, false, true, false, false, true, false, false, false, false, false, false, false, false, false] rfl rfl (any_of HT_.out (by kernel_rfl)) (fun _ _ _ h => h) (Or.inl ⟨by rfl, ?_⟩) ?_ ?_
             rotate_left
             ·intro w'
              go_simp
              with_reducible rfl
             rotate_left
             ·simp only [Act.put, List.setIfInBounds_toArray, List.set_cons_zero, List.set_cons_succ, i64_w, i32_w]
              rfl
             refine pure_ (i := 20) (N := some 102) (v := ?_) (a' := ?_) #[true, true, true, true, true, true, true, true, true, true, true, true, true, false, true, false, true, false, false, true, true, false, false, false, false, false, false, false, false] rfl rfl (any_of HT_.out (by kernel_rfl)) (fun _ _ _ h => h) (Or.inl ⟨by rfl, ?_⟩) ?_ ?_
             rotate_left
             ·intro w'
              go_simp
              with_reducible rfl
             rotate_left
             ·simp only [Act.put, List.setIfInBounds_toArray, List.set_cons_zero, List.set_cons_succ, i64_w, i32_w]
              rfl
             refine pure_ (i := 22) (N := some 104) (v := ?_) (a' := ?_) #[true, true, true, true, true, true, true, true, true, true, true, true, true, false, true, false, true, false, false, true, true, false, true, false, false, false, false, false, false] rfl rfl (any_of HT_.out (by kernel_rfl)) (fun _ _ _ h => h) (Or.inl ⟨by rfl, ?_⟩) ?_ ?_
             rotate_left
             ·intro w'
              go_simp
              with_reducible rfl
             rotate_left
             ·simp only [Act.put, List.setIfInBounds_toArray, List.set_cons_zero, List.set_cons_succ, i64_w, i32_w]
              rfl
             refine pure_ (i := 24) (N := some 106) (v := ?_) (a' := ?_) #[true, true, true, true, true, true, true, true, true, true, true, true, true, false, true, false, true, false, false, true, true, false, true, false, true, false, false, false, false] rfl rfl (any_of HT_.out (by kernel_rfl)) (fun _ _ _ h => h) (Or.inl ⟨by rfl, ?_⟩) ?_ ?_
             rotate_left
             ·intro w'
              go_simp
              with_reducible rfl
             rotate_left
             ·simp only [Act.put, List.setIfInBounds_toArray, List.set_cons_zero, List.set_cons_succ, i64_w, i32_w]
              rfl
             refine take_ (i := 13) (N := some 95) (v := ?_) (a' := ?_) #[true, true, true, true, true, true, true, true, true, true, true, true, true, true, true, false, true, false, false, true, true, false, true, false, true, false, false, false, false] rfl rfl (take_ofW HT_.out HW_.out (by kernel_rfl)) (fun _ _ _ h => h) (Or.inl ⟨by rfl, ?_⟩) hHeld ?_ ?_
             rotate_left
             ·rintro w' ⟨s0, s1, s2, s3⟩
              go_simp
              with_reducible rfl
             rotate_left
             ·simp only [Act.put, List.setIfInBounds_toArray, List.set_cons_zero, List.set_cons_succ, i64_w, i32_w]
              rfl
             refine take_ (i := 15) (N := some 97) (v := ?_) (a' := ?_) #[true, true, true, true, true, true, true, true, true, true, true, true, true, true, true, true, true, false, false, true, true, false, true, false, true, false, false, false, false] rfl rfl (take_ofW HT_.out HW_.out (by kernel_rfl)) (fun _ _ _ h => h) (Or.inl ⟨by rfl, ?_⟩) hHeld ?_ ?_
             rotate_left
             ·rintro w' ⟨s0, s1, s2, s3⟩
              go_simp
              with_reducible rfl
             rotate_left
             ·simp only [Act.put, List.setIfInBounds_toArray, List.set_cons_zero, List.set_cons_succ, i64_w, i32_w]
              rfl
             refine take_ (i := 17) (N := some 99) (v := ?_) (a' := ?_) #[true, true, true, true, true, true, true, true, true, true, true, true, true, true, true, true, true, true, false, true, true, false, true, false, true, false, false, false, false] rfl rfl (take_ofW HT_.out HW_.out (by kernel_rfl)) (fun _ _ _ h => h) (Or.inl ⟨by rfl, ?_⟩) hHeld ?_ ?_
             rotate_left
             ·rintro w' ⟨s0, s1, s2, s3⟩
              go_simp
              with_reducible rfl
             rotate_left
             ·simp only [Act.put, List.setIfInBounds_toArray, List.set_cons_zero, List.set_cons_succ, i64_w, i32_w]
              rfl
             refine take_ (i := 21) (N := some 103) (v := ?_) (a' := ?_) #[true, true, true, true, true, true, true, true, true, true, true, true, true, true, true, true, true, true, false, true, true, true, true, false, true, false, false, false, false] rfl rfl (take_ofW HT_.out HW_.out (by kernel_rfl)) (fun _ _ _ h => h) (Or.inl ⟨by rfl, ?_⟩) hHeld ?_ ?_
             rotate_left
             ·rintro w' ⟨s0, s1, s2, s3⟩
              go_simp
              with_reducible rfl
             rotate_left
             ·simp only [Act.put, List.setIfInBounds_toArray, List.set_cons_zero, List.set_cons_succ, i64_w, i32_w]
              rfl
             refine take_ (i := 23) (N := some 105) (v := ?_) (a' := ?_) #[true, true, true, true, true, true, true, true, true, true, true, true, true, true, true, true, true, true, false, true, true, true, true, true, true, false, false, false, false] rfl rfl (take_ofW HT_.out HW_.out (by kernel_rfl)) (fun _ _ _ h => h) (Or.inl ⟨by rfl, ?_⟩) hHeld ?_ ?_
             rotate_left
             ·rintro w' ⟨s0, s1, s2, s3⟩
              go_simp
              with_reducible rfl
             rotate_left
             ·simp only [Act.put, List.setIfInBounds_toArray, List.set_cons_zero, List.set_cons_succ, i64_w, i32_w]
              rfl
             refine take_ (i := 25) (N := some 107) (v := ?_) (a' := ?_) #[true, true, true, true, true, true, true, true, true, true, true, true, true, true, true, true, true, true, false, true, true, true, true, true, true, true, false, false, false] rfl rfl (take_ofW HT_.out HW_.out (by kernel_rfl)) (fun _ _ _ h => h) (Or.inl ⟨by rfl, ?_⟩) hHeld ?_ ?_
             rotate_left
             ·rintro w' ⟨s0, s1, s2, s3⟩
              go_simp
              with_reducible rfl
             rotate_left
             ·simp only [Act.put, List.setIfInBounds_toArray, List.set_cons_zero, List.set_cons_succ, i64_w, i32_w]
              rfl
             refine one_ (i := 18) (N := some 100) #[true, true, true, true, true, true, true, true, true, true, true, true, true, true, true, true, true, true, true, true, true, true, true, true, true, true, false, false, false] rfl rfl (one_of HT_.out (by kernel_rfl)) (by decide) (fun K hK => ?_)
             refine goes_ Try.func26 (by kernel_rfl) rfl #[.slice Ao34 t578.length co34, .int .i64 ((rd_T55 t566 x13_2).f0), .int .i64 ((rd_T55 t566 x13_2).f1), .int .i64 ((rd_T55 t566 x13_2).f2)] (by rfl) rfl rfl bM ?_
             with_reducible refine (impl_BlkGet.calls k2 _ _ t578 ((rd_T55 t566 x13_2).f0) ((rd_T55 t566 x13_2).f1) ((rd_T55 t566 x13_2).f2) t588 _ ?side1 ?side2 A27.out).mono ?_
             (case side1 => exact pC (Kd.R_reads' HO_11.out).2.2)
             (case side2 => exact (Kd.R_reads' HO_11.out).2.1)
             rintro e w35 ⟨rfl, hb⟩
             refine ⟨_, rfl, ?_⟩
             have n0_ := Aside0.mk (Kd.R_below (pR HO_3.out) hb)
             have n1_ := Aside0.mk (Kd.R_below (pR HO_11.out) hb)
             have n2_ := Aside0.mk (blk_below (g := gb587) (o := .cells #[.int .i64 ((rd_T55 t566 x13_2).f0), .int .i64 ((rd_T55 t566 x13_2).f1), .int .i64 ((rd_T55 t566 x13_2).f2), .int .i64 ((rd_T55 t566 x13_2).f3)] 55 (0, 0)) (pK BK587.out) hb)
             have n3_ := Aside0.mk (below_step (by repeat (first | (with_reducible first | exact HB.out | apply below_alloc | apply pw_below_drewN | apply below_drew1 | refine below_set ?_ GE587.out) | exact HB.out)) hb)
             clear HO_3
             clear HO_11
             clear BK587
             clear HB
             have HO_3 := n0_
             have HO_11 := n1_
             have BK587 := n2_
             have HB := n3_
             clear n0_ n1_ n2_ n3_
             (try clear hb)
             (try clear hb2)
             (try clear hk)
             (try clear hi)
             refine hK.out _ _ ⟨(blk_cell BK587.out 0).trans rfl, (blk_cell BK587.out 1).trans rfl, (blk_cell BK587.out 2).trans rfl, (blk_cell BK587.out 3).trans rfl⟩ (fun hHeld => ?_)
             clear hK K
             refine norm_ (a' := ?_) ?_ ?_
             rotate_left
             ·show Act.put _ (some 100) _ = _
              simp only [Act.put, List.setIfInBounds_toArray, List.set_cons_zero, List.set_cons_succ, i64_w, i32_w]
              rfl
             refine one_ (i := 26) (N := some 108) #[true, true, true, true, true, true, true, true, true, true, true, true, true, true, true, true, true, true, true, true, true, true, true, true, true, true, true, false, false] rfl rfl (one_of HT_.out (by kernel_rfl)) (by decide) (fun K hK => ?_)
             refine goes_ Try.func26 (by kernel_rfl) rfl #[.slice (some ad586) t566.length co9, .int .i64 ((rd_T55 t566 x13_2).f0), .int .i64 ((rd_T55 t566 x13_2).f1), .int .i64 ((rd_T55 t566 x13_2).f2)] (by rfl) rfl rfl bM ?_
             with_reducible refine (impl_BlkGet.calls k2 _ _ t566 ((rd_T55 t566 x13_2).f0) ((rd_T55 t566 x13_2).f1) ((rd_T55 t566 x13_2).f2) t589 _ ?side1 ?side2 A28.out).mono ?_
             (case side1 => exact pC (Kd.R_reads' HO_3.out).2.2)
             (case side2 => exact (Kd.R_reads' HO_3.out).2.1)
             rintro e w36 ⟨rfl, hb⟩
             refine ⟨_, rfl, ?_⟩
             have n0_ := Aside0.mk (Kd.R_below (pR HO_3.out) hb)
             have n1_ := Aside0.mk (Kd.R_below (pR HO_11.out) hb)
             have n2_ := Aside0.mk (blk_below (g := gb587) (o := .cells #[.int .i64 ((rd_T55 t566 x13_2).f0), .int .i64 ((rd_T55 t566 x13_2).f1), .int .i64 ((rd_T55 t566 x13_2).f2), .int .i64 ((rd_T55 t566 x13_2).f3)] 55 (0, 0)) (pK BK587.out) hb)
             have n3_ := Aside0.mk (below_step (by repeat (first | (with_reducible first | exact HB.out | apply below_alloc | apply pw_below_drewN | apply below_drew1 | refine below_set ?_ GE587.out) | exact HB.out)) hb)
             clear HO_3
             clear HO_11
             clear BK587
             clear HB
             have HO_3 := n0_
             have HO_11 := n1_
             have BK587 := n2_
             have HB := n3_
             clear n0_ n1_ n2_ n3_
             (try clear hb)
             (try clear hb2)
             (try clear hk)
             (try clear hi)
             refine hK.out _ _ ⟨(blk_cell BK587.out 0).trans rfl, (blk_cell BK587.out 1).trans rfl, (blk_cell BK587.out 2).trans rfl, (blk_cell BK587.out 3).trans rfl⟩ (fun hHeld => ?_)
             clear hK K
             refine norm_ (a' := ?_) ?_ ?_
             rotate_left
             ·show Act.put _ (some 108) _ = _
              simp only [Act.put, List.setIfInBounds_toArray, List.set_cons_zero, List.set_cons_succ, i64_w, i32_w]
              rfl
             refine pure_ (i := 27) (N := some 109) (v := ?_) (a' := ?_) #[true, true, true, true, true, true, true, true, true, true, true, true, true, true, true, true, true, true, true, true, true, true, true, true, true, true, true, true, false] rfl rfl (any_of HT_.out (by kernel_rfl)) (fun _ _ _ h => h) (Or.inl ⟨by rfl, ?_⟩) ?_ ?_
             rotate_left
             ·intro w'
              go_simp
              with_reducible rfl
             rotate_left
             ·simp only [Act.put, List.setIfInBounds_toArray, List.set_cons_zero, List.set_cons_succ, i64_w, i32_w]
              rfl
             refine pure_ (i := 28) (N := some 110) (v := ?_) (a' := ?_) #[true, true, true, true, true, true, true, true, true, true, true, true, true, true, true, true, true, true, true, true, true, true, true, true, true, true, true, true, true] rfl rfl (any_of HT_.out (by kernel_rfl)) (fun _ _ _ h => h) (Or.inl ⟨by rfl, ?_⟩) ?_ ?_
             rotate_left
             ·intro w'
              go_simp
              with_reducible rfl
             rotate_left
             ·simp only [Act.put, List.setIfInBounds_toArray, List.set_cons_zero, List.set_cons_succ, i64_w, i32_w]
              rfl
             refine done_ (done_of HT_.out (by kernel_rfl)) ?_
             try go_wp2
             go_roundg k2
             case measure => have := HJ6.out; have := HK2.out; omega
             case rel => exact ⟨(wrap64 (x13_2 + 1)), (by first | rfl | (simp; done) | (simp [*]; done)), H', ⟨by have := HJ6.out; have := HK2.out; omega⟩, ⟨pR (Kd.R_mono HO_3.out (fun _ hk => hk.1))⟩, ⟨pR (Kd.R_mono HO_11.out (fun _ hk => hk.1))⟩, ⟨by repeat (first | (with_reducible first | exact HB.out | apply below_alloc | apply pw_below_drewN | apply below_drew1 | refine below_set ?_ GE587.out) | exact HB.out)⟩⟩
            ·rw [if_neg c29] at H
             have c29b0 : (t588 == t589) = false := beq_eq_false_iff_ne.mpr c29
             have c29b1 : (t588 != t589) = true := bne_iff_ne.mpr c29
             obtain rfl := Option.some.inj H
             have p586 : 0 ≤ (x13_2 : Int) := of_decide_eq_true bA
             have q586 : x13_2 < (t566.length : Int) := of_decide_eq_true bA
             obtain ⟨ad586, e586, hx586_0, hx586_1, hx586_2, hx586_3⟩ := at_T55 (Kd.R_reads' HO_3.out).2.2 x13_2 p586 q586
             cases e586
             replace p586 := eq_true p586
             replace q586 := eq_true q586
             try go_wp2_with (first | ((with_reducible refine gate_dst (N := 14) rfl ?_); (try (refine gate_guard (by rfl) ?_; dsimp only)); refine box_event ?hg (N := 14) ?hd (cs := #[.int .i64 0, .int .i64 0, .int .i64 0, .int .i64 0]) (t := 55) ?hr ?_; (case hd => rfl); (case hg => rfl); (case hr => first | (go_simp; done) | (go_simp; rfl)); intro gb587 hg w37 hbox hb; have n0_ := Aside0.mk (Kd.R_below (Kd.R_elderB (pR HO_3.out) gb587 (Nat.le_of_eq hg.symm)) hb); have n1_ := Aside0.mk (Kd.R_below (Kd.R_elderB (pR HO_11.out) gb587 (Nat.le_of_eq hg.symm)) hb); have n2_ := Aside0.mk (below_step (pB HB.out) hb); have n3_ := Aside0.mk (hbox); have n4_ := Aside0.mk ((by rw [hg]; exact (below_size (pB HB.out)) : w.heap.size ≤ gb587)); have n5_ := Aside0.mk ((by rw [hg]; exact (below_size (pB HB.out)) : w.heap.size ≤ gb587)); clear HO_3; clear HO_11; clear HB; have HO_3 := n0_; have HO_11 := n1_; have HB := n2_; have BK587 := n3_; have GW587 := n4_; have GE587 := n5_; clear n0_ n1_ n2_ n3_ n4_ n5_; clear hb hbox hg; have hcz38_0 : w37.cell? ⟨gb587, 0, none⟩ = some (.int .i64 0) := (blk_cell BK587.out 0).trans rfl; have hcz38_1 : w37.cell? ⟨gb587, 1, none⟩ = some (.int .i64 0) := (blk_cell BK587.out 1).trans rfl; have hcz38_2 : w37.cell? ⟨gb587, 2, none⟩ = some (.int .i64 0) := (blk_cell BK587.out 2).trans rfl; have hcz38_3 : w37.cell? ⟨gb587, 3, none⟩ = some (.int .i64 0) := (blk_cell BK587.out 3).trans rfl; have hfz38_0 := blk_frozen BK587.out 0; have hfz38_1 := blk_frozen BK587.out 1; have hfz38_2 := blk_frozen BK587.out 2; have hfz38_3 := blk_frozen BK587.out 3))
             have n0_ : Aside0 (Kd.R k55 55 ((((w37.setCell ⟨gb587, 0, none⟩ (.int .i64 ((rd_T55 t566 x13_2).f0))).setCell ⟨gb587, 1, none⟩ (.int .i64 ((rd_T55 t566 x13_2).f1))).setCell ⟨gb587, 2, none⟩ (.int .i64 ((rd_T55 t566 x13_2).f2))).setCell ⟨gb587, 3, none⟩ (.int .i64 ((rd_T55 t566 x13_2).f3))) w.heap.size (fun k_ => some k_ ≠ (v580 : Value).ownBlock ∧ k_ ≠ gb587) (.slice (some ad586) t566.length co9) t566) := ⟨pR (Kd.R_mono (Kd.R_far (p := ⟨gb587, 3, none⟩) (Kd.R_far (p := ⟨gb587, 2, none⟩) (Kd.R_far (p := ⟨gb587, 1, none⟩) (Kd.R_far (p := ⟨gb587, 0, none⟩) (Kd.R_mono HO_3.out (fun k_ hk => (⟨hk, hk.2⟩ : _ ∧ k_ ≠ gb587))) (fun _ hk => hk.2) (.int .i64 ((rd_T55 t566 x13_2).f0))) (fun _ hk => hk.2) (.int .i64 ((rd_T55 t566 x13_2).f1))) (fun _ hk => hk.2) (.int .i64 ((rd_T55 t566 x13_2).f2))) (fun _ hk => hk.2) (.int .i64 ((rd_T55 t566 x13_2).f3))) (fun _ hk => ⟨hk.1.1, hk.1.2⟩))⟩
             have n1_ : Aside0 (Kd.R k55 55 ((((w37.setCell ⟨gb587, 0, none⟩ (.int .i64 ((rd_T55 t566 x13_2).f0))).setCell ⟨gb587, 1, none⟩ (.int .i64 ((rd_T55 t566 x13_2).f1))).setCell ⟨gb587, 2, none⟩ (.int .i64 ((rd_T55 t566 x13_2).f2))).setCell ⟨gb587, 3, none⟩ (.int .i64 ((rd_T55 t566 x13_2).f3))) w.heap.size (fun k_ => some k_ ≠ (.slice (some ad586) t566.length co9 : Value).ownBlock ∧ k_ ≠ gb587) v580 t578) := ⟨pR (Kd.R_mono (Kd.R_far (p := ⟨gb587, 3, none⟩) (Kd.R_far (p := ⟨gb587, 2, none⟩) (Kd.R_far (p := ⟨gb587, 1, none⟩) (Kd.R_far (p := ⟨gb587, 0, none⟩) (Kd.R_mono HO_11.out (fun k_ hk => (⟨hk, hk.2⟩ : _ ∧ k_ ≠ gb587))) (fun _ hk => hk.2) (.int .i64 ((rd_T55 t566 x13_2).f0))) (fun _ hk => hk.2) (.int .i64 ((rd_T55 t566 x13_2).f1))) (fun _ hk => hk.2) (.int .i64 ((rd_T55 t566 x13_2).f2))) (fun _ hk => hk.2) (.int .i64 ((rd_T55 t566 x13_2).f3))) (fun _ hk => ⟨hk.1.1, hk.1.2⟩))⟩
             have n2_ : Aside0 (((((w37.setCell ⟨gb587, 0, none⟩ (.int .i64 ((rd_T55 t566 x13_2).f0))).setCell ⟨gb587, 1, none⟩ (.int .i64 ((rd_T55 t566 x13_2).f1))).setCell ⟨gb587, 2, none⟩ (.int .i64 ((rd_T55 t566 x13_2).f2))).setCell ⟨gb587, 3, none⟩ (.int .i64 ((rd_T55 t566 x13_2).f3))).heap[gb587]? = some (.cells #[.int .i64 ((rd_T55 t566 x13_2).f0), .int .i64 ((rd_T55 t566 x13_2).f1), .int .i64 ((rd_T55 t566 x13_2).f2), .int .i64 ((rd_T55 t566 x13_2).f3)] 55 (0, 0))) := ⟨by (with_reducible repeat (first | refine blk_drewN ?_ _ | refine blk_drew ?_ | refine blk_alloc ?_ _)); refine blk_put (cs := #[.int .i64 ((rd_T55 t566 x13_2).f0), .int .i64 ((rd_T55 t566 x13_2).f1), .int .i64 ((rd_T55 t566 x13_2).f2), .int .i64 0]) ?_ 3 _ rfl; (with_reducible repeat (first | refine blk_drewN ?_ _ | refine blk_drew ?_ | refine blk_alloc ?_ _)); refine blk_put (cs := #[.int .i64 ((rd_T55 t566 x13_2).f0), .int .i64 ((rd_T55 t566 x13_2).f1), .int .i64 0, .int .i64 0]) ?_ 2 _ rfl; (with_reducible repeat (first | refine blk_drewN ?_ _ | refine blk_drew ?_ | refine blk_alloc ?_ _)); refine blk_put (cs := #[.int .i64 ((rd_T55 t566 x13_2).f0), .int .i64 0, .int .i64 0, .int .i64 0]) ?_ 1 _ rfl; (with_reducible repeat (first | refine blk_drewN ?_ _ | refine blk_drew ?_ | refine blk_alloc ?_ _)); refine blk_put (cs := #[.int .i64 0, .int .i64 0, .int .i64 0, .int .i64 0]) ?_ 0 _ rfl; (with_reducible repeat (first | refine blk_drewN ?_ _ | refine blk_drew ?_ | refine blk_alloc ?_ _)); exact BK587.out⟩
             have n3_ : Aside0 (Below w.heap.size w ((((w37.setCell ⟨gb587, 0, none⟩ (.int .i64 ((rd_T55 t566 x13_2).f0))).setCell ⟨gb587, 1, none⟩ (.int .i64 ((rd_T55 t566 x13_2).f1))).setCell ⟨gb587, 2, none⟩ (.int .i64 ((rd_T55 t566 x13_2).f2))).setCell ⟨gb587, 3, none⟩ (.int .i64 ((rd_T55 t566 x13_2).f3)))) := ⟨by repeat (first | (with_reducible first | exact HB.out | apply below_alloc | apply pw_below_drewN | apply below_drew1 | refine below_set ?_ GE587.out) | exact HB.out)⟩
             (try clear HO_3)
             (try clear HO_11)
             (try clear BK587)
             (try clear HB)
             generalize ((((w37.setCell ⟨gb587, 0, none⟩ (.int .i64 ((rd_T55 t566 x13_2).f0))).setCell ⟨gb587, 1, none⟩ (.int .i64 ((rd_T55 t566 x13_2).f1))).setCell ⟨gb587, 2, none⟩ (.int .i64 ((rd_T55 t566 x13_2).f2))).setCell ⟨gb587, 3, none⟩ (.int .i64 ((rd_T55 t566 x13_2).f3))) = w39 at n0_ n1_ n2_ n3_ ⊢
             have HO_3 := n0_
             have HO_11 := n1_
             have BK587 := n2_
             have HB := n3_
             clear n0_ n1_ n2_ n3_
             have n0_ := Aside0.mk (Kd.R_drew HO_3.out)
             have n1_ := Aside0.mk (Kd.R_drew HO_11.out)
             have n2_ := Aside0.mk (blk_drew BK587.out)
             have n3_ := Aside0.mk (below_drew1 HB.out)
             clear HO_3
             clear HO_11
             clear BK587
             clear HB
             have HO_3 := n0_
             have HO_11 := n1_
             have BK587 := n2_
             have HB := n3_
             clear n0_ n1_ n2_ n3_
             obtain ⟨Ao41, co41, eo41⟩ := Kd.R_slice HO_11.out
             (first | subst eo41 | (injection eo41 with f1_ f2_ f3_; have f4_ := f1_.symm; have f5_ := f3_.symm; clear f1_ f2_ f3_; subst f4_; subst f5_))
             refine start_ (n := 29) (S := fun w' => w'.cell? ⟨gb587, 0, none⟩ = some (.int .i64 ((rd_T55 t566 x13_2).f0)) ∧ w'.cell? ⟨gb587, 1, none⟩ = some (.int .i64 ((rd_T55 t566 x13_2).f1)) ∧ w'.cell? ⟨gb587, 2, none⟩ = some (.int .i64 ((rd_T55 t566 x13_2).f2)) ∧ w'.cell? ⟨gb587, 3, none⟩ = some (.int .i64 ((rd_T55 t566 x13_2).f3))) (ds := []) #[false, false, false, false, false, false, false, false, false, false, false, false, false, false, false, false, false, false, false, false, false, false, false, false, false, false, false, false, false] (by kernel_rfl) rfl rfl ⟨(blk_cell BK587.out 0).trans rfl, (blk_cell BK587.out 1).trans rfl, (blk_cell BK587.out 2).trans rfl, (blk_cell BK587.out 3).trans rfl⟩ (fun hHeld => ?_); refine with_tabW laws_FnBlkPut.tab15 laws_FnBlkPut.bits15 (fun HT_ HW_ => ?_)
             generalize w39.drew = w40 at HO_3 HO_11 BK587 HB hHeld ⊢
             refine pure_ (i := 0) (N := some 82) (v := ?_) (a' := ?_) #[true, false, false, false, false, false, false, false, false, false, false, false, false, false, false, false, false, false, false, false, false, false, false, false, false, false, false, false, false] rfl rfl (any_of HT_.out (by kernel_rfl)) (fun _ _ _ h => h) (Or.inl ⟨by rfl, ?_⟩) ?_ ?_
             rotate_left
             ·intro w'
              go_simp
              with_reducible rfl
             rotate_left
             ·simp only [Act.put, List.setIfInBounds_toArray, List.set_cons_zero, List.set_cons_succ, i64_w, i32_w]
              rfl
             refine pure_ (i := 2) (N := some 84) (v := ?_) (a' := ?_) #[true, false, true, false, false, false, false, false, false, false, false, false, false, false, false, false, false, false, false, false, false, false, false, false, false, false, false, false, false] rfl rfl (any_of HT_.out (by kernel_rfl)) (fun _ _ _ h => h) (Or.inl ⟨by rfl, ?_⟩) ?_ ?_
             rotate_left
             ·intro w'
              go_simp
              with_reducible rfl
             rotate_left
             ·simp only [Act.put, List.setIfInBounds_toArray, List.set_cons_zero, List.set_cons_succ, i64_w, i32_w]
              rfl
             refine take_ (i := 1) (N := some 83) (v := ?_) (a' := ?_) #[true, true, true, false, false, false, false, false, false, false, false, false, false, false, false, false, false, false, false, false, false, false, false, false, false, false, false, false, false] rfl rfl (take_ofW HT_.out HW_.out (by kernel_rfl)) (fun _ _ _ h => h) (Or.inl ⟨by rfl, ?_⟩) hHeld ?_ ?_
             rotate_left
             ·rintro w' ⟨s0, s1, s2, s3⟩
              go_simp
              with_reducible rfl
             rotate_left
             ·simp only [Act.put, List.setIfInBounds_toArray, List.set_cons_zero, List.set_cons_succ, i64_w, i32_w]
              rfl
             refine pure_ (i := 3) (N := some 85) (v := ?_) (a' := ?_) #[true, true, true, true, false, false, false, false, false, false, false, false, false, false, false, false, false, false, false, false, false, false, false, false, false, false, false, false, false] rfl rfl (any_of HT_.out (by kernel_rfl)) (fun _ _ _ h => h) (Or.inl ⟨by rfl, ?_⟩) ?_ ?_
             rotate_left
             ·intro w'
              go_simp
              with_reducible rfl
             rotate_left
             ·simp only [Act.put, List.setIfInBounds_toArray, List.set_cons_zero, List.set_cons_succ, i64_w, i32_w]
              rfl
             refine pure_ (i := 4) (N := some 86) (v := ?_) (a' := ?_) #[true, true, true, true, true, false, false, false, false, false, false, false, false, false, false, false, false, false, false, false, false, false, false, false, false, false, false, false, false] rfl rfl (any_of HT_.out (by kernel_rfl)) (fun _ _ _ h => h) (Or.inl ⟨by rfl, ?_⟩) ?_ ?_
             rotate_left
             ·intro w'
              go_simp
              with_reducible rfl
             rotate_left
             ·simp only [Act.put, List.setIfInBounds_toArray, List.set_cons_zero, List.set_cons_succ, i64_w, i32_w]
              rfl
             refine pure_ (i := 5) (N := some 87) (v := ?_) (a' := ?_) #[true, true, true, true, true, true, false, false, false, false, false, false, false, false, false, false, false, false, false, false, false, false, false, false, false, false, false, false, false] rfl rfl (any_of HT_.out (by kernel_rfl)) (fun _ _ _ h => h) (Or.inl ⟨by rfl, ?_⟩) ?_ ?_
             rotate_left
             ·intro w'
              go_simp
              with_reducible rfl
             rotate_left
             ·simp only [Act.put, List.setIfInBounds_toArray, List.set_cons_zero, List.set_cons_succ, i64_w, i32_w]
              rfl
             refine pure_ (i := 7) (N := some 89) (v := ?_) (a' := ?_) #[true, true, true, true, true, true, false, true, false, false, false, false, false, false, false, false, false, false, false, false, false, false, false, false, false, false, false, false, false] rfl rfl (any_of HT_.out (by kernel_rfl)) (fun _ _ _ h => h) (Or.inl ⟨by rfl, ?_⟩) ?_ ?_
             rotate_left
             ·intro w'
              go_simp
              with_reducible rfl
             rotate_left
             ·simp only [Act.put, List.setIfInBounds_toArray, List.set_cons_zero, List.set_cons_succ, i64_w, i32_w]
              rfl
             refine take_ (i := 6) (N := some 88) (v := ?_) (a' := ?_) #[true, true, true, true, true, true, true, true, false, false, false, false, false, false, false, false, false, false, false, false, false, false, false, false, false, false, false, false, false] rfl rfl (take_ofW HT_.out HW_.out (by kernel_rfl)) (fun _ _ _ h => h) (Or.inl ⟨by rfl, ?_⟩) hHeld ?_ ?_
             rotate_left
             ·rintro w' ⟨s0, s1, s2, s3⟩
              go_simp
              with_reducible rfl
             rotate_left
             ·simp only [Act.put, List.setIfInBounds_toArray, List.set_cons_zero, List.set_cons_succ, i64_w, i32_w]
              rfl
             refine pure_ (i := 8) (N := some 90) (v := ?_) (a' := ?_) #[true, true, true, true, true, true, true, true, true, false, false, false, false, false, false, false, false, false, false, false, false, false, false, false, false, false, false, false, false] rfl rfl (any_of HT_.out (by kernel_rfl)) (fun _ _ _ h => h) (Or.inl ⟨by rfl, ?_⟩) ?_ ?_
             rotate_left
             ·intro w'
              go_simp
              with_reducible rfl
             rotate_left
             ·simp only [Act.put, List.setIfInBounds_toArray, List.set_cons_zero, List.set_cons_succ, i64_w, i32_w]
              rfl
             refine pure_ (i := 9) (N := some 91) (v := ?_) (a' := ?_) #[true, true, true, true, true, true, true, true, true, true, false, false, false, false, false, false, false, false, false, false, false, false, false, false, false, false, false, false, false] rfl rfl (any_of HT_.out (by kernel_rfl)) (fun _ _ _ h => h) (Or.inl ⟨by rfl, ?_⟩) ?_ ?_
             rotate_left
             ·intro w'
              go_simp
              with_reducible rfl
             rotate_left
             ·simp only [Act.put, List.setIfInBounds_toArray, List.set_cons_zero, List.set_cons_succ, i64_w, i32_w]
              rfl
             refine pure_ (i := 10) (N := some 92) (v := ?_) (a' := ?_) #[true, true, true, true, true, true, true, true, true, true, true, false, false, false, false, false, false, false, false, false, false, false, false, false, false, false, false, false, false] rfl rfl (any_of HT_.out (by kernel_rfl)) (fun _ _ _ h => h) (Or.inl ⟨by rfl, ?_⟩) ?_ ?_
             rotate_left
             ·intro w'
              go_simp
              with_reducible rfl
             rotate_left
             ·simp only [Act.put, List.setIfInBounds_toArray, List.set_cons_zero, List.set_cons_succ, i64_w, i32_w]
              rfl
             refine pure_ (i := 11) (N := some 93) (v := ?_) (a' := ?_) #[true, true, true, true, true, true, true, true, true, true, true, true, false, false, false, false, false, false, false, false, false, false, false, false, false, false, false, false, false] rfl rfl (any_of HT_.out (by kernel_rfl)) (fun _ _ _ h => h) (Or.inl ⟨by rfl, ?_⟩) ?_ ?_
             rotate_left
             ·intro w'
              go_simp
              with_reducible rfl
             rotate_left
             ·simp only [Act.put, List.setIfInBounds_toArray, List.set_cons_zero, List.set_cons_succ, i64_w, i32_w]
              rfl
             refine pure_ (i := 12) (N := some 94) (v := ?_) (a' := ?_) #[true, true, true, true, true, true, true, true, true, true, true, true, true, false, false, false, false, false, false, false, false, false, false, false, false, false, false, false, false] rfl rfl (any_of HT_.out (by kernel_rfl)) (fun _ _ _ h => h) (Or.inl ⟨by rfl, ?_⟩) ?_ ?_
             rotate_left
             ·intro w'
              go_simp
              with_reducible rfl
             rotate_left
             ·simp only [Act.put, List.setIfInBounds_toArray, List.set_cons_zero, List.set_cons_succ, i64_w, i32_w]
              rfl
             refine pure_ (i := 14) (N := some 96) (v := ?_) (a' := ?_) #[true, true, true, true, true, true, true, true, true, true, true, true, true, false, true, false, false, false, false, false, false, false, false, false, false, false, false, false, false] rfl rfl (any_of HT_.out (by kernel_rfl)) (fun _ _ _ h => h) (Or.inl ⟨by rfl, ?_⟩) ?_ ?_
             rotate_left
             ·intro w'
              go_simp
              with_reducible rfl
             rotate_left
             ·simp only [Act.put, List.setIfInBounds_toArray, List.set_cons_zero, List.set_cons_succ, i64_w, i32_w]
              rfl
             refine pure_ (i := 16) (N := some 98) (v := ?_) (a' := ?_) #[true, true, true, true, true, true, true, true, true, true, true, true, true, false, true, false, true, false, false, false, false, false, false, false, false, false, false, false, false] rfl rfl (any_of HT_.out (by kernel_rfl)) (fun _ _ _ h => h) (Or.inl ⟨by rfl, ?_⟩) ?_ ?_
             rotate_left
             ·intro w'
              go_simp
              with_reducible rfl
             rotate_left
             ·simp only [Act.put, List.setIfInBounds_toArray, List.set_cons_zero, List.set_cons_succ, i64_w, i32_w]
              rfl
             refine pure_ (i := 19) (N := some 101) (v := ?_) (a' := ?_) #[true, true, true, true, true, true, true, true, true, true, true, true, true, false, true, false, true, false, false, true, false, false, false, false, false, false, false, false, false] rfl rfl (any_of HT_.out (by kernel_rfl)) (fun _ _ _ h => h) (Or.inl ⟨by rfl, ?_⟩) ?_ ?_
             rotate_left
             ·intro w'
              go_simp
              with_reducible rfl
             rotate_left
             ·simp only [Act.put, List.setIfInBounds_toArray, List.set_cons_zero, List.set_cons_succ, i64_w, i32_w]
              rfl
             refine pure_ (i := 20) (N := some 102) (v := ?_) (a' := ?_) #[true, true, true, true, true, true, true, true, true, true, true, true, true, false, true, false, true, false, false, true, true, false, false, false, false, false, false, false, false] rfl rfl (any_of HT_.out (by kernel_rfl)) (fun _ _ _ h => h) (Or.inl ⟨by rfl, ?_⟩) ?_ ?_
             rotate_left
             ·intro w'
              go_simp
              with_reducible rfl
             rotate_left
             ·simp only [Act.put, List.setIfInBounds_toArray, List.set_cons_zero, List.set_cons_succ, i64_w, i32_w]
              rfl
             refine pure_ (i := 22) (N := some 104) (v := ?_) (a' := ?_) #[true, true, true, true, true, true, true, true, true, true, true, true, true, false, true, false, true, false, false, true, true, false, true, false, false, false, false, false, false] rfl rfl (any_of HT_.out (by kernel_rfl)) (fun _ _ _ h => h) (Or.inl ⟨by rfl, ?_⟩) ?_ ?_
             rotate_left
             ·intro w'
              go_simp
              with_reducible rfl
             rotate_left
             ·simp only [Act.put, List.setIfInBounds_toArray, List.set_cons_zero, List.set_cons_succ, i64_w, i32_w]
              rfl
             refine pure_ (i := 24) (N := some 106) (v := ?_) (a' := ?_) #[true, true, true, true, true, true, true, true, true, true, true, true, true, false, true, false, true, false, false, true, true, false, true, false, true, false, false, false, false] rfl rfl (any_of HT_.out (by kernel_rfl)) (fun _ _ _ h => h) (Or.inl ⟨by rfl, ?_⟩) ?_ ?_
             rotate_left
             ·intro w'
              go_simp
              with_reducible rfl
             rotate_left
             ·simp only [Act.put, List.setIfInBounds_toArray, List.set_cons_zero, List.set_cons_succ, i64_w, i32_w]
              rfl
             refine take_ (i := 13) (N := some 95) (v := ?_) (a' := ?_) #[true, true, true, true, true, true, true, true, true, true, true, true, true, true, true, false, true, false, false, true, true, false, true, false, true, false, false, false, false] rfl rfl (take_ofW HT_.out HW_.out (by kernel_rfl)) (fun _ _ _ h => h) (Or.inl ⟨by rfl, ?_⟩) hHeld ?_ ?_
             rotate_left
             ·rintro w' ⟨s0, s1, s2, s3⟩
              go_simp
              with_reducible rfl
             rotate_left
             ·simp only [Act.put, List.setIfInBounds_toArray, List.set_cons_zero, List.set_cons_succ, i64_w, i32_w]
              rfl
             refine take_ (i := 15) (N := some 97) (v := ?_) (a' := ?_) #[true, true, true, true, true, true, true, true, true, true, true, true, true, true, true, true, true, false, false, true, true, false, true, false, true, false, false, false, false] rfl rfl (take_ofW HT_.out HW_.out (by kernel_rfl)) (fun _ _ _ h => h) (Or.inl ⟨by rfl, ?_⟩) hHeld ?_ ?_
             rotate_left
             ·rintro w' ⟨s0, s1, s2, s3⟩
              go_simp
              with_reducible rfl
             rotate_left
             ·simp only [Act.put, List.setIfInBounds_toArray, List.set_cons_zero, List.set_cons_succ, i64_w, i32_w]
              rfl
             refine take_ (i := 17) (N := some 99) (v := ?_) (a' := ?_) #[true, true, true, true, true, true, true, true, true, true, true, true, true, true, true, true, true, true, false, true, true, false, true, false, true, false, false, false, false] rfl rfl (take_ofW HT_.out HW_.out (by kernel_rfl)) (fun _ _ _ h => h) (Or.inl ⟨by rfl, ?_⟩) hHeld ?_ ?_
             rotate_left
             ·rintro w' ⟨s0, s1, s2, s3⟩
              go_simp
              with_reducible rfl
             rotate_left
             ·simp only [Act.put, List.setIfInBounds_toArray, List.set_cons_zero, List.set_cons_succ, i64_w, i32_w]
              rfl
             refine take_ (i := 21) (N := some 103) (v := ?_) (a' := ?_) #[true, true, true, true, true, true, true, true, true, true, true, true, true, true, true, true, true, true, false, true, true, true, true, false, true, false, false, false, false] rfl rfl (take_ofW HT_.out HW_.out (by kernel_rfl)) (fun _ _ _ h => h) (Or.inl ⟨by rfl, ?_⟩) hHeld ?_ ?_
             rotate_left
             ·rintro w' ⟨s0, s1, s2, s3⟩
              go_simp
              with_reducible rfl
             rotate_left
             ·simp only [Act.put, List.setIfInBounds_toArray, List.set_cons_zero, List.set_cons_succ, i64_w, i32_w]
              rfl
             refine take_ (i := 23) (N := some 105) (v := ?_) (a' := ?_) #[true, true, true, true, true, true, true, true, true, true, true, true, true, true, true, true, true, true, false, true, true, true, true, true, true, false, false, false, false] rfl rfl (take_ofW HT_.out HW_.out (by kernel_rfl)) (fun _ _ _ h => h) (Or.inl ⟨by rfl, ?_⟩) hHeld ?_ ?_
             rotate_left
             ·rintro w' ⟨s0, s1, s2, s3⟩
              go_simp
              with_reducible rfl
             rotate_left
             ·simp only [Act.put, List.setIfInBounds_toArray, List.set_cons_zero, List.set_cons_succ, i64_w, i32_w]
              rfl
             refine take_ (i := 25) (N := some 107) (v := ?_) (a' := ?_) #[true, true, true, true, true, true, true, true, true, true, true, true, true, true, true, true, true, true, false, true, true, true, true, true, true, true, false, false, false] rfl rfl (take_ofW HT_.out HW_.out (by kernel_rfl)) (fun _ _ _ h => h) (Or.inl ⟨by rfl, ?_⟩) hHeld ?_ ?_
             rotate_left
             ·rintro w' ⟨s0, s1, s2, s3⟩
              go_simp
              with_reducible rfl
             rotate_left
             ·simp only [Act.put, List.setIfInBounds_toArray, List.set_cons_zero, List.set_cons_succ, i64_w, i32_w]
              rfl
             refine one_ (i := 18) (N := some 100) #[true, true, true, true, true, true, true, true, true, true, true, true, true, true, true, true, true, true, true, true, true, true, true, true, true, true, false, false, false] rfl rfl (one_of HT_.out (by kernel_rfl)) (by decide) (fun K hK => ?_)
             refine goes_ Try.func26 (by kernel_rfl) rfl #[.slice Ao41 t578.length co41, .int .i64 ((rd_T55 t566 x13_2).f0), .int .i64 ((rd_T55 t566 x13_2).f1), .int .i64 ((rd_T55 t566 x13_2).f2)] (by rfl) rfl rfl bM ?_
             with_reducible refine (impl_BlkGet.calls k2 _ _ t578 ((rd_T55 t566 x13_2).f0) ((rd_T55 t566 x13_2).f1) ((rd_T55 t566 x13_2).f2) t588 _ ?side1 ?side2 A27.out).mono ?_
             (case side1 => exact pC (Kd.R_reads' HO_11.out).2.2)
             (case side2 => exact (Kd.R_reads' HO_11.out).2.1)
             rintro e w42 ⟨rfl, hb⟩
             refine ⟨_, rfl, ?_⟩
             have n0_ := Aside0.mk (Kd.R_below (pR HO_3.out) hb)
             have n1_ := Aside0.mk (Kd.R_below (pR HO_11.out) hb)
             have n2_ := Aside0.mk (blk_below (g := gb587) (o := .cells #[.int .i64 ((rd_T55 t566 x13_2).f0), .int .i64 ((rd_T55 t566 x13_2).f1), .int .i64 ((rd_T55 t566 x13_2).f2), .int .i64 ((rd_T55 t566 x13_2).f3)] 55 (0, 0)) (pK BK587.out) hb)
             have n3_ := Aside0.mk (below_step (by repeat (first | (with_reducible first | exact HB.out | apply below_alloc | apply pw_below_drewN | apply below_drew1 | refine below_set ?_ GE587.out) | exact HB.out)) hb)
             clear HO_3
             clear HO_11
             clear BK587
             clear HB
             have HO_3 := n0_
             have HO_11 := n1_
             have BK587 := n2_
             have HB := n3_
             clear n0_ n1_ n2_ n3_
             (try clear hb)
             (try clear hb2)
             (try clear hk)
             (try clear hi)
             refine hK.out _ _ ⟨(blk_cell BK587.out 0).trans rfl, (blk_cell BK587.out 1).trans rfl, (blk_cell BK587.out 2).trans rfl, (blk_cell BK587.out 3).trans rfl⟩ (fun hHeld => ?_)
             clear hK K
             refine norm_ (a' := ?_) ?_ ?_
             rotate_left
             ·show Act.put _ (some 100) _ = _
              simp only [Act.put, List.setIfInBounds_toArray, List.set_cons_zero, List.set_cons_succ, i64_w, i32_w]
              rfl
             refine one_ (i := 26) (N := some 108) #[true, true, true, true, true, true, true, true, true, true, true, true, true, true, true, true, true, true, true, true, true, true, true, true, true, true, true, false, false] rfl rfl (one_of HT_.out (by kernel_rfl)) (by decide) (fun K hK => ?_)
             refine goes_ Try.func26 (by kernel_rfl) rfl #[.slice (some ad586) t566.length co9, .int .i64 ((rd_T55 t566 x13_2).f0), .int .i64 ((rd_T55 t566 x13_2).f1), .int .i64 ((rd_T55 t566 x13_2).f2)] (by rfl) rfl rfl bM ?_
             with_reducible refine (impl_BlkGet.calls k2 _ _ t566 ((rd_T55 t566 x13_2).f0) ((rd_T55 t566 x13_2).f1) ((rd_T55 t566 x13_2).f2) t589 _ ?side1 ?side2 A28.out).mono ?_
             (case side1 => exact pC (Kd.R_reads' HO_3.out).2.2)
             (case side2 => exact (Kd.R_reads' HO_3.out).2.1)
             rintro e w43 ⟨rfl, hb⟩
             refine ⟨_, rfl, ?_⟩
             have n0_ := Aside0.mk (Kd.R_below (pR HO_3.out) hb)
             have n1_ := Aside0.mk (Kd.R_below (pR HO_11.out) hb)
             have n2_ := Aside0.mk (blk_below (g := gb587) (o := .cells #[.int .i64 ((rd_T55 t566 x13_2).f0), .int .i64 ((rd_T55 t566 x13_2).f1), .int .i64 ((rd_T55 t566 x13_2).f2), .int .i64 ((rd_T55 t566 x13_2).f3)] 55 (0, 0)) (pK BK587.out) hb)
             have n3_ := Aside0.mk (below_step (by repeat (first | (with_reducible first | exact HB.out | apply below_alloc | apply pw_below_drewN | apply below_drew1 | refine below_set ?_ GE587.out) | exact HB.out)) hb)
             clear HO_3
             clear HO_11
             clear BK587
             clear HB
             have HO_3 := n0_
             have HO_11 := n1_
             have BK587 := n2_
             have HB := n3_
             clear n0_ n1_ n2_ n3_
             (try clear hb)
             (try clear hb2)
             (try clear hk)
             (try clear hi)
             refine hK.out _ _ ⟨(blk_cell BK587.out 0).trans rfl, (blk_cell BK587.out 1).trans rfl, (blk_cell BK587.out 2).trans rfl, (blk_cell BK587.out 3).trans rfl⟩ (fun hHeld => ?_)
             clear hK K
             refine norm_ (a' := ?_) ?_ ?_
             rotate_left
             ·show Act.put _ (some 108) _ = _
              simp only [Act.put, List.setIfInBounds_toArray, List.set_cons_zero, List.set_cons_succ, i64_w, i32_w]
              rfl
             refine pure_ (i := 27) (N := some 109) (v := ?_) (a' := ?_) #[true, true, true, true, true, true, true, true, true, true, true, true, true, true, true, true, true, true, true, true, true, true, true, true, true, true, true, true, false] rfl rfl (any_of HT_.out (by kernel_rfl)) (fun _ _ _ h => h) (Or.inl ⟨by rfl, ?_⟩) ?_ ?_
             rotate_left
             ·intro w'
              go_simp
              with_reducible rfl
             rotate_left
             ·simp only [Act.put, List.setIfInBounds_toArray, List.set_cons_zero, List.set_cons_succ, i64_w, i32_w]
              rfl
             refine pure_ (i := 28) (N := some 110) (v := ?_) (a' := ?_) #[true, true, true, true, true, true, true, true, true, true, true, true, true, true, true, true, true, true, true, true, true, true, true, true, true, true, true, true, true] rfl rfl (any_of HT_.out (by kernel_rfl)) (fun _ _ _ h => h) (Or.inl ⟨by rfl, ?_⟩) ?_ ?_
             rotate_left
             ·intro w'
              go_simp
              with_reducible rfl
             rotate_left
             ·simp only [Act.put, List.setIfInBounds_toArray, List.set_cons_zero, List.set_cons_succ, i64_w, i32_w]
              rfl
             refine done_ (done_of HT_.out (by kernel_rfl)) ?_
             try go_wp2
             go_ret
             exact ⟨by first | rfl | (simp [errW_none, errW_some] <;> rfl) | (simp [*, errW_none, errW_some] <;> rfl), by repeat (first | (with_reducible first | exact HB.out | apply below_alloc | apply pw_below_drewN | apply below_drew1 | refine below_set ?_ GE587.out) | exact HB.out)⟩
          ·rw [if_neg c21] at H
           have c21b0 : (((rd_T55 t566 x13_2).f0) == t567) = false := beq_eq_false_iff_ne.mpr c21
           have c21b1 : (((rd_T55 t566 x13_2).f0) != t567) = true := bne_iff_ne.mpr c21
           replace H := Option.bind_eq_some_iff.mp H
           obtain ⟨t590, A440, H⟩ := H
           replace H : ((impl_BlkGet.f k2 t566 ((rd_T55 t566 x13_2).f0) ((rd_T55 t566 x13_2).f1) ((rd_T55 t566 x13_2).f2)).bind fun t591 => (if t590 = t591 then (laws_FnBlkPut.l0 k2 t566 t567 t568 t569 t570 t578 (wrap64 (x13_2 + 1))) else (some false))) = some r := H
           have A44 := Aside0.mk A440
           clear A440
           replace H := Option.bind_eq_some_iff.mp H
           obtain ⟨t591, A450, H⟩ := H
           replace H : (if t590 = t591 then (laws_FnBlkPut.l0 k2 t566 t567 t568 t569 t570 t578 (wrap64 (x13_2 + 1))) else (some false)) = some r := H
           have A45 := Aside0.mk A450
           clear A450
           by_cases c46 : t590 = t591
           ·rw [if_pos c46] at H
            have c46b0 : (t590 == t591) = true := beq_iff_eq.mpr c46
            have c46b1 : (t590 != t591) = false := bne_eq_false_iff_eq.mpr c46
            clear c46
            have H' := Aside0.mk H
            clear H
            have p586 : 0 ≤ (x13_2 : Int) := of_decide_eq_true bA
            have q586 : x13_2 < (t566.length : Int) := of_decide_eq_true bA
            obtain ⟨ad586, e586, hx586_0, hx586_1, hx586_2, hx586_3⟩ := at_T55 (Kd.R_reads' HO_3.out).2.2 x13_2 p586 q586
            cases e586
            replace p586 := eq_true p586
            replace q586 := eq_true q586
            try go_wp2_with (first | ((with_reducible refine gate_dst (N := 14) rfl ?_); (try (refine gate_guard (by rfl) ?_; dsimp only)); refine box_event ?hg (N := 14) ?hd (cs := #[.int .i64 0, .int .i64 0, .int .i64 0, .int .i64 0]) (t := 55) ?hr ?_; (case hd => rfl); (case hg => rfl); (case hr => first | (go_simp; done) | (go_simp; rfl)); intro gb587 hg w47 hbox hb; have n0_ := Aside0.mk (Kd.R_below (Kd.R_elderB (pR HO_3.out) gb587 (Nat.le_of_eq hg.symm)) hb); have n1_ := Aside0.mk (Kd.R_below (Kd.R_elderB (pR HO_11.out) gb587 (Nat.le_of_eq hg.symm)) hb); have n2_ := Aside0.mk (below_step (pB HB.out) hb); have n3_ := Aside0.mk (hbox); have n4_ := Aside0.mk ((by rw [hg]; exact (below_size (pB HB.out)) : w.heap.size ≤ gb587)); have n5_ := Aside0.mk ((by rw [hg]; exact (below_size (pB HB.out)) : w.heap.size ≤ gb587)); clear HO_3; clear HO_11; clear HB; have HO_3 := n0_; have HO_11 := n1_; have HB := n2_; have BK587 := n3_; have GW587 := n4_; have GE587 := n5_; clear n0_ n1_ n2_ n3_ n4_ n5_; clear hb hbox hg; have hcz48_0 : w47.cell? ⟨gb587, 0, none⟩ = some (.int .i64 0) := (blk_cell BK587.out 0).trans rfl; have hcz48_1 : w47.cell? ⟨gb587, 1, none⟩ = some (.int .i64 0) := (blk_cell BK587.out 1).trans rfl; have hcz48_2 : w47.cell? ⟨gb587, 2, none⟩ = some (.int .i64 0) := (blk_cell BK587.out 2).trans rfl; have hcz48_3 : w47.cell? ⟨gb587, 3, none⟩ = some (.int .i64 0) := (blk_cell BK587.out 3).trans rfl; have hfz48_0 := blk_frozen BK587.out 0; have hfz48_1 := blk_frozen BK587.out 1; have hfz48_2 := blk_frozen BK587.out 2; have hfz48_3 := blk_frozen BK587.out 3))
            have n0_ : Aside0 (Kd.R k55 55 ((((w47.setCell ⟨gb587, 0, none⟩ (.int .i64 ((rd_T55 t566 x13_2).f0))).setCell ⟨gb587, 1, none⟩ (.int .i64 ((rd_T55 t566 x13_2).f1))).setCell ⟨gb587, 2, none⟩ (.int .i64 ((rd_T55 t566 x13_2).f2))).setCell ⟨gb587, 3, none⟩ (.int .i64 ((rd_T55 t566 x13_2).f3))) w.heap.size (fun k_ => some k_ ≠ (v580 : Value).ownBlock ∧ k_ ≠ gb587) (.slice (some ad586) t566.length co9) t566) := ⟨pR (Kd.R_mono (Kd.R_far (p := ⟨gb587, 3, none⟩) (Kd.R_far (p := ⟨gb587, 2, none⟩) (Kd.R_far (p := ⟨gb587, 1, none⟩) (Kd.R_far (p := ⟨gb587, 0, none⟩) (Kd.R_mono HO_3.out (fun k_ hk => (⟨hk, hk.2⟩ : _ ∧ k_ ≠ gb587))) (fun _ hk => hk.2) (.int .i64 ((rd_T55 t566 x13_2).f0))) (fun _ hk => hk.2) (.int .i64 ((rd_T55 t566 x13_2).f1))) (fun _ hk => hk.2) (.int .i64 ((rd_T55 t566 x13_2).f2))) (fun _ hk => hk.2) (.int .i64 ((rd_T55 t566 x13_2).f3))) (fun _ hk => ⟨hk.1.1, hk.1.2⟩))⟩
            have n1_ : Aside0 (Kd.R k55 55 ((((w47.setCell ⟨gb587, 0, none⟩ (.int .i64 ((rd_T55 t566 x13_2).f0))).setCell ⟨gb587, 1, none⟩ (.int .i64 ((rd_T55 t566 x13_2).f1))).setCell ⟨gb587, 2, none⟩ (.int .i64 ((rd_T55 t566 x13_2).f2))).setCell ⟨gb587, 3, none⟩ (.int .i64 ((rd_T55 t566 x13_2).f3))) w.heap.size (fun k_ => some k_ ≠ (.slice (some ad586) t566.length co9 : Value).ownBlock ∧ k_ ≠ gb587) v580 t578) := ⟨pR (Kd.R_mono (Kd.R_far (p := ⟨gb587, 3, none⟩) (Kd.R_far (p := ⟨gb587, 2, none⟩) (Kd.R_far (p := ⟨gb587, 1, none⟩) (Kd.R_far (p := ⟨gb587, 0, none⟩) (Kd.R_mono HO_11.out (fun k_ hk => (⟨hk, hk.2⟩ : _ ∧ k_ ≠ gb587))) (fun _ hk => hk.2) (.int .i64 ((rd_T55 t566 x13_2).f0))) (fun _ hk => hk.2) (.int .i64 ((rd_T55 t566 x13_2).f1))) (fun _ hk => hk.2) (.int .i64 ((rd_T55 t566 x13_2).f2))) (fun _ hk => hk.2) (.int .i64 ((rd_T55 t566 x13_2).f3))) (fun _ hk => ⟨hk.1.1, hk.1.2⟩))⟩
            have n2_ : Aside0 (((((w47.setCell ⟨gb587, 0, none⟩ (.int .i64 ((rd_T55 t566 x13_2).f0))).setCell ⟨gb587, 1, none⟩ (.int .i64 ((rd_T55 t566 x13_2).f1))).setCell ⟨gb587, 2, none⟩ (.int .i64 ((rd_T55 t566 x13_2).f2))).setCell ⟨gb587, 3, none⟩ (.int .i64 ((rd_T55 t566 x13_2).f3))).heap[gb587]? = some (.cells #[.int .i64 ((rd_T55 t566 x13_2).f0), .int .i64 ((rd_T55 t566 x13_2).f1), .int .i64 ((rd_T55 t566 x13_2).f2), .int .i64 ((rd_T55 t566 x13_2).f3)] 55 (0, 0))) := ⟨by (with_reducible repeat (first | refine blk_drewN ?_ _ | refine blk_drew ?_ | refine blk_alloc ?_ _)); refine blk_put (cs := #[.int .i64 ((rd_T55 t566 x13_2).f0), .int .i64 ((rd_T55 t566 x13_2).f1), .int .i64 ((rd_T55 t566 x13_2).f2), .int .i64 0]) ?_ 3 _ rfl; (with_reducible repeat (first | refine blk_drewN ?_ _ | refine blk_drew ?_ | refine blk_alloc ?_ _)); refine blk_put (cs := #[.int .i64 ((rd_T55 t566 x13_2).f0), .int .i64 ((rd_T55 t566 x13_2).f1), .int .i64 0, .int .i64 0]) ?_ 2 _ rfl; (with_reducible repeat (first | refine blk_drewN ?_ _ | refine blk_drew ?_ | refine blk_alloc ?_ _)); refine blk_put (cs := #[.int .i64 ((rd_T55 t566 x13_2).f0), .int .i64 0, .int .i64 0, .int .i64 0]) ?_ 1 _ rfl; (with_reducible repeat (first | refine blk_drewN ?_ _ | refine blk_drew ?_ | refine blk_alloc ?_ _)); refine blk_put (cs := #[.int .i64 0, .int .i64 0, .int .i64 0, .int .i64 0]) ?_ 0 _ rfl; (with_reducible repeat (first | refine blk_drewN ?_ _ | refine blk_drew ?_ | refine blk_alloc ?_ _)); exact BK587.out⟩
            have n3_ : Aside0 (Below w.heap.size w ((((w47.setCell ⟨gb587, 0, none⟩ (.int .i64 ((rd_T55 t566 x13_2).f0))).setCell ⟨gb587, 1, none⟩ (.int .i64 ((rd_T55 t566 x13_2).f1))).setCell ⟨gb587, 2, none⟩ (.int .i64 ((rd_T55 t566 x13_2).f2))).setCell ⟨gb587, 3, none⟩ (.int .i64 ((rd_T55 t566 x13_2).f3)))) := ⟨by repeat (first | (with_reducible first | exact HB.out | apply below_alloc | apply pw_below_drewN | apply below_drew1 | refine below_set ?_ GE587.out) | exact HB.out)⟩
            (try clear HO_3)
            (try clear HO_11)
            (try clear BK587)
            (try clear HB)
            generalize ((((w47.setCell ⟨gb587, 0, none⟩ (.int .i64 ((rd_T55 t566 x13_2).f0))).setCell ⟨gb587, 1, none⟩ (.int .i64 ((rd_T55 t566 x13_2).f1))).setCell ⟨gb587, 2, none⟩ (.int .i64 ((rd_T55 t566 x13_2).f2))).setCell ⟨gb587, 3, none⟩ (.int .i64 ((rd_T55 t566 x13_2).f3))) = w49 at n0_ n1_ n2_ n3_ ⊢
            have HO_3 := n0_
            have HO_11 := n1_
            have BK587 := n2_
            have HB := n3_
            clear n0_ n1_ n2_ n3_
            have n0_ := Aside0.mk (Kd.R_drew HO_3.out)
            have n1_ := Aside0.mk (Kd.R_drew HO_11.out)
            have n2_ := Aside0.mk (blk_drew BK587.out)
            have n3_ := Aside0.mk (below_drew1 HB.out)
            clear HO_3
            clear HO_11
            clear BK587
            clear HB
            have HO_3 := n0_
            have HO_11 := n1_
            have BK587 := n2_
            have HB := n3_
            clear n0_ n1_ n2_ n3_
            obtain ⟨Ao51, co51, eo51⟩ := Kd.R_slice HO_11.out
            (first | subst eo51 | (injection eo51 with f1_ f2_ f3_; have f4_ := f1_.symm; have f5_ := f3_.symm; clear f1_ f2_ f3_; subst f4_; subst f5_))
            refine start_ (n := 29) (S := fun w' => w'.cell? ⟨gb587, 0, none⟩ = some (.int .i64 ((rd_T55 t566 x13_2).f0)) ∧ w'.cell? ⟨gb587, 1, none⟩ = some (.int .i64 ((rd_T55 t566 x13_2).f1)) ∧ w'.cell? ⟨gb587, 2, none⟩ = some (.int .i64 ((rd_T55 t566 x13_2).f2)) ∧ w'.cell? ⟨gb587, 3, none⟩ = some (.int .i64 ((rd_T55 t566 x13_2).f3))) (ds := []) #[false, false, false, false, false, false, false, false, false, false, false, false, false, false, false, false, false, false, false, false, false, false, false, false, false, false, false, false, false] (by kernel_rfl) rfl rfl ⟨(blk_cell BK587.out 0).trans rfl, (blk_cell BK587.out 1).trans rfl, (blk_cell BK587.out 2).trans rfl, (blk_cell BK587.out 3).trans rfl⟩ (fun hHeld => ?_); refine with_tabW laws_FnBlkPut.tab15 laws_FnBlkPut.bits15 (fun HT_ HW_ => ?_)
            generalize w49.drew = w50 at HO_3 HO_11 BK587 HB hHeld ⊢
            refine pure_ (i := 0) (N := some 82) (v := ?_) (a' := ?_) #[true, false, false, false, false, false, false, false, false, false, false, false, false, false, false, false, false, false, false, false, false, false, false, false, false, false, false, false, false] rfl rfl (any_of HT_.out (by kernel_rfl)) (fun _ _ _ h => h) (Or.inl ⟨by rfl, ?_⟩) ?_ ?_
            rotate_left
            ·intro w'
             go_simp
             with_reducible rfl
            rotate_left
            ·simp only [Act.put, List.setIfInBounds_toArray, List.set_cons_zero, List.set_cons_succ, i64_w, i32_w]
             rfl
            refine pure_ (i := 2) (N := some 84) (v := ?_) (a' := ?_) #[true, false, true, false, false, false, false, false, false, false, false, false, false, false, false, false, false, false, false, false, false, false, false, false, false, false, false, false, false] rfl rfl (any_of HT_.out (by kernel_rfl)) (fun _ _ _ h => h) (Or.inl ⟨by rfl, ?_⟩) ?_ ?_
            rotate_left
            ·intro w'
             go_simp
             with_reducible rfl
            rotate_left
            ·simp only [Act.put, List.setIfInBounds_toArray, List.set_cons_zero, List.set_cons_succ, i64_w, i32_w]
             rfl
            refine take_ (i := 1) (N := some 83) (v := ?_) (a' := ?_) #[true, true, true, false, false, false, false, false, false, false, false, false, false, false, false, false, false, false, false, false, false, false, false, false, false, false, false, false, false] rfl rfl (take_ofW HT_.out HW_.out (by kernel_rfl)) (fun _ _ _ h => h) (Or.inl ⟨by rfl, ?_⟩) hHeld ?_ ?_
            rotate_left
            ·rintro w' ⟨s0, s1, s2, s3⟩
             go_simp
             with_reducible rfl
            rotate_left
            ·simp only [Act.put, List.setIfInBounds_toArray, List.set_cons_zero, List.set_cons_succ, i64_w, i32_w]
             rfl
            refine pure_ (i := 3) (N := some 85) (v := ?_) (a' := ?_) #[true, true, true, true, false, false, false, false, false, false, false, false, false, false, false, false, false, false, false, false, false, false, false, false, false, false, false, false, false] rfl rfl (any_of HT_.out (by kernel_rfl)) (fun _ _ _ h => h) (Or.inl ⟨by rfl, ?_⟩) ?_ ?_
            rotate_left
            ·intro w'
             go_simp
             with_reducible rfl
            rotate_left
            ·simp only [Act.put, List.setIfInBounds_toArray, List.set_cons_zero, List.set_cons_succ, i64_w, i32_w]
             rfl
            refine pure_ (i := 4) (N := some 86) (v := ?_) (a' := ?_) #[true, true, true, true, true, false, false, false, false, false, false, false, false, false, false, false, false, false, false, false, false, false, false, false, false, false, false, false, false] rfl rfl (any_of HT_.out (by kernel_rfl)) (fun _ _ _ h => h) (Or.inl ⟨by rfl, ?_⟩) ?_ ?_
            rotate_left
            ·intro w'
             go_simp
             with_reducible rfl
            rotate_left
            ·simp only [Act.put, List.setIfInBounds_toArray, List.set_cons_zero, List.set_cons_succ, i64_w, i32_w]
             rfl
            refine pure_ (i := 5) (N := some 87) (v := undef) (a' := ?_) #[true, true, true, true, true, true, false, false, false, false, false, false, false, false, false, false, false, false, false, false, false, false, false, false, false, false, false, false, false] rfl rfl (any_of HT_.out (by kernel_rfl)) (fun _ _ _ h => h) (Or.inr ⟨by rfl, rfl⟩) ?_ ?_
            rotate_left
            ·simp only [Act.put, List.setIfInBounds_toArray, List.set_cons_zero, List.set_cons_succ, i64_w, i32_w]
             rfl
            refine pure_ (i := 6) (N := some 88) (v := undef) (a' := ?_) #[true, true, true, true, true, true, true, false, false, false, false, false, false, false, false, false, false, false, false, false, false, false, false, false, false, false, false, false, false] rfl rfl (any_of HT_.out (by kernel_rfl)) (fun _ _ _ h => h) (Or.inr ⟨by rfl, rfl⟩) ?_ ?_
            rotate_left
            ·simp only [Act.put, List.setIfInBounds_toArray, List.set_cons_zero, List.set_cons_succ, i64_w, i32_w]
             rfl
            refine pure_ (i := 7) (N := some 89) (v := undef) (a' := ?_) #[true, true, true, true, true, true, true, true, false, false, false, false, false, false, false, false, false, false, false, false, false, false, false, false, false, false, false, false, false] rfl rfl (any_of HT_.out (by kernel_rfl)) (fun _ _ _ h => h) (Or.inr ⟨by rfl, rfl⟩) ?_ ?_
            rotate_left
            ·simp only [Act.put, List.setIfInBounds_toArray, List.set_cons_zero, List.set_cons_succ, i64_w, i32_w]
             rfl
            refine pure_ (i := 8) (N := some 90) (v := undef) (a' := ?_) #[true, true, true, true, true, true, true, true, true, false, false, false, false, false, false, false, false, false, false, false, false, false, false, false, false, false, false, false, false] rfl rfl (any_of HT_.out (by kernel_rfl)) (fun _ _ _ h => h) (Or.inr ⟨by rfl, rfl⟩) ?_ ?_
            rotate_left
            ·simp only [Act.put, List.setIfInBounds_toArray, List.set_cons_zero, List.set_cons_succ, i64_w, i32_w]
             rfl
            refine pure_ (i := 9) (N := some 91) (v := ?_) (a' := ?_) #[true, true, true, true, true, true, true, true, true, true, false, false, false, false, false, false, false, false, false, false, false, false, false, false, false, false, false, false, false] rfl rfl (any_of HT_.out (by kernel_rfl)) (fun _ _ _ h => h) (Or.inl ⟨by rfl, ?_⟩) ?_ ?_
            rotate_left
            ·intro w'
             go_simp
             with_reducible rfl
            rotate_left
            ·simp only [Act.put, List.setIfInBounds_toArray, List.set_cons_zero, List.set_cons_succ, i64_w, i32_w]
             rfl
            refine pure_ (i := 10) (N := some 92) (v := ?_) (a' := ?_) #[true, true, true, true, true, true, true, true, true, true, true, false, false, false, false, false, false, false, false, false, false, false, false, false, false, false, false, false, false] rfl rfl (any_of HT_.out (by kernel_rfl)) (fun _ _ _ h => h) (Or.inl ⟨by rfl, ?_⟩) ?_ ?_
            rotate_left
            ·intro w'
             go_simp
             with_reducible rfl
            rotate_left
            ·simp only [Act.put, List.setIfInBounds_toArray, List.set_cons_zero, List.set_cons_succ, i64_w, i32_w]
             rfl
            refine pure_ (i := 11) (N := some 93) (v := ?_) (a' := ?_) #[true, true, true, true, true, true, true, true, true, true, true, true, false, false, false, false, false, false, false, false, false, false, false, false, false, false, false, false, false] rfl rfl (any_of HT_.out (by kernel_rfl)) (fun _ _ _ h => h) (Or.inl ⟨by rfl, ?_⟩) ?_ ?_
            rotate_left
            ·intro w'
             go_simp
             with_reducible rfl
            rotate_left
            ·simp only [Act.put, List.setIfInBounds_toArray, List.set_cons_zero, List.set_cons_succ, i64_w, i32_w]
             rfl
            refine pure_ (i := 12) (N := some 94) (v := ?_) (a' := ?_) #[true, true, true, true, true, true, true, true, true, true, true, true, true, false, false, false, false, false, false, false, false, false, false, false, false, false, false, false, false] rfl rfl (any_of HT_.out (by kernel_rfl)) (fun _ _ _ h => h) (Or.inl ⟨by rfl, ?_⟩) ?_ ?_
            rotate_left
            ·intro w'
             go_simp
             with_reducible rfl
            rotate_left
            ·simp only [Act.put, List.setIfInBounds_toArray, List.set_cons_zero, List.set_cons_succ, i64_w, i32_w]
             rfl
            refine pure_ (i := 14) (N := some 96) (v := ?_) (a' := ?_) #[true, true, true, true, true, true, true, true, true, true, true, true, true, false, true, false, false, false, false, false, false, false, false, false, false, false, false, false, false] rfl rfl (any_of HT_.out (by kernel_rfl)) (fun _ _ _ h => h) (Or.inl ⟨by rfl, ?_⟩) ?_ ?_
            rotate_left
            ·intro w'
             go_simp
             with_reducible rfl
            rotate_left
            ·simp only [Act.put, List.setIfInBounds_toArray, List.set_cons_zero, List.set_cons_succ, i64_w, i32_w]
             rfl
            refine pure_ (i := 16) (N := some 98) (v := ?_) (a' := ?_) #[true, true, true, true, true, true, true, true, true, true, true, true, true, false, true, false, true, false, false, false, false, false, false, false, false, false, false, false, false] rfl rfl (any_of HT_.out (by kernel_rfl)) (fun _ _ _ h => h) (Or.inl ⟨by rfl, ?_⟩) ?_ ?_
            rotate_left
            ·intro w'
             go_simp
             with_reducible rfl
            rotate_left
            ·simp only [Act.put, List.setIfInBounds_toArray, List.set_cons_zero, List.set_cons_succ, i64_w, i32_w]
             rfl
            refine pure_ (i := 19) (N := some 101) (v := ?_) (a' := ?_) #[true, true, true, true, true, true, true, true, true, true, true, true, true, false, true, false, true, false, false, true, false, false, false, false, false, false, false, false, false] rfl rfl (any_of HT_.out (by kernel_rfl)) (fun _ _ _ h => h) (Or.inl ⟨by rfl, ?_⟩) ?_ ?_
            rotate_left
            ·intro w'
             go_simp
             with_reducible rfl
            rotate_left
            ·simp only [Act.put, List.setIfInBounds_toArray, List.set_cons_zero, List.set_cons_succ, i64_w, i32_w]
             rfl
            refine pure_ (i := 20) (N := some 102) (v := ?_) (a' := ?_) #[true, true, true, true, true, true, true, true, true, true, true, true, true, false, true, false, true, false, false, true, true, false, false, false, false, false, false, false, false] rfl rfl (any_of HT_.out (by kernel_rfl)) (fun _ _ _ h => h) (Or.inl ⟨by rfl, ?_⟩) ?_ ?_
            rotate_left
            ·intro w'
             go_simp
             with_reducible rfl
            rotate_left
            ·simp only [Act.put, List.setIfInBounds_toArray, List.set_cons_zero, List.set_cons_succ, i64_w, i32_w]
             rfl
            refine pure_ (i := 22) (N := some 104) (v := ?_) (a' := ?_) #[true, true, true, true, true, true, true, true, true, true, true, true, true, false, true, false, true, false, false, true, true, false, true, false, false, false, false, false, false] rfl rfl (any_of HT_.out (by kernel_rfl)) (fun _ _ _ h => h) (Or.inl ⟨by rfl, ?_⟩) ?_ ?_
            rotate_left
            ·intro w'
             go_simp
             with_reducible rfl
            rotate_left
            ·simp only [Act.put, List.setIfInBounds_toArray, List.set_cons_zero, List.set_cons_succ, i64_w, i32_w]
             rfl
            refine pure_ (i := 24) (N := some 106) (v := ?_) (a' := ?_) #[true, true, true, true, true, true, true, true, true, true, true, true, true, false, true, false, true, false, false, true, true, false, true, false, true, false, false, false, false] rfl rfl (any_of HT_.out (by kernel_rfl)) (fun _ _ _ h => h) (Or.inl ⟨by rfl, ?_⟩) ?_ ?_
            rotate_left
            ·intro w'
             go_simp
             with_reducible rfl
            rotate_left
            ·simp only [Act.put, List.setIfInBounds_toArray, List.set_cons_zero, List.set_cons_succ, i64_w, i32_w]
             rfl
            refine take_ (i := 13) (N := some 95) (v := ?_) (a' := ?_) #[true, true, true, true, true, true, true, true, true, true, true, true, true, true, true, false, true, false, false, true, true, false, true, false, true, false, false, false, false] rfl rfl (take_ofW HT_.out HW_.out (by kernel_rfl)) (fun _ _ _ h => h) (Or.inl ⟨by rfl, ?_⟩) hHeld ?_ ?_
            rotate_left
            ·rintro w' ⟨s0, s1, s2, s3⟩
             go_simp
             with_reducible rfl
            rotate_left
            ·simp only [Act.put, List.setIfInBounds_toArray, List.set_cons_zero, List.set_cons_succ, i64_w, i32_w]
             rfl
            refine take_ (i := 15) (N := some 97) (v := ?_) (a' := ?_) #[true, true, true, true, true, true, true, true, true, true, true, true, true, true, true, true, true, false, false, true, true, false, true, false, true, false, false, false, false] rfl rfl (take_ofW HT_.out HW_.out (by kernel_rfl)) (fun _ _ _ h => h) (Or.inl ⟨by rfl, ?_⟩) hHeld ?_ ?_
            rotate_left
            ·rintro w' ⟨s0, s1, s2, s3⟩
             go_simp
             with_reducible rfl
            rotate_left
            ·simp only [Act.put, List.setIfInBounds_toArray, List.set_cons_zero, List.set_cons_succ, i64_w, i32_w]
             rfl
            refine take_ (i := 17) (N := some 99) (v := ?_) (a' := ?_) #[true, true, true, true, true, true, true, true, true, true, true, true, true, true, true, true, true, true, false, true, true, false, true, false, true, false, false, false, false] rfl rfl (take_ofW HT_.out HW_.out (by kernel_rfl)) (fun _ _ _ h => h) (Or.inl ⟨by rfl, ?_⟩) hHeld ?_ ?_
            rotate_left
            ·rintro w' ⟨s0, s1, s2, s3⟩
             go_simp
             with_reducible rfl
            rotate_left
            ·simp only [Act.put, List.setIfInBounds_toArray, List.set_cons_zero, List.set_cons_succ, i64_w, i32_w]
             rfl
            refine take_ (i := 21) (N := some 103) (v := ?_) (a' := ?_) #[true, true, true, true, true, true, true, true, true, true, true, true, true, true, true, true, true, true, false, true, true, true, true, false, true, false, false, false, false] rfl rfl (take_ofW HT_.out HW_.out (by kernel_rfl)) (fun _ _ _ h => h) (Or.inl ⟨by rfl, ?_⟩) hHeld ?_ ?_
            rotate_left
            ·rintro w' ⟨s0, s1, s2, s3⟩
             go_simp
             with_reducible rfl
            rotate_left
            ·simp only [Act.put, List.setIfInBounds_toArray, List.set_cons_zero, List.set_cons_succ, i64_w, i32_w]
             rfl
            refine take_ (i := 23) (N := some 105) (v := ?_) (a' := ?_) #[true, true, true, true, true, true, true, true, true, true, true, true, true, true, true, true, true, true, false, true, true, true, true, true, true, false, false, false, false] rfl rfl (take_ofW HT_.out HW_.out (by kernel_rfl)) (fun _ _ _ h => h) (Or.inl ⟨by rfl, ?_⟩) hHeld ?_ ?_
            rotate_left
            ·rintro w' ⟨s0, s1, s2, s3⟩
             go_simp
             with_reducible rfl
            rotate_left
            ·simp only [Act.put, List.setIfInBounds_toArray, List.set_cons_zero, List.set_cons_succ, i64_w, i32_w]
             rfl
            refine take_ (i := 25) (N := some 107) (v := ?_) (a' := ?_) #[true, true, true, true, true, true, true, true, true, true, true, true, true, true, true, true, true, true, false, true, true, true, true, true, true, true, false, false, false] rfl rfl (take_ofW HT_.out HW_.out (by kernel_rfl)) (fun _ _ _ h => h) (Or.inl ⟨by rfl, ?_⟩) hHeld ?_ ?_
            rotate_left
            ·rintro w' ⟨s0, s1, s2, s3⟩
             go_simp
             with_reducible rfl
            rotate_left
            ·simp only [Act.put, List.setIfInBounds_toArray, List.set_cons_zero, List.set_cons_succ, i64_w, i32_w]
             rfl
            refine one_ (i := 18) (N := some 100) #[true, true, true, true, true, true, true, true, true, true, true, true, true, true, true, true, true, true, true, true, true, true, true, true, true, true, false, false, false] rfl rfl (one_of HT_.out (by kernel_rfl)) (by decide) (fun K hK => ?_)
            refine goes_ Try.func26 (by kernel_rfl) rfl #[.slice Ao51 t578.length co51, .int .i64 ((rd_T55 t566 x13_2).f0), .int .i64 ((rd_T55 t566 x13_2).f1), .int .i64 ((rd_T55 t566 x13_2).f2)] (by rfl) rfl rfl bM ?_
            with_reducible refine (impl_BlkGet.calls k2 _ _ t578 ((rd_T55 t566 x13_2).f0) ((rd_T55 t566 x13_2).f1) ((rd_T55 t566 x13_2).f2) t590 _ ?side1 ?side2 A44.out).mono ?_
            (case side1 => exact pC (Kd.R_reads' HO_11.out).2.2)
            (case side2 => exact (Kd.R_reads' HO_11.out).2.1)
            rintro e w52 ⟨rfl, hb⟩
            refine ⟨_, rfl, ?_⟩
            have n0_ := Aside0.mk (Kd.R_below (pR HO_3.out) hb)
            have n1_ := Aside0.mk (Kd.R_below (pR HO_11.out) hb)
            have n2_ := Aside0.mk (blk_below (g := gb587) (o := .cells #[.int .i64 ((rd_T55 t566 x13_2).f0), .int .i64 ((rd_T55 t566 x13_2).f1), .int .i64 ((rd_T55 t566 x13_2).f2), .int .i64 ((rd_T55 t566 x13_2).f3)] 55 (0, 0)) (pK BK587.out) hb)
            have n3_ := Aside0.mk (below_step (by repeat (first | (with_reducible first | exact HB.out | apply below_alloc | apply pw_below_drewN | apply below_drew1 | refine below_set ?_ GE587.out) | exact HB.out)) hb)
            clear HO_3
            clear HO_11
            clear BK587
            clear HB
            have HO_3 := n0_
            have HO_11 := n1_
            have BK587 := n2_
            have HB := n3_
            clear n0_ n1_ n2_ n3_
            (try clear hb)
            (try clear hb2)
            (try clear hk)
            (try clear hi)
            refine hK.out _ _ ⟨(blk_cell BK587.out 0).trans rfl, (blk_cell BK587.out 1).trans rfl, (blk_cell BK587.out 2).trans rfl, (blk_cell BK587.out 3).trans rfl⟩ (fun hHeld => ?_)
            clear hK K
            refine norm_ (a' := ?_) ?_ ?_
            rotate_left
            ·show Act.put _ (some 100) _ = _
             simp only [Act.put, List.setIfInBounds_toArray, List.set_cons_zero, List.set_cons_succ, i64_w, i32_w]
             rfl
            refine one_ (i := 26) (N := some 108) #[true, true, true, true, true, true, true, true, true, true, true, true, true, true, true, true, true, true, true, true, true, true, true, true, true, true, true, false, false] rfl rfl (one_of HT_.out (by kernel_rfl)) (by decide) (fun K hK => ?_)
            refine goes_ Try.func26 (by kernel_rfl) rfl #[.slice (some ad586) t566.length co9, .int .i64 ((rd_T55 t566 x13_2).f0), .int .i64 ((rd_T55 t566 x13_2).f1), .int .i64 ((rd_T55 t566 x13_2).f2)] (by rfl) rfl rfl bM ?_
            with_reducible refine (impl_BlkGet.calls k2 _ _ t566 ((rd_T55 t566 x13_2).f0) ((rd_T55 t566 x13_2).f1) ((rd_T55 t566 x13_2).f2) t591 _ ?side1 ?side2 A45.out).mono ?_
            (case side1 => exact pC (Kd.R_reads' HO_3.out).2.2)
            (case side2 => exact (Kd.R_reads' HO_3.out).2.1)
            rintro e w53 ⟨rfl, hb⟩
            refine ⟨_, rfl, ?_⟩
            have n0_ := Aside0.mk (Kd.R_below (pR HO_3.out) hb)
            have n1_ := Aside0.mk (Kd.R_below (pR HO_11.out) hb)
            have n2_ := Aside0.mk (blk_below (g := gb587) (o := .cells #[.int .i64 ((rd_T55 t566 x13_2).f0), .int .i64 ((rd_T55 t566 x13_2).f1), .int .i64 ((rd_T55 t566 x13_2).f2), .int .i64 ((rd_T55 t566 x13_2).f3)] 55 (0, 0)) (pK BK587.out) hb)
            have n3_ := Aside0.mk (below_step (by repeat (first | (with_reducible first | exact HB.out | apply below_alloc | apply pw_below_drewN | apply below_drew1 | refine below_set ?_ GE587.out) | exact HB.out)) hb)
            clear HO_3
            clear HO_11
            clear BK587
            clear HB
            have HO_3 := n0_
            have HO_11 := n1_
            have BK587 := n2_
            have HB := n3_
            clear n0_ n1_ n2_ n3_
            (try clear hb)
            (try clear hb2)
            (try clear hk)
            (try clear hi)
            refine hK.out _ _ ⟨(blk_cell BK587.out 0).trans rfl, (blk_cell BK587.out 1).trans rfl, (blk_cell BK587.out 2).trans rfl, (blk_cell BK587.out 3).trans rfl⟩ (fun hHeld => ?_)
            clear hK K
            refine norm_ (a' := ?_) ?_ ?_
            rotate_left
            ·show Act.put _ (some 108) _ = _
             simp only [Act.put, List.setIfInBounds_toArray, List.set_cons_zero, List.set_cons_succ, i64_w, i32_w]
             rfl
            refine pure_ (i := 27) (N := some 109) (v := ?_) (a' := ?_) #[true, true, true, true, true, true, true, true, true, true, true, true, true, true, true, true, true, true, true, true, true, true, true, true, true, true, true, true, false] rfl rfl (any_of HT_.out (by kernel_rfl)) (fun _ _ _ h => h) (Or.inl ⟨by rfl, ?_⟩) ?_ ?_
            rotate_left
            ·intro w'
             go_simp
             with_reducible rfl
            rotate_left
            ·simp only [Act.put, List.setIfInBounds_toArray, List.set_cons_zero, List.set_cons_succ, i64_w, i32_w]
             rfl
            refine pure_ (i := 28) (N := some 110) (v := ?_) (a' := ?_) #[true, true, true, true, true, true, true, true, true, true, true, true, true, true, true, true, true, true, true, true, true, true, true, true, true, true, true, true, true] rfl rfl (any_of HT_.out (by kernel_rfl)) (fun _ _ _ h => h) (Or.inl ⟨by rfl, ?_⟩) ?_ ?_
            rotate_left
            ·intro w'
             go_simp
             with_reducible rfl
            rotate_left
            ·simp only [Act.put, List.setIfInBounds_toArray, List.set_cons_zero, List.set_cons_succ, i64_w, i32_w]
             rfl
            refine done_ (done_of HT_.out (by kernel_rfl)) ?_
            try go_wp2
            go_roundg k2
            case measure => have := HJ6.out; have := HK2.out; omega
            case rel => exact ⟨(wrap64 (x13_2 + 1)), (by first | rfl | (simp; done) | (simp [*]; done)), H', ⟨by have := HJ6.out; have := HK2.out; omega⟩, ⟨pR (Kd.R_mono HO_3.out (fun _ hk => hk.1))⟩, ⟨pR (Kd.R_mono HO_11.out (fun _ hk => hk.1))⟩, ⟨by repeat (first | (with_reducible first | exact HB.out | apply below_alloc | apply pw_below_drewN | apply below_drew1 | refine below_set ?_ GE587.out) | exact HB.out)⟩⟩
           ·rw [if_neg c46] at H
            have c46b0 : (t590 == t591) = false := beq_eq_false_iff_ne.mpr c46
            have c46b1 : (t590 != t591) = true := bne_iff_ne.mpr c46
            obtain rfl := Option.some.inj H
            have p586 : 0 ≤ (x13_2 : Int) := of_decide_eq_true bA
            have q586 : x13_2 < (t566.length : Int) := of_decide_eq_true bA
            obtain ⟨ad586, e586, hx586_0, hx586_1, hx586_2, hx586_3⟩ := at_T55 (Kd.R_reads' HO_3.out).2.2 x13_2 p586 q586
            cases e586
            replace p586 := eq_true p586
            replace q586 := eq_true q586
            try go_wp2_with (first | ((with_reducible refine gate_dst (N := 14) rfl ?_); (try (refine gate_guard (by rfl) ?_; dsimp only)); refine box_event ?hg (N := 14) ?hd (cs := #[.int .i64 0, .int .i64 0, .int .i64 0, .int .i64 0]) (t := 55) ?hr ?_; (case hd => rfl); (case hg => rfl); (case hr => first | (go_simp; done) | (go_simp; rfl)); intro gb587 hg w54 hbox hb; have n0_ := Aside0.mk (Kd.R_below (Kd.R_elderB (pR HO_3.out) gb587 (Nat.le_of_eq hg.symm)) hb); have n1_ := Aside0.mk (Kd.R_below (Kd.R_elderB (pR HO_11.out) gb587 (Nat.le_of_eq hg.symm)) hb); have n2_ := Aside0.mk (below_step (pB HB.out) hb); have n3_ := Aside0.mk (hbox); have n4_ := Aside0.mk ((by rw [hg]; exact (below_size (pB HB.out)) : w.heap.size ≤ gb587)); have n5_ := Aside0.mk ((by rw [hg]; exact (below_size (pB HB.out)) : w.heap.size ≤ gb587)); clear HO_3; clear HO_11; clear HB; have HO_3 := n0_; have HO_11 := n1_; have HB := n2_; have BK587 := n3_; have GW587 := n4_; have GE587 := n5_; clear n0_ n1_ n2_ n3_ n4_ n5_; clear hb hbox hg; have hcz55_0 : w54.cell? ⟨gb587, 0, none⟩ = some (.int .i64 0) := (blk_cell BK587.out 0).trans rfl; have hcz55_1 : w54.cell? ⟨gb587, 1, none⟩ = some (.int .i64 0) := (blk_cell BK587.out 1).trans rfl; have hcz55_2 : w54.cell? ⟨gb587, 2, none⟩ = some (.int .i64 0) := (blk_cell BK587.out 2).trans rfl; have hcz55_3 : w54.cell? ⟨gb587, 3, none⟩ = some (.int .i64 0) := (blk_cell BK587.out 3).trans rfl; have hfz55_0 := blk_frozen BK587.out 0; have hfz55_1 := blk_frozen BK587.out 1; have hfz55_2 := blk_frozen BK587.out 2; have hfz55_3 := blk_frozen BK587.out 3))
            have n0_ : Aside0 (Kd.R k55 55 ((((w54.setCell ⟨gb587, 0, none⟩ (.int .i64 ((rd_T55 t566 x13_2).f0))).setCell ⟨gb587, 1, none⟩ (.int .i64 ((rd_T55 t566 x13_2).f1))).setCell ⟨gb587, 2, none⟩ (.int .i64 ((rd_T55 t566 x13_2).f2))).setCell ⟨gb587, 3, none⟩ (.int .i64 ((rd_T55 t566 x13_2).f3))) w.heap.size (fun k_ => some k_ ≠ (v580 : Value).ownBlock ∧ k_ ≠ gb587) (.slice (some ad586) t566.length co9) t566) := ⟨pR (Kd.R_mono (Kd.R_far (p := ⟨gb587, 3, none⟩) (Kd.R_far (p := ⟨gb587, 2, none⟩) (Kd.R_far (p := ⟨gb587, 1, none⟩) (Kd.R_far (p := ⟨gb587, 0, none⟩) (Kd.R_mono HO_3.out (fun k_ hk => (⟨hk, hk.2⟩ : _ ∧ k_ ≠ gb587))) (fun _ hk => hk.2) (.int .i64 ((rd_T55 t566 x13_2).f0))) (fun _ hk => hk.2) (.int .i64 ((rd_T55 t566 x13_2).f1))) (fun _ hk => hk.2) (.int .i64 ((rd_T55 t566 x13_2).f2))) (fun _ hk => hk.2) (.int .i64 ((rd_T55 t566 x13_2).f3))) (fun _ hk => ⟨hk.1.1, hk.1.2⟩))⟩
            have n1_ : Aside0 (Kd.R k55 55 ((((w54.setCell ⟨gb587, 0, none⟩ (.int .i64 ((rd_T55 t566 x13_2).f0))).setCell ⟨gb587, 1, none⟩ (.int .i64 ((rd_T55 t566 x13_2).f1))).setCell ⟨gb587, 2, none⟩ (.int .i64 ((rd_T55 t566 x13_2).f2))).setCell ⟨gb587, 3, none⟩ (.int .i64 ((rd_T55 t566 x13_2).f3))) w.heap.size (fun k_ => some k_ ≠ (.slice (some ad586) t566.length co9 : Value).ownBlock ∧ k_ ≠ gb587) v580 t578) := ⟨pR (Kd.R_mono (Kd.R_far (p := ⟨gb587, 3, none⟩) (Kd.R_far (p := ⟨gb587, 2, none⟩) (Kd.R_far (p := ⟨gb587, 1, none⟩) (Kd.R_far (p := ⟨gb587, 0, none⟩) (Kd.R_mono HO_11.out (fun k_ hk => (⟨hk, hk.2⟩ : _ ∧ k_ ≠ gb587))) (fun _ hk => hk.2) (.int .i64 ((rd_T55 t566 x13_2).f0))) (fun _ hk => hk.2) (.int .i64 ((rd_T55 t566 x13_2).f1))) (fun _ hk => hk.2) (.int .i64 ((rd_T55 t566 x13_2).f2))) (fun _ hk => hk.2) (.int .i64 ((rd_T55 t566 x13_2).f3))) (fun _ hk => ⟨hk.1.1, hk.1.2⟩))⟩
            have n2_ : Aside0 (((((w54.setCell ⟨gb587, 0, none⟩ (.int .i64 ((rd_T55 t566 x13_2).f0))).setCell ⟨gb587, 1, none⟩ (.int .i64 ((rd_T55 t566 x13_2).f1))).setCell ⟨gb587, 2, none⟩ (.int .i64 ((rd_T55 t566 x13_2).f2))).setCell ⟨gb587, 3, none⟩ (.int .i64 ((rd_T55 t566 x13_2).f3))).heap[gb587]? = some (.cells #[.int .i64 ((rd_T55 t566 x13_2).f0), .int .i64 ((rd_T55 t566 x13_2).f1), .int .i64 ((rd_T55 t566 x13_2).f2), .int .i64 ((rd_T55 t566 x13_2).f3)] 55 (0, 0))) := ⟨by (with_reducible repeat (first | refine blk_drewN ?_ _ | refine blk_drew ?_ | refine blk_alloc ?_ _)); refine blk_put (cs := #[.int .i64 ((rd_T55 t566 x13_2).f0), .int .i64 ((rd_T55 t566 x13_2).f1), .int .i64 ((rd_T55 t566 x13_2).f2), .int .i64 0]) ?_ 3 _ rfl; (with_reducible repeat (first | refine blk_drewN ?_ _ | refine blk_drew ?_ | refine blk_alloc ?_ _)); refine blk_put (cs := #[.int .i64 ((rd_T55 t566 x13_2).f0), .int .i64 ((rd_T55 t566 x13_2).f1), .int .i64 0, .int .i64 0]) ?_ 2 _ rfl; (with_reducible repeat (first | refine blk_drewN ?_ _ | refine blk_drew ?_ | refine blk_alloc ?_ _)); refine blk_put (cs := #[.int .i64 ((rd_T55 t566 x13_2).f0), .int .i64 0, .int .i64 0, .int .i64 0]) ?_ 1 _ rfl; (with_reducible repeat (first | refine blk_drewN ?_ _ | refine blk_drew ?_ | refine blk_alloc ?_ _)); refine blk_put (cs := #[.int .i64 0, .int .i64 0, .int .i64 0, .int .i64 0]) ?_ 0 _ rfl; (with_reducible repeat (first | refine blk_drewN ?_ _ | refine blk_drew ?_ | refine blk_alloc ?_ _)); exact BK587.out⟩
            have n3_ : Aside0 (Below w.heap.size w ((((w54.setCell ⟨gb587, 0, none⟩ (.int .i64 ((rd_T55 t566 x13_2).f0))).setCell ⟨gb587, 1, none⟩ (.int .i64 ((rd_T55 t566 x13_2).f1))).setCell ⟨gb587, 2, none⟩ (.int .i64 ((rd_T55 t566 x13_2).f2))).setCell ⟨gb587, 3, none⟩ (.int .i64 ((rd_T55 t566 x13_2).f3)))) := ⟨by repeat (first | (with_reducible first | exact HB.out | apply below_alloc | apply pw_below_drewN | apply below_drew1 | refine below_set ?_ GE587.out) | exact HB.out)⟩
            (try clear HO_3)
            (try clear HO_11)
            (try clear BK587)
            (try clear HB)
            generalize ((((w54.setCell ⟨gb587, 0, none⟩ (.int .i64 ((rd_T55 t566 x13_2).f0))).setCell ⟨gb587, 1, none⟩ (.int .i64 ((rd_T55 t566 x13_2).f1))).setCell ⟨gb587, 2, none⟩ (.int .i64 ((rd_T55 t566 x13_2).f2))).setCell ⟨gb587, 3, none⟩ (.int .i64 ((rd_T55 t566 x13_2).f3))) = w56 at n0_ n1_ n2_ n3_ ⊢
            have HO_3 := n0_
            have HO_11 := n1_
            have BK587 := n2_
            have HB := n3_
            clear n0_ n1_ n2_ n3_
            have n0_ := Aside0.mk (Kd.R_drew HO_3.out)
            have n1_ := Aside0.mk (Kd.R_drew HO_11.out)
            have n2_ := Aside0.mk (blk_drew BK587.out)
            have n3_ := Aside0.mk (below_drew1 HB.out)
            clear HO_3
            clear HO_11
            clear BK587
            clear HB
            have HO_3 := n0_
            have HO_11 := n1_
            have BK587 := n2_
            have HB := n3_
            clear n0_ n1_ n2_ n3_
            obtain ⟨Ao58, co58, eo58⟩ := Kd.R_slice HO_11.out
            (first | subst eo58 | (injection eo58 with f1_ f2_ f3_; have f4_ := f1_.symm; have f5_ := f3_.symm; clear f1_ f2_ f3_; subst f4_; subst f5_))
            refine start_ (n := 29) (S := fun w' => w'.cell? ⟨gb587, 0, none⟩ = some (.int .i64 ((rd_T55 t566 x13_2).f0)) ∧ w'.cell? ⟨gb587, 1, none⟩ = some (.int .i64 ((rd_T55 t566 x13_2).f1)) ∧ w'.cell? ⟨gb587, 2, none⟩ = some (.int .i64 ((rd_T55 t566 x13_2).f2)) ∧ w'.cell? ⟨gb587, 3, none⟩ = some (.int .i64 ((rd_T55 t566 x13_2).f3))) (ds := []) #[false, false, false, false, false, false, false, false, false, false, false, false, false, false, false, false, false, false, false, false, false, false, false, false, false, false, false, false, false] (by kernel_rfl) rfl rfl ⟨(blk_cell BK587.out 0).trans rfl, (blk_cell BK587.out 1).trans rfl, (blk_cell BK587.out 2).trans rfl, (blk_cell BK587.out 3).trans rfl⟩ (fun hHeld => ?_); refine with_tabW laws_FnBlkPut.tab15 laws_FnBlkPut.bits15 (fun HT_ HW_ => ?_)
            generalize w56.drew = w57 at HO_3 HO_11 BK587 HB hHeld ⊢
            refine pure_ (i := 0) (N := some 82) (v := ?_) (a' := ?_) #[true, false, false, false, false, false, false, false, false, false, false, false, false, false, false, false, false, false, false, false, false, false, false, false, false, false, false, false, false] rfl rfl (any_of HT_.out (by kernel_rfl)) (fun _ _ _ h => h) (Or.inl ⟨by rfl, ?_⟩) ?_ ?_
            rotate_left
            ·intro w'
             go_simp
             with_reducible rfl
            rotate_left
            ·simp only [Act.put, List.setIfInBounds_toArray, List.set_cons_zero, List.set_cons_succ, i64_w, i32_w]
             rfl
            refine pure_ (i := 2) (N := some 84) (v := ?_) (a' := ?_) #[true, false, true, false, false, false, false, false, false, false, false, false, false, false, false, false, false, false, false, false, false, false, false, false, false, false, false, false, false] rfl rfl (any_of HT_.out (by kernel_rfl)) (fun _ _ _ h => h) (Or.inl ⟨by rfl, ?_⟩) ?_ ?_
            rotate_left
            ·intro w'
             go_simp
             with_reducible rfl
            rotate_left
            ·simp only [Act.put, List.setIfInBounds_toArray, List.set_cons_zero, List.set_cons_succ, i64_w, i32_w]
             rfl
            refine take_ (i := 1) (N := some 83) (v := ?_) (a' := ?_) #[true, true, true, false, false, false, false, false, false, false, false, false, false, false, false, false, false, false, false, false, false, false, false, false, false, false, false, false, false] rfl rfl (take_ofW HT_.out HW_.out (by kernel_rfl)) (fun _ _ _ h => h) (Or.inl ⟨by rfl, ?_⟩) hHeld ?_ ?_
            rotate_left
            ·rintro w' ⟨s0, s1, s2, s3⟩
             go_simp
             with_reducible rfl
            rotate_left
            ·simp only [Act.put, List.setIfInBounds_toArray, List.set_cons_zero, List.set_cons_succ, i64_w, i32_w]
             rfl
            refine pure_ (i := 3) (N := some 85) (v := ?_) (a' := ?_) #[true, true, true, true, false, false, false, false, false, false, false, false, false, false, false, false, false, false, false, false, false, false, false, false, false, false, false, false, false] rfl rfl (any_of HT_.out (by kernel_rfl)) (fun _ _ _ h => h) (Or.inl ⟨by rfl, ?_⟩) ?_ ?_
            rotate_left
            ·intro w'
             go_simp
             with_reducible rfl
            rotate_left
            ·simp only [Act.put, List.setIfInBounds_toArray, List.set_cons_zero, List.set_cons_succ, i64_w, i32_w]
             rfl
            refine pure_ (i := 4) (N := some 86) (v := ?_) (a' := ?_) #[true, true, true, true, true, false, false, false, false, false, false, false, false, false, false, false, false, false, false, false, false, false, false, false, false, false, false, false, false] rfl rfl (any_of HT_.out (by kernel_rfl)) (fun _ _ _ h => h) (Or.inl ⟨by rfl, ?_⟩) ?_ ?_
            rotate_left
            ·intro w'
             go_simp
             with_reducible rfl
            rotate_left
            ·simp only [Act.put, List.setIfInBounds_toArray, List.set_cons_zero, List.set_cons_succ, i64_w, i32_w]
             rfl
            refine pure_ (i := 5) (N := some 87) (v := undef) (a' := ?_) #[true, true, true, true, true, true, false, false, false, false, false, false, false, false, false, false, false, false, false, false, false, false, false, false, false, false, false, false, false] rfl rfl (any_of HT_.out (by kernel_rfl)) (fun _ _ _ h => h) (Or.inr ⟨by rfl, rfl⟩) ?_ ?_
            rotate_left
            ·simp only [Act.put, List.setIfInBounds_toArray, List.set_cons_zero, List.set_cons_succ, i64_w, i32_w]
             rfl
            refine pure_ (i := 6) (N := some 88) (v := undef) (a' := ?_) #[true, true, true, true, true, true, true, false, false, false, false, false, false, false, false, false, false, false, false, false, false, false, false, false, false, false, false, false, false] rfl rfl (any_of HT_.out (by kernel_rfl)) (fun _ _ _ h => h) (Or.inr ⟨by rfl, rfl⟩) ?_ ?_
            rotate_left
            ·simp only [Act.put, List.setIfInBounds_toArray, List.set_cons_zero, List.set_cons_succ, i64_w, i32_w]
             rfl
            refine pure_ (i := 7) (N := some 89) (v := undef) (a' := ?_) #[true, true, true, true, true, true, true, true, false, false, false, false, false, false, false, false, false, false, false, false, false, false, false, false, false, false, false, false, false] rfl rfl (any_of HT_.out (by kernel_rfl)) (fun _ _ _ h => h) (Or.inr ⟨by rfl, rfl⟩) ?_ ?_
            rotate_left
            ·simp only [Act.put, List.setIfInBounds_toArray, List.set_cons_zero, List.set_cons_succ, i64_w, i32_w]
             rfl
            refine pure_ (i := 8) (N := some 90) (v := undef) (a' := ?_) #[true, true, true, true, true, true, true, true, true, false, false, false, false, false, false, false, false, false, false, false, false, false, false, false, false, false, false, false, false] rfl rfl (any_of HT_.out (by kernel_rfl)) (fun _ _ _ h => h) (Or.inr ⟨by rfl, rfl⟩) ?_ ?_
            rotate_left
            ·simp only [Act.put, List.setIfInBounds_toArray, List.set_cons_zero, List.set_cons_succ, i64_w, i32_w]
             rfl
            refine pure_ (i := 9) (N := some 91) (v := ?_) (a' := ?_) #[true, true, true, true, true, true, true, true, true, true, false, false, false, false, false, false, false, false, false, false, false, false, false, false, false, false, false, false, false] rfl rfl (any_of HT_.out (by kernel_rfl)) (fun _ _ _ h => h) (Or.inl ⟨by rfl, ?_⟩) ?_ ?_
            rotate_left
            ·intro w'
             go_simp
             with_reducible rfl
            rotate_left
            ·simp only [Act.put, List.setIfInBounds_toArray, List.set_cons_zero, List.set_cons_succ, i64_w, i32_w]
             rfl
            refine pure_ (i := 10) (N := some 92) (v := ?_) (a' := ?_) #[true, true, true, true, true, true, true, true, true, true, true, false, false, false, false, false, false, false, false, false, false, false, false, false, false, false, false, false, false] rfl rfl (any_of HT_.out (by kernel_rfl)) (fun _ _ _ h => h) (Or.inl ⟨by rfl, ?_⟩) ?_ ?_
            rotate_left
            ·intro w'
             go_simp
             with_reducible rfl
            rotate_left
            ·simp only [Act.put, List.setIfInBounds_toArray, List.set_cons_zero, List.set_cons_succ, i64_w, i32_w]
             rfl
            refine pure_ (i := 11) (N := some 93) (v := ?_) (a' := ?_) #[true, true, true, true, true, true, true, true, true, true, true, true, false, false, false, false, false, false, false, false, false, false, false, false, false, false, false, false, false] rfl rfl (any_of HT_.out (by kernel_rfl)) (fun _ _ _ h => h) (Or.inl ⟨by rfl, ?_⟩) ?_ ?_
            rotate_left
            ·intro w'
             go_simp
             with_reducible rfl
            rotate_left
            ·simp only [Act.put, List.setIfInBounds_toArray, List.set_cons_zero, List.set_cons_succ, i64_w, i32_w]
             rfl
            refine pure_ (i := 12) (N := some 94) (v := ?_) (a' := ?_) #[true, true, true, true, true, true, true, true, true, true, true, true, true, false, false, false, false, false, false, false, false, false, false, false, false, false, false, false, false] rfl rfl (any_of HT_.out (by kernel_rfl)) (fun _ _ _ h => h) (Or.inl ⟨by rfl, ?_⟩) ?_ ?_
            rotate_left
            ·intro w'
             go_simp
             with_reducible rfl
            rotate_left
            ·simp only [Act.put, List.setIfInBounds_toArray, List.set_cons_zero, List.set_cons_succ, i64_w, i32_w]
             rfl
            refine pure_ (i := 14) (N := some 96) (v := ?_) (a' := ?_) #[true, true, true, true, true, true, true, true, true, true, true, true, true, false, true, false, false, false, false, false, false, false, false, false, false, false, false, false, false] rfl rfl (any_of HT_.out (by kernel_rfl)) (fun _ _ _ h => h) (Or.inl ⟨by rfl, ?_⟩) ?_ ?_
            rotate_left
            ·intro w'
             go_simp
             with_reducible rfl
            rotate_left
            ·simp only [Act.put, List.setIfInBounds_toArray, List.set_cons_zero, List.set_cons_succ, i64_w, i32_w]
             rfl
            refine pure_ (i := 16) (N := some 98) (v := ?_) (a' := ?_) #[true, true, true, true, true, true, true, true, true, true, true, true, true, false, true, false, true, false, false, false, false, false, false, false, false, false, false, false, false] rfl rfl (any_of HT_.out (by kernel_rfl)) (fun _ _ _ h => h) (Or.inl ⟨by rfl, ?_⟩) ?_ ?_
            rotate_left
            ·intro w'
             go_simp
             with_reducible rfl
            rotate_left
            ·simp only [Act.put, List.setIfInBounds_toArray, List.set_cons_zero, List.set_cons_succ, i64_w, i32_w]
             rfl
            refine pure_ (i := 19) (N := some 101) (v := ?_) (a' := ?_) #[true, true, true, true, true, true, true, true, true, true, true, true, true, false, true, false, true, false, false, true, false, false, false, false, false, false, false, false, false] rfl rfl (any_of HT_.out (by kernel_rfl)) (fun _ _ _ h => h) (Or.inl ⟨by rfl, ?_⟩) ?_ ?_
            rotate_left
            ·intro w'
             go_simp
             with_reducible rfl
            rotate_left
            ·simp only [Act.put, List.setIfInBounds_toArray, List.set_cons_zero, List.set_cons_succ, i64_w, i32_w]
             rfl
            refine pure_ (i := 20) (N := some 102) (v := ?_) (a' := ?_) #[true, true, true, true, true, true, true, true, true, true, true, true, true, false, true, false, true, false, false, true, true, false, false, false, false, false, false, false, false] rfl rfl (any_of HT_.out (by kernel_rfl)) (fun _ _ _ h => h) (Or.inl ⟨by rfl, ?_⟩) ?_ ?_
            rotate_left
            ·intro w'
             go_simp
             with_reducible rfl
            rotate_left
            ·simp only [Act.put, List.setIfInBounds_toArray, List.set_cons_zero, List.set_cons_succ, i64_w, i32_w]
             rfl
            refine pure_ (i := 22) (N := some 104) (v := ?_) (a' := ?_) #[true, true, true, true, true, true, true, true, true, true, true, true, true, false, true, false, true, false, false, true, true, false, true, false, false, false, false, false, false] rfl rfl (any_of HT_.out (by kernel_rfl)) (fun _ _ _ h => h) (Or.inl ⟨by rfl, ?_⟩) ?_ ?_
            rotate_left
            ·intro w'
             go_simp
             with_reducible rfl
            rotate_left
            ·simp only [Act.put, List.setIfInBounds_toArray, List.set_cons_zero, List.set_cons_succ, i64_w, i32_w]
             rfl
            refine pure_ (i := 24) (N := some 106) (v := ?_) (a' := ?_) #[true, true, true, true, true, true, true, true, true, true, true, true, true, false, true, false, true, false, false, true, true, false, true, false, true, false, false, false, false] rfl rfl (any_of HT_.out (by kernel_rfl)) (fun _ _ _ h => h) (Or.inl ⟨by rfl, ?_⟩) ?_ ?_
            rotate_left
            ·intro w'
             go_simp
             with_reducible rfl
            rotate_left
            ·simp only [Act.put, List.setIfInBounds_toArray, List.set_cons_zero, List.set_cons_succ, i64_w, i32_w]
             rfl
            refine take_ (i := 13) (N := some 95) (v := ?_) (a' := ?_) #[true, true, true, true, true, true, true, true, true, true, true, true, true, true, true, false, true, false, false, true, true, false, true, false, true, false, false, false, false] rfl rfl (take_ofW HT_.out HW_.out (by kernel_rfl)) (fun _ _ _ h => h) (Or.inl ⟨by rfl, ?_⟩) hHeld ?_ ?_
            rotate_left
            ·rintro w' ⟨s0, s1, s2, s3⟩
             go_simp
             with_reducible rfl
            rotate_left
            ·simp only [Act.put, List.setIfInBounds_toArray, List.set_cons_zero, List.set_cons_succ, i64_w, i32_w]
             rfl
            refine take_ (i := 15) (N := some 97) (v := ?_) (a' := ?_) #[true, true, true, true, true, true, true, true, true, true, true, true, true, true, true, true, true, false, false, true, true, false, true, false, true, false, false, false, false] rfl rfl (take_ofW HT_.out HW_.out (by kernel_rfl)) (fun _ _ _ h => h) (Or.inl ⟨by rfl, ?_⟩) hHeld ?_ ?_
            rotate_left
            ·rintro w' ⟨s0, s1, s2, s3⟩
             go_simp
             with_reducible rfl
            rotate_left
            ·simp only [Act.put, List.setIfInBounds_toArray, List.set_cons_zero, List.set_cons_succ, i64_w, i32_w]
             rfl
            refine take_ (i := 17) (N := some 99) (v := ?_) (a' := ?_) #[true, true, true, true, true, true, true, true, true, true, true, true, true, true, true, true, true, true, false, true, true, false, true, false, true, false, false, false, false] rfl rfl (take_ofW HT_.out HW_.out (by kernel_rfl)) (fun _ _ _ h => h) (Or.inl ⟨by rfl, ?_⟩) hHeld ?_ ?_
            rotate_left
            ·rintro w' ⟨s0, s1, s2, s3⟩
             go_simp
             with_reducible rfl
            rotate_left
            ·simp only [Act.put, List.setIfInBounds_toArray, List.set_cons_zero, List.set_cons_succ, i64_w, i32_w]
             rfl
            refine take_ (i := 21) (N := some 103) (v := ?_) (a' := ?_) #[true, true, true, true, true, true, true, true, true, true, true, true, true, true, true, true, true, true, false, true, true, true, true, false, true, false, false, false, false] rfl rfl (take_ofW HT_.out HW_.out (by kernel_rfl)) (fun _ _ _ h => h) (Or.inl ⟨by rfl, ?_⟩) hHeld ?_ ?_
            rotate_left
            ·rintro w' ⟨s0, s1, s2, s3⟩
             go_simp
             with_reducible rfl
            rotate_left
            ·simp only [Act.put, List.setIfInBounds_toArray, List.set_cons_zero, List.set_cons_succ, i64_w, i32_w]
             rfl
            refine take_ (i := 23) (N := some 105) (v := ?_) (a' := ?_) #[true, true, true, true, true, true, true, true, true, true, true, true, true, true, true, true, true, true, false, true, true, true, true, true, true, false, false, false, false] rfl rfl (take_ofW HT_.out HW_.out (by kernel_rfl)) (fun _ _ _ h => h) (Or.inl ⟨by rfl, ?_⟩) hHeld ?_ ?_
            rotate_left
            ·rintro w' ⟨s0, s1, s2, s3⟩
             go_simp
             with_reducible rfl
            rotate_left
            ·simp only [Act.put, List.setIfInBounds_toArray, List.set_cons_zero, List.set_cons_succ, i64_w, i32_w]
             rfl
            refine take_ (i := 25) (N := some 107) (v := ?_) (a' := ?_) #[true, true, true, true, true, true, true, true, true, true, true, true, true, true, true, true, true, true, false, true, true, true, true, true, true, true, false, false, false] rfl rfl (take_ofW HT_.out HW_.out (by kernel_rfl)) (fun _ _ _ h => h) (Or.inl ⟨by rfl, ?_⟩) hHeld ?_ ?_
            rotate_left
            ·rintro w' ⟨s0, s1, s2, s3⟩
             go_simp
             with_reducible rfl
            rotate_left
            ·simp only [Act.put, List.setIfInBounds_toArray, List.set_cons_zero, List.set_cons_succ, i64_w, i32_w]
             rfl
            refine one_ (i := 18) (N := some 100) #[true, true, true, true, true, true, true, true, true, true, true, true, true, true, true, true, true, true, true, true, true, true, true, true, true, true, false, false, false] rfl rfl (one_of HT_.out (by kernel_rfl)) (by decide) (fun K hK => ?_)
            refine goes_ Try.func26 (by kernel_rfl) rfl #[.slice Ao58 t578.length co58, .int .i64 ((rd_T55 t566 x13_2).f0), .int .i64 ((rd_T55 t566 x13_2).f1), .int .i64 ((rd_T55 t566 x13_2).f2)] (by rfl) rfl rfl bM ?_
            with_reducible refine (impl_BlkGet.calls k2 _ _ t578 ((rd_T55 t566 x13_2).f0) ((rd_T55 t566 x13_2).f1) ((rd_T55 t566 x13_2).f2) t590 _ ?side1 ?side2 A44.out).mono ?_
            (case side1 => exact pC (Kd.R_reads' HO_11.out).2.2)
            (case side2 => exact (Kd.R_reads' HO_11.out).2.1)
            rintro e w59 ⟨rfl, hb⟩
            refine ⟨_, rfl, ?_⟩
            have n0_ := Aside0.mk (Kd.R_below (pR HO_3.out) hb)
            have n1_ := Aside0.mk (Kd.R_below (pR HO_11.out) hb)
            have n2_ := Aside0.mk (blk_below (g := gb587) (o := .cells #[.int .i64 ((rd_T55 t566 x13_2).f0), .int .i64 ((rd_T55 t566 x13_2).f1), .int .i64 ((rd_T55 t566 x13_2).f2), .int .i64 ((rd_T55 t566 x13_2).f3)] 55 (0, 0)) (pK BK587.out) hb)
            have n3_ := Aside0.mk (below_step (by repeat (first | (with_reducible first | exact HB.out | apply below_alloc | apply pw_below_drewN | apply below_drew1 | refine below_set ?_ GE587.out) | exact HB.out)) hb)
            clear HO_3
            clear HO_11
            clear BK587
            clear HB
            have HO_3 := n0_
            have HO_11 := n1_
            have BK587 := n2_
            have HB := n3_
            clear n0_ n1_ n2_ n3_
            (try clear hb)
            (try clear hb2)
            (try clear hk)
            (try clear hi)
            refine hK.out _ _ ⟨(blk_cell BK587.out 0).trans rfl, (blk_cell BK587.out 1).trans rfl, (blk_cell BK587.out 2).trans rfl, (blk_cell BK587.out 3).trans rfl⟩ (fun hHeld => ?_)
            clear hK K
            refine norm_ (a' := ?_) ?_ ?_
            rotate_left
            ·show Act.put _ (some 100) _ = _
             simp only [Act.put, List.setIfInBounds_toArray, List.set_cons_zero, List.set_cons_succ, i64_w, i32_w]
             rfl
            refine one_ (i := 26) (N := some 108) #[true, true, true, true, true, true, true, true, true, true, true, true, true, true, true, true, true, true, true, true, true, true, true, true, true, true, true, false, false] rfl rfl (one_of HT_.out (by kernel_rfl)) (by decide) (fun K hK => ?_)
            refine goes_ Try.func26 (by kernel_rfl) rfl #[.slice (some ad586) t566.length co9, .int .i64 ((rd_T55 t566 x13_2).f0), .int .i64 ((rd_T55 t566 x13_2).f1), .int .i64 ((rd_T55 t566 x13_2).f2)] (by rfl) rfl rfl bM ?_
            with_reducible refine (impl_BlkGet.calls k2 _ _ t566 ((rd_T55 t566 x13_2).f0) ((rd_T55 t566 x13_2).f1) ((rd_T55 t566 x13_2).f2) t591 _ ?side1 ?side2 A45.out).mono ?_
            (case side1 => exact pC (Kd.R_reads' HO_3.out).2.2)
            (case side2 => exact (Kd.R_reads' HO_3.out).2.1)
            rintro e w60 ⟨rfl, hb⟩
            refine ⟨_, rfl, ?_⟩
            have n0_ := Aside0.mk (Kd.R_below (pR HO_3.out) hb)
            have n1_ := Aside0.mk (Kd.R_below (pR HO_11.out) hb)
            have n2_ := Aside0.mk (blk_below (g := gb587) (o := .cells #[.int .i64 ((rd_T55 t566 x13_2).f0), .int .i64 ((rd_T55 t566 x13_2).f1), .int .i64 ((rd_T55 t566 x13_2).f2), .int .i64 ((rd_T55 t566 x13_2).f3)] 55 (0, 0)) (pK BK587.out) hb)
            have n3_ := Aside0.mk (below_step (by repeat (first | (with_reducible first | exact HB.out | apply below_alloc | apply pw_below_drewN | apply below_drew1 | refine below_set ?_ GE587.out) | exact HB.out)) hb)
            clear HO_3
            clear HO_11
            clear BK587
            clear HB
            have HO_3 := n0_
            have HO_11 := n1_
            have BK587 := n2_
            have HB := n3_
            clear n0_ n1_ n2_ n3_
            (try clear hb)
            (try clear hb2)
            (try clear hk)
            (try clear hi)
            refine hK.out _ _ ⟨(blk_cell BK587.out 0).trans rfl, (blk_cell BK587.out 1).trans rfl, (blk_cell BK587.out 2).trans rfl, (blk_cell BK587.out 3).trans rfl⟩ (fun hHeld => ?_)
            clear hK K
            refine norm_ (a' := ?_) ?_ ?_
            rotate_left
            ·show Act.put _ (some 108) _ = _
             simp only [Act.put, List.setIfInBounds_toArray, List.set_cons_zero, List.set_cons_succ, i64_w, i32_w]
             rfl
            refine pure_ (i := 27) (N := some 109) (v := ?_) (a' := ?_) #[true, true, true, true, true, true, true, true, true, true, true, true, true, true, true, true, true, true, true, true, true, true, true, true, true, true, true, true, false] rfl rfl (any_of HT_.out (by kernel_rfl)) (fun _ _ _ h => h) (Or.inl ⟨by rfl, ?_⟩) ?_ ?_
            rotate_left
            ·intro w'
             go_simp
             with_reducible rfl
            rotate_left
            ·simp only [Act.put, List.setIfInBounds_toArray, List.set_cons_zero, List.set_cons_succ, i64_w, i32_w]
             rfl
            refine pure_ (i := 28) (N := some 110) (v := ?_) (a' := ?_) #[true, true, true, true, true, true, true, true, true, true, true, true, true, true, true, true, true, true, true, true, true, true, true, true, true, true, true, true, true] rfl rfl (any_of HT_.out (by kernel_rfl)) (fun _ _ _ h => h) (Or.inl ⟨by rfl, ?_⟩) ?_ ?_
            rotate_left
            ·intro w'
             go_simp
             with_reducible rfl
            rotate_left
            ·simp only [Act.put, List.setIfInBounds_toArray, List.set_cons_zero, List.set_cons_succ, i64_w, i32_w]
             rfl
            refine done_ (done_of HT_.out (by kernel_rfl)) ?_
            try go_wp2
            go_ret
            exact ⟨by first | rfl | (simp [errW_none, errW_some] <;> rfl) | (simp [*, errW_none, errW_some] <;> rfl), by repeat (first | (with_reducible first | exact HB.out | apply below_alloc | apply pw_below_drewN | apply below_drew1 | refine below_set ?_ GE587.out) | exact HB.out)⟩
         ·rw [if_neg c20] at H
          exact absurd H (by simp)
        ·rw [if_neg c19] at H
         have c19b0 : decide (x13_2 < (t566.length : Int)) = false := decide_eq_false c19
         clear c19
         replace H := Option.bind_eq_some_iff.mp H
         obtain ⟨t584, A610, H⟩ := H
         replace H : (if t584 = true then ((impl_BlkGet.f k2 t578 t567 t568 t569).bind fun t585 => (if t585 = t570 then (some (decide ((t578.length : Int) ≤ (wrap64 ((t566.length : Int) + 1))))) else (some false))) else (some false)) = some r := H
         have A61 := Aside0.mk A610
         clear A610
         by_cases c62 : t584 = true
         ·subst c62
          have H1 : ((impl_BlkGet.f k2 t578 t567 t568 t569).bind fun t585 => (if t585 = t570 then (some (decide ((t578.length : Int) ≤ (wrap64 ((t566.length : Int) + 1))))) else (some false))) = some r := by rw [if_pos rfl] at H; exact H
          clear H
          have H := H1
          clear H1
          replace H := Option.bind_eq_some_iff.mp H
          obtain ⟨t585, A630, H⟩ := H
          replace H : (if t585 = t570 then (some (decide ((t578.length : Int) ≤ (wrap64 ((t566.length : Int) + 1))))) else (some false)) = some r := H
          have A63 := Aside0.mk A630
          clear A630
          by_cases c64 : t585 = t570
          ·rw [if_pos c64] at H
           have c64b0 : (t585 == t570) = true := beq_iff_eq.mpr c64
           have c64b1 : (t585 != t570) = false := bne_eq_false_iff_eq.mpr c64
           clear c64
           obtain rfl := Option.some.inj H
           obtain ⟨Ao65, co65, eo65⟩ := Kd.R_slice HO_11.out
           subst eo65
           go_wp2_with (first | ((with_reducible refine gate_callee (f := 23) rfl ?_); refine goesL_ (some 112) rfl rfl Try.func23 (by kernel_rfl) rfl #[.slice Ao65 t578.length co65] rfl bM ?_; (with_reducible refine (impl_BlkOk.calls k2 _ _ t578 true _ ?side1 ?side2 A61.out).mono ?_); (case side1 => exact pC (Kd.R_reads' HO_11.out).2.2); (case side2 => exact (Kd.R_reads' HO_11.out).2.1); rintro e w66 ⟨rfl, hb⟩; refine ⟨_, rfl, ?_⟩; have n0_ := Aside0.mk (Kd.R_below (pR HO_3.out) hb); have n1_ := Aside0.mk (Kd.R_below (pR HO_11.out) hb); have n2_ := Aside0.mk (below_step (pB HB.out) hb); clear HO_3; clear HO_11; clear HB; have HO_3 := n0_; have HO_11 := n1_; have HB := n2_; clear n0_ n1_ n2_; (try clear hb); (try clear hb2); (try clear hk); (try clear hi)) | (go_at_call 26; (with_reducible refine (impl_BlkGet.calls k2 _ _ t578 t567 t568 t569 t585 _ ?side1 ?side2 A63.out).mono ?_); (case side1 => exact pC (Kd.R_reads' HO_11.out).2.2); (case side2 => exact (Kd.R_reads' HO_11.out).2.1); rintro e w67 ⟨rfl, hb⟩; have n0_ := Aside0.mk (Kd.R_below (pR HO_3.out) hb); have n1_ := Aside0.mk (Kd.R_below (pR HO_11.out) hb); have n2_ := Aside0.mk (below_step (pB HB.out) hb); clear HO_3; clear HO_11; clear HB; have HO_3 := n0_; have HO_11 := n1_; have HB := n2_; clear n0_ n1_ n2_; (try clear hb); (try clear hb2); (try clear hk); (try clear hi)))
           go_ret
           exact ⟨by first | rfl | (simp [errW_none, errW_some] <;> rfl) | (simp [*, errW_none, errW_some] <;> rfl), pB HB.out⟩
          ·rw [if_neg c64] at H
           have c64b0 : (t585 == t570) = false := beq_eq_false_iff_ne.mpr c64
           have c64b1 : (t585 != t570) = true := bne_iff_ne.mpr c64
           obtain rfl := Option.some.inj H
           obtain ⟨Ao68, co68, eo68⟩ := Kd.R_slice HO_11.out
           subst eo68
           go_wp2_with (first | ((with_reducible refine gate_callee (f := 23) rfl ?_); refine goesL_ (some 112) rfl rfl Try.func23 (by kernel_rfl) rfl #[.slice Ao68 t578.length co68] rfl bM ?_; (with_reducible refine (impl_BlkOk.calls k2 _ _ t578 true _ ?side1 ?side2 A61.out).mono ?_); (case side1 => exact pC (Kd.R_reads' HO_11.out).2.2); (case side2 => exact (Kd.R_reads' HO_11.out).2.1); rintro e w69 ⟨rfl, hb⟩; refine ⟨_, rfl, ?_⟩; have n0_ := Aside0.mk (Kd.R_below (pR HO_3.out) hb); have n1_ := Aside0.mk (Kd.R_below (pR HO_11.out) hb); have n2_ := Aside0.mk (below_step (pB HB.out) hb); clear HO_3; clear HO_11; clear HB; have HO_3 := n0_; have HO_11 := n1_; have HB := n2_; clear n0_ n1_ n2_; (try clear hb); (try clear hb2); (try clear hk); (try clear hi)) | (go_at_call 26; (with_reducible refine (impl_BlkGet.calls k2 _ _ t578 t567 t568 t569 t585 _ ?side1 ?side2 A63.out).mono ?_); (case side1 => exact pC (Kd.R_reads' HO_11.out).2.2); (case side2 => exact (Kd.R_reads' HO_11.out).2.1); rintro e w70 ⟨rfl, hb⟩; have n0_ := Aside0.mk (Kd.R_below (pR HO_3.out) hb); have n1_ := Aside0.mk (Kd.R_below (pR HO_11.out) hb); have n2_ := Aside0.mk (below_step (pB HB.out) hb); clear HO_3; clear HO_11; clear HB; have HO_3 := n0_; have HO_11 := n1_; have HB := n2_; clear n0_ n1_ n2_; (try clear hb); (try clear hb2); (try clear hk); (try clear hi)))
           go_ret
           exact ⟨by first | rfl | (simp [errW_none, errW_some] <;> rfl) | (simp [*, errW_none, errW_some] <;> rfl), pB HB.out⟩
         ·replace c62 := Bool.eq_false_iff.mpr c62
          subst c62
          have H1 : (some false) = some r := by rw [if_neg (show ¬ (false = true) by decide)] at H; exact H
          clear H
          have H := H1
          clear H1
          obtain rfl := Option.some.inj H
          obtain ⟨Ao71, co71, eo71⟩ := Kd.R_slice HO_11.out
          subst eo71
          go_wp2_with (first | ((with_reducible refine gate_callee (f := 23) rfl ?_); refine goesL_ (some 112) rfl rfl Try.func23 (by kernel_rfl) rfl #[.slice Ao71 t578.length co71] rfl bM ?_; (with_reducible refine (impl_BlkOk.calls k2 _ _ t578 false _ ?side1 ?side2 A61.out).mono ?_); (case side1 => exact pC (Kd.R_reads' HO_11.out).2.2); (case side2 => exact (Kd.R_reads' HO_11.out).2.1); rintro e w72 ⟨rfl, hb⟩; refine ⟨_, rfl, ?_⟩; have n0_ := Aside0.mk (Kd.R_below (pR HO_3.out) hb); have n1_ := Aside0.mk (Kd.R_below (pR HO_11.out) hb); have n2_ := Aside0.mk (below_step (pB HB.out) hb); clear HO_3; clear HO_11; clear HB; have HO_3 := n0_; have HO_11 := n1_; have HB := n2_; clear n0_ n1_ n2_; (try clear hb); (try clear hb2); (try clear hk); (try clear hi)))
          go_ret
          exact ⟨by first | rfl | (simp [errW_none, errW_some] <;> rfl) | (simp [*, errW_none, errW_some] <;> rfl), pB HB.out⟩
     ·replace c18 := Bool.eq_false_iff.mpr c18
      subst c18
      have H1 : (if t577 = true then ((laws_lpPieces.f kj6 t578 t566).bind fun t583 => (some t583)) else (if (t578.length : Int) = 0 then (some true) else (some false))) = some r := by rw [if_neg (show ¬ (false = true) by decide)] at H; exact H
      clear H
      have H := H1
      clear H1
      by_cases c73 : t577 = true
      ·subst c73
       have H1 : ((laws_lpPieces.f kj6 t578 t566).bind fun t583 => (some t583)) = some r := by rw [if_pos rfl] at H; exact H
       clear H
       have H := H1
       clear H1
       replace H := Option.bind_eq_some_iff.mp H
       obtain ⟨t583, A740, H⟩ := H
       replace H : (some t583) = some r := H
       have A74 := Aside0.mk A740
       clear A740
       obtain rfl := Option.some.inj H
       obtain ⟨Ao75, co75, eo75⟩ := Kd.R_slice HO_11.out
       subst eo75
       go_wp2_with (first | (go_at_call 40; (with_reducible refine (laws_lpPieces.calls kj6 _ _ t578 _ _ t566 t583 _ ?side1 ?side2 ?side3 ?side4 A74.out).mono ?_); (case side1 => exact pC (Kd.R_reads' HO_11.out).2.2); (case side2 => exact (Kd.R_reads' HO_11.out).2.1); (case side3 => exact pC (Kd.R_reads' HO_3.out).2.2); (case side4 => exact (Kd.R_reads' HO_3.out).2.1); rintro e w' ⟨rfl, ⟨nd, rfl⟩⟩))
       go_ret
       exact ⟨by first | rfl | (simp [errW_none, errW_some] <;> rfl) | (simp [*, errW_none, errW_some] <;> rfl), pB HB.out⟩
      ·replace c73 := Bool.eq_false_iff.mpr c73
       subst c73
       have H1 : (if (t578.length : Int) = 0 then (some true) else (some false)) = some r := by rw [if_neg (show ¬ (false = true) by decide)] at H; exact H
       clear H
       have H := H1
       clear H1
       by_cases c76 : (t578.length : Int) = 0
       ·rw [if_pos c76] at H
        have c76b0 : ((t578.length : Int) == 0) = true := beq_iff_eq.mpr c76
        have c76b1 : ((t578.length : Int) != 0) = false := bne_eq_false_iff_eq.mpr c76
        clear c76
        obtain rfl := Option.some.inj H
        obtain ⟨Ao77, co77, eo77⟩ := Kd.R_slice HO_11.out
        subst eo77
        go_wp2
        go_ret
        exact ⟨by first | rfl | (simp [errW_none, errW_some] <;> rfl) | (simp [*, errW_none, errW_some] <;> rfl), pB HB.out⟩
       ·rw [if_neg c76] at H
        have c76b0 : ((t578.length : Int) == 0) = false := beq_eq_false_iff_ne.mpr c76
        have c76b1 : ((t578.length : Int) != 0) = true := bne_iff_ne.mpr c76
        have c76b2 : ¬ (t578 = []) := fun h_ => c76 (by rw [h_]; rfl)
        obtain rfl := Option.some.inj H
        obtain ⟨Ao78, co78, eo78⟩ := Kd.R_slice HO_11.out
        subst eo78
        go_wp2
        go_ret
        exact ⟨by first | rfl | (simp [errW_none, errW_some] <;> rfl) | (simp [*, errW_none, errW_some] <;> rfl), pB HB.out⟩

/-- THE ONE PURE STATEMENT of laws_FnBlkPut: yours. -/
def laws_FnBlkPut.Pure : Prop := ∀ (l0 : List Int), l0.length ≤ maxLen → l0.length * 1 ≤ 140737488351232 → (∀ x ∈ l0, (Lit.int .u8 x).wf = true) → ∃ k, laws_FnBlkPut.f k l0 = some true
theorem laws_FnBlkPut.walk (P : laws_FnBlkPut.Pure) (a0 : Option Addr) (len0 cap0 : Nat) (z0 : List Int) (w : World) (w0 : (a0 = none ∧ len0 = 0 ∧ cap0 = 0 ∧ z0 = []) ∨ ∃ x, a0 = some x ∧ len0 ≤ cap0 ∧ cap0 ≤ maxLen ∧ z0.length = cap0 ∧ (∀ i, i < z0.length → w.cell? (x.add i) = some (.int .u8 (z0.getD i 0))) ∧ ∀ n ∈ z0, (Lit.int .u8 n).wf = true) (y0 : len0 * 1 ≤ 140737488351232) :
  Calls Try.prog 12 #[.slice a0 len0 cap0] w fun e w' => e = .returned (.bool true) ∧ Below w.heap.size w w' := by
 obtain ⟨l0, rfl, hr0, hm0, hw0, hc0⟩ := ReadsInt.ofRowC w0
 obtain ⟨k, h⟩ := P l0 hm0 y0 hw0
 refine (laws_FnBlkPut.calls k _ _ l0 true w (Kd.C_of_reads (d := (0 : Int)) (h1 := fun _ => rfl) hr0) hc0 h).mono ?_
 rintro e w' ⟨rfl, hd⟩
 exact ⟨rfl, hd⟩

end Go.Proofs.Ytdcdaclmicmiaaa.P
