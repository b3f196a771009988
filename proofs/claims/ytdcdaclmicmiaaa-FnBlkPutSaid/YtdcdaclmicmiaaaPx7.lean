-- printed by pprint.py (this session's program over the kit's printer) out of the translation. Lean checks it.
import Derived.Test.YtdcdaclmicmiaaaPx0
import Derived.Test.YtdcdaclmicmiaaaPx4
namespace Go.Proofs.Ytdcdaclmicmiaaa.P
open Go.RowKit Go.Proofs.YtdcdaclmicmiaaaX Go.Proofs.YtdcdaclmicmiaaaW.PrintWords Go.Proofs.YtdcdaclmicmiaaaW.PrintLast Go.Proofs.YtdcdaclmicmiaaaW.PrintMore
attribute [local go_sem] max2_int min2_int max_two min_two max_three min_three max_four min_four   -- for this text's walks alone
set_option linter.unusedVariables false
set_option linter.unusedSimpArgs false

/-! ### spec_BlkPut: function 38 -/
mutual
def spec_BlkPut.l0 : Nat → List (S55) → Int → Int → Int → List (S55) → Bool → Int → Int → Int → Int → Int → Option ((List (S55)) × Bool)
 | 0, _, _, _, _, _, _, _, _, _, _, _ => none
 | k + 1, x0, x1, x2, x3, x12, x14, x15, x363000, x363001, x363002, x363003 => if x15 < (x0.length : Int) then (if 0 ≤ x15 then (if ((rd_T55 x0 x15).f0) = x1 then (if ((rd_T55 x0 x15).f1) = x2 then (spec_BlkPut.j1 k x0 x1 x2 x3 x12 x14 x15 (((rd_T55 x0 x15).f2) == x3) x363000 x363001 x363002 x363003 ((rd_T55 x0 x15).f0) ((rd_T55 x0 x15).f1) ((rd_T55 x0 x15).f2) ((rd_T55 x0 x15).f3)) else (spec_BlkPut.j1 k x0 x1 x2 x3 x12 x14 x15 false x363000 x363001 x363002 x363003 ((rd_T55 x0 x15).f0) ((rd_T55 x0 x15).f1) ((rd_T55 x0 x15).f2) ((rd_T55 x0 x15).f3))) else (spec_BlkPut.j1 k x0 x1 x2 x3 x12 x14 x15 false x363000 x363001 x363002 x363003 ((rd_T55 x0 x15).f0) ((rd_T55 x0 x15).f1) ((rd_T55 x0 x15).f2) ((rd_T55 x0 x15).f3))) else (none)) else (if x14 = true then ((spec_BlkOk.f k x12).bind fun t376 => (if t376 = true then (some (x12, true)) else ((some (([] : List (S55)) : List (S55))).bind fun y377 => (if y377.length + x0.length < 4398046511104 then (some ((y377 ++ x0), false)) else (none))))) else (if x12.length < 4398046511104 then ((some (x12 ++ [(⟨x363000, x363001, x363002, x363003⟩ : S55)] : List (S55))).bind fun y383 => ((spec_BlkOk.f k y383).bind fun t386 => (if t386 = true then (some (y383, true)) else ((some (([] : List (S55)) : List (S55))).bind fun y387 => (if y387.length + x0.length < 4398046511104 then (some ((y387 ++ x0), false)) else (none)))))) else (none)))
def spec_BlkPut.j1 : Nat → List (S55) → Int → Int → Int → List (S55) → Bool → Int → Bool → Int → Int → Int → Int → Int → Int → Int → Int → Option ((List (S55)) × Bool)
 | 0, _, _, _, _, _, _, _, _, _, _, _, _, _, _, _, _ => none
 | k + 1, x0, x1, x2, x3, x12, x14, x15, x17, x363000, x363001, x363002, x363003, x366000, x366001, x366002, x366003 => if x14 = true then (spec_BlkPut.j2 k x0 x1 x2 x3 x12 x14 x15 x17 false x363000 x363001 x363002 x363003 x366000 x366001 x366002 x366003) else ((spec_l3Before.f x366000 x366001 x366002 x366003 x1 x2 x3).bind fun t366 => (spec_BlkPut.j2 k x0 x1 x2 x3 x12 x14 x15 x17 (!t366) x363000 x363001 x363002 x363003 x366000 x366001 x366002 x366003))
def spec_BlkPut.j2 : Nat → List (S55) → Int → Int → Int → List (S55) → Bool → Int → Bool → Bool → Int → Int → Int → Int → Int → Int → Int → Int → Option ((List (S55)) × Bool)
 | 0, _, _, _, _, _, _, _, _, _, _, _, _, _, _, _, _, _ => none
 | k + 1, x0, x1, x2, x3, x12, x14, x15, x17, x63, x363000, x363001, x363002, x363003, x366000, x366001, x366002, x366003 => if x63 = true then (if x12.length < 4398046511104 then ((some (x12 ++ [(⟨x363000, x363001, x363002, x363003⟩ : S55)] : List (S55))).bind fun y367 => (if x17 = true then (spec_BlkPut.l0 k x0 x1 x2 x3 y367 true (wrap64 (x15 + 1)) x363000 x363001 x363002 x363003) else (if y367.length < 4398046511104 then (spec_BlkPut.l0 k x0 x1 x2 x3 (y367 ++ [(⟨x366000, x366001, x366002, x366003⟩ : S55)]) true (wrap64 (x15 + 1)) x363000 x363001 x363002 x363003) else (none)))) else (none)) else (if x17 = true then (spec_BlkPut.l0 k x0 x1 x2 x3 x12 x14 (wrap64 (x15 + 1)) x363000 x363001 x363002 x363003) else (if x12.length < 4398046511104 then (spec_BlkPut.l0 k x0 x1 x2 x3 (x12 ++ [(⟨x366000, x366001, x366002, x366003⟩ : S55)]) x14 (wrap64 (x15 + 1)) x363000 x363001 x363002 x363003) else (none)))
end
def spec_BlkPut.f (k : Nat) (l0 : List (S55)) (a1 : Int) (a2 : Int) (a3 : Int) (a4 : Int) : Option ((List (S55)) × Bool) := (some (([] : List (S55)) : List (S55))).bind fun y359 => ((spec_BlkOk.f k l0).bind fun t363 => (if t363 = true then (spec_BlkPut.l0 k l0 a1 a2 a3 y359 false 0 a1 a2 a3 a4) else (some (y359, false))))
theorem spec_BlkPut.mono_l : ∀ k, (∀ y0 y1 y2 y3 y4 y5 y6 y7 y8 y9 y10, LeO (spec_BlkPut.l0 k y0 y1 y2 y3 y4 y5 y6 y7 y8 y9 y10) (spec_BlkPut.l0 (k + 1) y0 y1 y2 y3 y4 y5 y6 y7 y8 y9 y10)) ∧ (∀ y0 y1 y2 y3 y4 y5 y6 y7 y8 y9 y10 y11 y12 y13 y14 y15, LeO (spec_BlkPut.j1 k y0 y1 y2 y3 y4 y5 y6 y7 y8 y9 y10 y11 y12 y13 y14 y15) (spec_BlkPut.j1 (k + 1) y0 y1 y2 y3 y4 y5 y6 y7 y8 y9 y10 y11 y12 y13 y14 y15)) ∧ (∀ y0 y1 y2 y3 y4 y5 y6 y7 y8 y9 y10 y11 y12 y13 y14 y15 y16, LeO (spec_BlkPut.j2 k y0 y1 y2 y3 y4 y5 y6 y7 y8 y9 y10 y11 y12 y13 y14 y15 y16) (spec_BlkPut.j2 (k + 1) y0 y1 y2 y3 y4 y5 y6 y7 y8 y9 y10 y11 y12 y13 y14 y15 y16))
 | 0 => ⟨fun _ _ _ _ _ _ _ _ _ _ _ r h => by simp [spec_BlkPut.l0] at h, fun _ _ _ _ _ _ _ _ _ _ _ _ _ _ _ _ r h => by simp [spec_BlkPut.j1] at h, fun _ _ _ _ _ _ _ _ _ _ _ _ _ _ _ _ _ r h => by simp [spec_BlkPut.j2] at h⟩
 | k + 1 => by
  obtain ⟨ih0, ih1, ih2⟩ := spec_BlkPut.mono_l k
  refine ⟨?_, ?_, ?_⟩
  ·intro y0 y1 y2 y3 y4 y5 y6 y7 y8 y9 y10
   unfold spec_BlkPut.l0
   repeat' first
   | (with_reducible exact ih0 _ _ _ _ _ _ _ _ _ _ _)
   | (with_reducible exact ih1 _ _ _ _ _ _ _ _ _ _ _ _ _ _ _ _)
   | (with_reducible exact ih2 _ _ _ _ _ _ _ _ _ _ _ _ _ _ _ _ _)
   | (with_reducible exact spec_BlkOk.mono _ _)
   | (with_reducible exact LeO.refl _)
   | (with_reducible exact LeO.none _)
   | (with_reducible refine LeO.ite ?_ ?_)
   | (with_reducible refine LeO.bind ?_ (fun _ => ?_))
   | exact ih0 _ _ _ _ _ _ _ _ _ _ _
   | exact ih1 _ _ _ _ _ _ _ _ _ _ _ _ _ _ _ _
   | exact ih2 _ _ _ _ _ _ _ _ _ _ _ _ _ _ _ _ _
   | exact spec_BlkOk.mono _ _
   | exact LeO.none _
   | refine LeO.ite ?_ ?_
   | refine LeO.bind ?_ (fun _ => ?_)
  ·intro y0 y1 y2 y3 y4 y5 y6 y7 y8 y9 y10 y11 y12 y13 y14 y15
   unfold spec_BlkPut.j1
   repeat' first
   | (with_reducible exact ih0 _ _ _ _ _ _ _ _ _ _ _)
   | (with_reducible exact ih1 _ _ _ _ _ _ _ _ _ _ _ _ _ _ _ _)
   | (with_reducible exact ih2 _ _ _ _ _ _ _ _ _ _ _ _ _ _ _ _ _)
   | (with_reducible exact spec_BlkOk.mono _ _)
   | (with_reducible exact LeO.refl _)
   | (with_reducible exact LeO.none _)
   | (with_reducible refine LeO.ite ?_ ?_)
   | (with_reducible refine LeO.bind ?_ (fun _ => ?_))
   | exact ih0 _ _ _ _ _ _ _ _ _ _ _
   | exact ih1 _ _ _ _ _ _ _ _ _ _ _ _ _ _ _ _
   | exact ih2 _ _ _ _ _ _ _ _ _ _ _ _ _ _ _ _ _
   | exact spec_BlkOk.mono _ _
   | exact LeO.none _
   | refine LeO.ite ?_ ?_
   | refine LeO.bind ?_ (fun _ => ?_)
  ·intro y0 y1 y2 y3 y4 y5 y6 y7 y8 y9 y10 y11 y12 y13 y14 y15 y16
   unfold spec_BlkPut.j2
   repeat' first
   | (with_reducible exact ih0 _ _ _ _ _ _ _ _ _ _ _)
   | (with_reducible exact ih1 _ _ _ _ _ _ _ _ _ _ _ _ _ _ _ _)
   | (with_reducible exact ih2 _ _ _ _ _ _ _ _ _ _ _ _ _ _ _ _ _)
   | (with_reducible exact spec_BlkOk.mono _ _)
   | (with_reducible exact LeO.refl _)
   | (with_reducible exact LeO.none _)
   | (with_reducible refine LeO.ite ?_ ?_)
   | (with_reducible refine LeO.bind ?_ (fun _ => ?_))
   | exact ih0 _ _ _ _ _ _ _ _ _ _ _
   | exact ih1 _ _ _ _ _ _ _ _ _ _ _ _ _ _ _ _
   | exact ih2 _ _ _ _ _ _ _ _ _ _ _ _ _ _ _ _ _
   | exact spec_BlkOk.mono _ _
   | exact LeO.none _
   | refine LeO.ite ?_ ?_
   | refine LeO.bind ?_ (fun _ => ?_)
theorem spec_BlkPut.mono : ∀ a0 a1 a2 a3 a4 k, LeO (spec_BlkPut.f k a0 a1 a2 a3 a4) (spec_BlkPut.f (k + 1) a0 a1 a2 a3 a4) := by
 intro a0 a1 a2 a3 a4 k
 obtain ⟨ih0, ih1, ih2⟩ := spec_BlkPut.mono_l k
 unfold spec_BlkPut.f
 repeat' first
   | (with_reducible exact ih0 _ _ _ _ _ _ _ _ _ _ _)
   | (with_reducible exact ih1 _ _ _ _ _ _ _ _ _ _ _ _ _ _ _ _)
   | (with_reducible exact ih2 _ _ _ _ _ _ _ _ _ _ _ _ _ _ _ _ _)
   | (with_reducible exact spec_BlkOk.mono _ _)
   | (with_reducible exact LeO.refl _)
   | (with_reducible exact LeO.none _)
   | (with_reducible refine LeO.ite ?_ ?_)
   | (with_reducible refine LeO.bind ?_ (fun _ => ?_))
   | exact ih0 _ _ _ _ _ _ _ _ _ _ _
   | exact ih1 _ _ _ _ _ _ _ _ _ _ _ _ _ _ _ _
   | exact ih2 _ _ _ _ _ _ _ _ _ _ _ _ _ _ _ _ _
   | exact spec_BlkOk.mono _ _
   | exact LeO.none _
   | refine LeO.ite ?_ ?_
   | refine LeO.bind ?_ (fun _ => ?_)
set_option maxHeartbeats 8000000 in
set_option maxRecDepth 100000 in
theorem spec_BlkPut.calls (k : Nat) (A0 : Option Addr) (c0 : Nat) (l0 : List (S55)) (a1 : Int) (a2 : Int) (a3 : Int) (a4 : Int) (r1 : List (S55)) (r2 : Bool) (w : World) (hr0 : Kd.C k55 w A0 l0.length l0) (hc0 : l0.length ≤ c0) (h : spec_BlkPut.f k l0 a1 a2 a3 a4 = some (r1, r2)) :
  Calls Try.prog 38 #[.slice A0 l0.length c0, .int .i64 a1, .int .i64 a2, .int .i64 a3, .int .i64 a4] w fun e w' => ∃ v0_ : Value, e = .returned (.tuple #[v0_, .bool r2]) ∧ Kd.R k55 55 w' w.heap.size (fun _ => True) v0_ r1 ∧ Below w.heap.size w w' := by
 have hu55 := Try.underlying55
 have HR0 := Aside0.mk hr0
 have HC0 := Aside0.mk hc0
 clear hr0 hc0
 have HB := Aside0.mk (Below.refl w.heap.size w)
 have H : ((some (([] : List (S55)) : List (S55))).bind fun y359 => ((spec_BlkOk.f k l0).bind fun t363 => (if t363 = true then (spec_BlkPut.l0 k l0 a1 a2 a3 y359 false 0 a1 a2 a3 a4) else (some (y359, false))))) = some (r1, r2) := h
 clear h
 obtain ⟨y359, hy359⟩ : ∃ y_ : List (S55), y_ = (([] : List (S55))) := ⟨_, rfl⟩
 replace H : ((spec_BlkOk.f k l0).bind fun t363 => (if t363 = true then (spec_BlkPut.l0 k l0 a1 a2 a3 y359 false 0 a1 a2 a3 a4) else (some (y359, false)))) = some (r1, r2) := by first | (rw [hy359]; with_reducible exact H) | (have H2_ := (Option.bind_some _ _).symm.trans H; rw [hy359]; with_reducible exact H2_) | (have H2_ := (Option.bind_some _ _).symm.trans H; with_reducible exact H2_) | with_reducible exact H | (rw [hy359]; exact H) | exact H
 have Ny359 := Aside0.mk hy359
 clear hy359
 replace H := Option.bind_eq_some_iff.mp H
 obtain ⟨t363, A60, H⟩ := H
 replace H : (if t363 = true then (spec_BlkPut.l0 k l0 a1 a2 a3 y359 false 0 a1 a2 a3 a4) else (some (y359, false))) = some (r1, r2) := H
 have A6 := Aside0.mk A60
 clear A60
 by_cases c7 : t363 = true
 ·subst c7
  have H1 : (spec_BlkPut.l0 k l0 a1 a2 a3 y359 false 0 a1 a2 a3 a4) = some (r1, r2) := by rw [if_pos rfl] at H; exact H
  clear H
  have H := H1
  clear H1
  have H' := Aside0.mk H
  clear H
  go_enter Try.func38, Try.ntmps38
  go_wp2_with (first | ((with_reducible refine gate_dst (N := 18) rfl ?_); refine Kd.R_lit k55 _ 55 ?hg (N := 18) ?hd (xs := ([] : List (S55))) (inner := []) (ok := fun _ => True) (okp := fun _ => True) ?hr ?hp (fun _ hk => hk) trivial (Below.refl _ _) (Nat.le_refl _) (by simp) ?_; (case hd => rfl); (case hg => rfl); (case hr => first | (go_simp; done) | (go_simp; rfl)); (case hp => exact (Reps.none _ _)); intro v360 w8 ho9 hb hg_ hnew_; clear hg_ hnew_; (first | rw [← Ny359.out] at ho9 | (simp only [Int.reduceToNat] at ho9; rw [← Ny359.out] at ho9)); have n0_ := Aside0.mk (Kd.R_lower ho9 (below_size (pB HB.out))); have n1_ := Aside0.mk (below_step (pB HB.out) hb); clear HB; have HO361 := n0_; have HB := n1_; clear n0_ n1_; clear hb ho9) | ((with_reducible refine gate_dst (N := 13) rfl ?_); refine box_event ?hg (N := 13) ?hd (cs := #[.int .i64 0, .int .i64 0, .int .i64 0, .int .i64 0]) (t := 55) ?hr ?_; (case hd => rfl); (case hg => rfl); (case hr => first | (go_simp; done) | (go_simp; rfl)); intro gb362 hg w10 hbox hb; have n0_ := Aside0.mk (Kd.R_below (Kd.R_elderB (pR HO361.out) gb362 (Nat.le_of_eq hg.symm)) hb); have n1_ := Aside0.mk (below_step (pB HB.out) hb); have n2_ := Aside0.mk (hbox); have n3_ := Aside0.mk ((by rw [hg]; exact (below_size (pB HB.out)) : w.heap.size ≤ gb362)); have n4_ := Aside0.mk ((by rw [hg]; exact (below_size (pB HB.out)) : w.heap.size ≤ gb362)); clear HO361; clear HB; have HO361 := n0_; have HB := n1_; have BK362 := n2_; have GW362 := n3_; have GE362 := n4_; clear n0_ n1_ n2_ n3_ n4_; clear hb hbox hg; have hcz11_0 : w10.cell? ⟨gb362, 0, none⟩ = some (.int .i64 0) := (blk_cell BK362.out 0).trans rfl; have hcz11_1 : w10.cell? ⟨gb362, 1, none⟩ = some (.int .i64 0) := (blk_cell BK362.out 1).trans rfl; have hcz11_2 : w10.cell? ⟨gb362, 2, none⟩ = some (.int .i64 0) := (blk_cell BK362.out 2).trans rfl; have hcz11_3 : w10.cell? ⟨gb362, 3, none⟩ = some (.int .i64 0) := (blk_cell BK362.out 3).trans rfl; have hfz11_0 := blk_frozen BK362.out 0; have hfz11_1 := blk_frozen BK362.out 1; have hfz11_2 := blk_frozen BK362.out 2; have hfz11_3 := blk_frozen BK362.out 3) | ((with_reducible refine gate_callee (f := 21) rfl ?_); refine goesL_ (some 25) rfl rfl Try.func21 (by kernel_rfl) rfl #[.slice A0 l0.length c0] rfl bM ?_; (with_reducible refine (spec_BlkOk.calls k _ _ l0 true _ ?side1 ?side2 A6.out).mono ?_); (case side1 => exact Kd.C_below HR0.out (by repeat (first | (with_reducible first | exact HB.out | apply below_alloc | apply pw_below_drewN | apply below_drew1 | refine below_set ?_ GE362.out) | exact HB.out))); (case side2 => exact HC0.out); rintro e w12 ⟨rfl, hb⟩; refine ⟨_, rfl, ?_⟩; have n0_ := Aside0.mk (Kd.R_below (pR (Kd.R_mono (Kd.R_far (p := ⟨gb362, 3, none⟩) (Kd.R_far (p := ⟨gb362, 2, none⟩) (Kd.R_far (p := ⟨gb362, 1, none⟩) (Kd.R_far (p := ⟨gb362, 0, none⟩) (Kd.R_mono HO361.out (fun k_ hk => (⟨hk, hk.2⟩ : _ ∧ k_ ≠ gb362))) (fun _ hk => hk.2) (.int .i64 a1)) (fun _ hk => hk.2) (.int .i64 a2)) (fun _ hk => hk.2) (.int .i64 a3)) (fun _ hk => hk.2) (.int .i64 a4)) (fun _ h_ => h_.1))) hb); have n1_ := Aside0.mk (blk_below (g := gb362) (o := .cells #[.int .i64 a1, .int .i64 a2, .int .i64 a3, .int .i64 a4] 55 (0, 0)) (by (with_reducible repeat (first | refine blk_drewN ?_ _ | refine blk_drew ?_ | refine blk_alloc ?_ _)); refine blk_put (cs := #[.int .i64 a1, .int .i64 a2, .int .i64 a3, .int .i64 0]) ?_ 3 _ rfl; (with_reducible repeat (first | refine blk_drewN ?_ _ | refine blk_drew ?_ | refine blk_alloc ?_ _)); refine blk_put (cs := #[.int .i64 a1, .int .i64 a2, .int .i64 0, .int .i64 0]) ?_ 2 _ rfl; (with_reducible repeat (first | refine blk_drewN ?_ _ | refine blk_drew ?_ | refine blk_alloc ?_ _)); refine blk_put (cs := #[.int .i64 a1, .int .i64 0, .int .i64 0, .int .i64 0]) ?_ 1 _ rfl; (with_reducible repeat (first | refine blk_drewN ?_ _ | refine blk_drew ?_ | refine blk_alloc ?_ _)); refine blk_put (cs := #[.int .i64 0, .int .i64 0, .int .i64 0, .int .i64 0]) ?_ 0 _ rfl; (with_reducible repeat (first | refine blk_drewN ?_ _ | refine blk_drew ?_ | refine blk_alloc ?_ _)); exact BK362.out) hb); have n2_ := Aside0.mk (below_step (by repeat (first | (with_reducible first | exact HB.out | apply below_alloc | apply pw_below_drewN | apply below_drew1 | refine below_set ?_ GE362.out) | exact HB.out)) hb); clear HO361; clear BK362; clear HB; have HO361 := n0_; have BK362 := n1_; have HB := n2_; clear n0_ n1_ n2_; (try clear hb); (try clear hb2); (try clear hk); (try clear hi)))
  go_loopg [12, 14, 15] k (fun kq v12 v14 v15 w' => ∃ (x12_1 : List (S55)) (x14_1 : Bool) (x15_1 : Int), v14 = .bool x14_1 ∧ v15 = .int .i64 x15_1 ∧ Aside0 (spec_BlkPut.l0 kq l0 a1 a2 a3 x12_1 x14_1 x15_1 a1 a2 a3 a4 = some (r1, r2)) ∧ Aside0 (kq ≤ k) ∧ Aside0 (Kd.R k55 55 w' w.heap.size (fun k_ => k_ ≠ gb362) v12 x12_1) ∧ Aside0 (w'.heap[gb362]? = some (.cells #[.int .i64 a1, .int .i64 a2, .int .i64 a3, .int .i64 a4] 55 (0, 0))) ∧ Aside0 (Below w.heap.size w w'))
  case atStart => exact ⟨(y359), (false), (0), (by first | rfl | (simp; done) | (simp [*]; done)), (by first | rfl | (simp; done) | (simp [*]; done)), H', ⟨Nat.le_refl _⟩, ⟨pR (Kd.R_mono HO361.out (fun _ hk => hk.2))⟩, ⟨pK BK362.out⟩, ⟨by repeat (first | (with_reducible first | exact HB.out | apply below_alloc | apply pw_below_drewN | apply below_drew1 | refine below_set ?_ GE362.out) | exact HB.out)⟩⟩
  case round =>
   clear H'
   try clear c2
   try clear p2
   try clear c3
   try clear c7
   try clear hcz11_0
   try clear hcz11_1
   try clear hcz11_2
   try clear hcz11_3
   try clear hfz11_0
   try clear hfz11_1
   try clear hfz11_2
   try clear hfz11_3
   obtain ⟨x12_1, x14_1, x15_1, rfl, rfl, HA, HK1, HO_12, BK362, HB⟩ := hrel
   cases gk with
   | zero => exact absurd HA.out (by simp [spec_BlkPut.l0])
   | succ k1 =>
    have H := HA.out
    clear HA
    simp only [spec_BlkPut.l0] at H
    by_cases c13 : x15_1 < (l0.length : Int)
    ·rw [if_pos c13] at H
     have c13b0 : decide (x15_1 < (l0.length : Int)) = true := decide_eq_true c13
     clear c13
     by_cases c14 : 0 ≤ x15_1
     ·rw [if_pos c14] at H
      have c14b0 : decide (0 ≤ x15_1) = true := decide_eq_true c14
      clear c14
      have HC15 := Aside0.mk H
      clear H
      have p364 : 0 ≤ (x15_1 : Int) := of_decide_eq_true bA
      have q364 : x15_1 < (l0.length : Int) := of_decide_eq_true bA
      obtain ⟨ad364, e364, hx364_0, hx364_1, hx364_2, hx364_3⟩ := at_T55 HR0.out x15_1 p364 q364
      cases e364
      replace hx364_0 := (HB.out.cell (World.block_lt_of_cell? w _ hx364_0)).trans hx364_0
      replace hx364_1 := (HB.out.cell (World.block_lt_of_cell? w _ hx364_1)).trans hx364_1
      replace hx364_2 := (HB.out.cell (World.block_lt_of_cell? w _ hx364_2)).trans hx364_2
      replace hx364_3 := (HB.out.cell (World.block_lt_of_cell? w _ hx364_3)).trans hx364_3
      replace p364 := eq_true p364
      replace q364 := eq_true q364
      go_upto_region 10 with (first | ((with_reducible refine gate_dst (N := 16) rfl ?_); refine box_event ?hg (N := 16) ?hd (cs := #[.int .i64 0, .int .i64 0, .int .i64 0, .int .i64 0]) (t := 55) ?hr ?_; (case hd => rfl); (case hg => rfl); (case hr => first | (go_simp; done) | (go_simp; rfl)); intro gb365 hg w16 hbox hb; have n0_ := Aside0.mk (Kd.R_below (Kd.R_elderB (pR HO_12.out) gb365 (Nat.le_of_eq hg.symm)) hb); have n1_ := Aside0.mk (blk_below (g := gb362) (o := .cells #[.int .i64 a1, .int .i64 a2, .int .i64 a3, .int .i64 a4] 55 (0, 0)) (pK BK362.out) hb); have n2_ := Aside0.mk (below_step (by repeat (first | (with_reducible first | exact HB.out | apply below_alloc | apply pw_below_drewN | apply below_drew1 | refine below_set ?_ GE362.out) | exact HB.out)) hb); have n3_ := Aside0.mk (hbox); have n4_ := Aside0.mk ((by rw [hg]; exact (below_size (by repeat (first | (with_reducible first | exact HB.out | apply below_alloc | apply pw_below_drewN | apply below_drew1 | refine below_set ?_ GE362.out) | exact HB.out))) : w.heap.size ≤ gb365)); have n5_ := Aside0.mk ((by rw [hg]; exact (below_size (by repeat (first | (with_reducible first | exact HB.out | apply below_alloc | apply pw_below_drewN | apply below_drew1 | refine below_set ?_ GE362.out) | exact HB.out))) : w.heap.size ≤ gb365)); have n6_ := Aside0.mk ((by rw [hg]; exact Nat.ne_of_lt (blk_lt (g := gb362) (o := .cells #[.int .i64 a1, .int .i64 a2, .int .i64 a3, .int .i64 a4] 55 (0, 0)) (pK BK362.out)) : gb362 ≠ gb365)); have n7_ := Aside0.mk ((by rw [hg]; exact Nat.ne_of_gt (blk_lt (g := gb362) (o := .cells #[.int .i64 a1, .int .i64 a2, .int .i64 a3, .int .i64 a4] 55 (0, 0)) (pK BK362.out)) : gb365 ≠ gb362)); clear HO_12; clear BK362; clear HB; have HO_12 := n0_; have BK362 := n1_; have HB := n2_; have BK365 := n3_; have GW365 := n4_; have GE365 := n5_; have NB362_365 := n6_; have NB365_362 := n7_; clear n0_ n1_ n2_ n3_ n4_ n5_ n6_ n7_; clear hb hbox hg; have hnb17 := NB365_362.out; have hnc17 := NB362_365.out; have hcz18_0 : w16.cell? ⟨gb365, 0, none⟩ = some (.int .i64 0) := (blk_cell BK365.out 0).trans rfl; have hcz18_1 : w16.cell? ⟨gb365, 1, none⟩ = some (.int .i64 0) := (blk_cell BK365.out 1).trans rfl; have hcz18_2 : w16.cell? ⟨gb365, 2, none⟩ = some (.int .i64 0) := (blk_cell BK365.out 2).trans rfl; have hcz18_3 : w16.cell? ⟨gb365, 3, none⟩ = some (.int .i64 0) := (blk_cell BK365.out 3).trans rfl; have hfz18_0 := blk_frozen BK365.out 0; have hfz18_1 := blk_frozen BK365.out 1; have hfz18_2 := blk_frozen BK365.out 2; have hfz18_3 := blk_frozen BK365.out 3))
      (try simp only [Act.put, List.setIfInBounds_toArray, List.set_cons_zero, List.set_cons_succ])
      go_cut [17] (fun v17 wc => ∃ (kq : Nat) (x17_14 : Bool), v17 = .bool x17_14 ∧ Aside0 (spec_BlkPut.j1 kq l0 a1 a2 a3 x12_1 x14_1 x15_1 x17_14 a1 a2 a3 a4 ((rd_T55 l0 x15_1).f0) ((rd_T55 l0 x15_1).f1) ((rd_T55 l0 x15_1).f2) ((rd_T55 l0 x15_1).f3) = some (r1, r2)) ∧ Aside0 (kq ≤ k1) ∧ Aside0 (Kd.R k55 55 wc w.heap.size (fun k_ => k_ ≠ gb362 ∧ k_ ≠ gb365) u12 x12_1) ∧ Aside0 (wc.heap[gb362]? = some (.cells #[.int .i64 a1, .int .i64 a2, .int .i64 a3, .int .i64 a4] 55 (0, 0))) ∧ Aside0 (wc.heap[gb365]? = some (.cells #[.int .i64 ((rd_T55 l0 x15_1).f0), .int .i64 ((rd_T55 l0 x15_1).f1), .int .i64 ((rd_T55 l0 x15_1).f2), .int .i64 ((rd_T55 l0 x15_1).f3)] 55 (0, 0))) ∧ Aside0 (Below w.heap.size w wc))
      case first =>
       have H := HC15.out
       clear HC15
       by_cases c19 : ((rd_T55 l0 x15_1).f0) = a1
       ·rw [if_pos c19] at H
        have c19b0 : (((rd_T55 l0 x15_1).f0) == a1) = true := beq_iff_eq.mpr c19
        have c19b1 : (((rd_T55 l0 x15_1).f0) != a1) = false := bne_eq_false_iff_eq.mpr c19
        clear c19
        (first | rw [c19b0] | (simp only [i64_w, i32_w]; rw [c19b0]) | skip)
        by_cases c20 : ((rd_T55 l0 x15_1).f1) = a2
        ·rw [if_pos c20] at H
         have c20b0 : (((rd_T55 l0 x15_1).f1) == a2) = true := beq_iff_eq.mpr c20
         have c20b1 : (((rd_T55 l0 x15_1).f1) != a2) = false := bne_eq_false_iff_eq.mpr c20
         clear c20
         have H' := Aside0.mk H
         clear H
         have hnb21 := NB365_362.out
         have hnc21 := NB362_365.out
         have hcz22_0 : w16.cell? ⟨gb365, 0, none⟩ = some (.int .i64 0) := (blk_cell BK365.out 0).trans rfl
         have hcz22_1 : w16.cell? ⟨gb365, 1, none⟩ = some (.int .i64 0) := (blk_cell BK365.out 1).trans rfl
         have hcz22_2 : w16.cell? ⟨gb365, 2, none⟩ = some (.int .i64 0) := (blk_cell BK365.out 2).trans rfl
         have hcz22_3 : w16.cell? ⟨gb365, 3, none⟩ = some (.int .i64 0) := (blk_cell BK365.out 3).trans rfl
         have hfz22_0 := blk_frozen BK365.out 0
         have hfz22_1 := blk_frozen BK365.out 1
         have hfz22_2 := blk_frozen BK365.out 2
         have hfz22_3 := blk_frozen BK365.out 3
         go_wp2
         go_meet
         case rel => exact ⟨_, ((((rd_T55 l0 x15_1).f2) == a3)), (by first | rfl | (simp; done) | (simp [*]; done)), H', ⟨by have := HK1.out; first | omega | exact Nat.le_refl _⟩, ⟨pR (Kd.R_mono (Kd.R_far (p := ⟨gb365, 3, none⟩) (Kd.R_far (p := ⟨gb365, 2, none⟩) (Kd.R_far (p := ⟨gb365, 1, none⟩) (Kd.R_far (p := ⟨gb365, 0, none⟩) (Kd.R_mono HO_12.out (fun k_ hk => (⟨hk, hk.2⟩ : _ ∧ k_ ≠ gb365))) (fun _ hk => hk.2) (.int .i64 ((rd_T55 l0 x15_1).f0))) (fun _ hk => hk.2) (.int .i64 ((rd_T55 l0 x15_1).f1))) (fun _ hk => hk.2) (.int .i64 ((rd_T55 l0 x15_1).f2))) (fun _ hk => hk.2) (.int .i64 ((rd_T55 l0 x15_1).f3))) (fun _ hk => ⟨hk.1.1, hk.1.2⟩))⟩, ⟨by (with_reducible repeat (first | refine blk_drewN ?_ _ | refine blk_drew ?_ | refine blk_alloc ?_ _)); refine blk_far ?_ NB362_365.out _; (with_reducible repeat (first | refine blk_drewN ?_ _ | refine blk_drew ?_ | refine blk_alloc ?_ _)); refine blk_far ?_ NB362_365.out _; (with_reducible repeat (first | refine blk_drewN ?_ _ | refine blk_drew ?_ | refine blk_alloc ?_ _)); refine blk_far ?_ NB362_365.out _; (with_reducible repeat (first | refine blk_drewN ?_ _ | refine blk_drew ?_ | refine blk_alloc ?_ _)); refine blk_far ?_ NB362_365.out _; (with_reducible repeat (first | refine blk_drewN ?_ _ | refine blk_drew ?_ | refine blk_alloc ?_ _)); exact BK362.out⟩, ⟨by (with_reducible repeat (first | refine blk_drewN ?_ _ | refine blk_drew ?_ | refine blk_alloc ?_ _)); refine blk_put (cs := #[.int .i64 ((rd_T55 l0 x15_1).f0), .int .i64 ((rd_T55 l0 x15_1).f1), .int .i64 ((rd_T55 l0 x15_1).f2), .int .i64 0]) ?_ 3 _ rfl; (with_reducible repeat (first | refine blk_drewN ?_ _ | refine blk_drew ?_ | refine blk_alloc ?_ _)); refine blk_put (cs := #[.int .i64 ((rd_T55 l0 x15_1).f0), .int .i64 ((rd_T55 l0 x15_1).f1), .int .i64 0, .int .i64 0]) ?_ 2 _ rfl; (with_reducible repeat (first | refine blk_drewN ?_ _ | refine blk_drew ?_ | refine blk_alloc ?_ _)); refine blk_put (cs := #[.int .i64 ((rd_T55 l0 x15_1).f0), .int .i64 0, .int .i64 0, .int .i64 0]) ?_ 1 _ rfl; (with_reducible repeat (first | refine blk_drewN ?_ _ | refine blk_drew ?_ | refine blk_alloc ?_ _)); refine blk_put (cs := #[.int .i64 0, .int .i64 0, .int .i64 0, .int .i64 0]) ?_ 0 _ rfl; (with_reducible repeat (first | refine blk_drewN ?_ _ | refine blk_drew ?_ | refine blk_alloc ?_ _)); exact BK365.out⟩, ⟨by repeat (first | (with_reducible first | exact HB.out | apply below_alloc | apply pw_below_drewN | apply below_drew1 | refine below_set ?_ GE362.out | refine below_set ?_ GE365.out) | exact HB.out)⟩⟩
        ·rw [if_neg c20] at H
         have c20b0 : (((rd_T55 l0 x15_1).f1) == a2) = false := beq_eq_false_iff_ne.mpr c20
         have c20b1 : (((rd_T55 l0 x15_1).f1) != a2) = true := bne_iff_ne.mpr c20
         have H' := Aside0.mk H
         clear H
         have hnb23 := NB365_362.out
         have hnc23 := NB362_365.out
         have hcz24_0 : w16.cell? ⟨gb365, 0, none⟩ = some (.int .i64 0) := (blk_cell BK365.out 0).trans rfl
         have hcz24_1 : w16.cell? ⟨gb365, 1, none⟩ = some (.int .i64 0) := (blk_cell BK365.out 1).trans rfl
         have hcz24_2 : w16.cell? ⟨gb365, 2, none⟩ = some (.int .i64 0) := (blk_cell BK365.out 2).trans rfl
         have hcz24_3 : w16.cell? ⟨gb365, 3, none⟩ = some (.int .i64 0) := (blk_cell BK365.out 3).trans rfl
         have hfz24_0 := blk_frozen BK365.out 0
         have hfz24_1 := blk_frozen BK365.out 1
         have hfz24_2 := blk_frozen BK365.out 2
         have hfz24_3 := blk_frozen BK365.out 3
         go_wp2
         go_meet
         case rel => exact ⟨_, (false), (by first | rfl | (simp; done) | (simp [*]; done)), H', ⟨by have := HK1.out; first | omega | exact Nat.le_refl _⟩, ⟨pR (Kd.R_mono (Kd.R_far (p := ⟨gb365, 3, none⟩) (Kd.R_far (p := ⟨gb365, 2, none⟩) (Kd.R_far (p := ⟨gb365, 1, none⟩) (Kd.R_far (p := ⟨gb365, 0, none⟩) (Kd.R_mono HO_12.out (fun k_ hk => (⟨hk, hk.2⟩ : _ ∧ k_ ≠ gb365))) (fun _ hk => hk.2) (.int .i64 ((rd_T55 l0 x15_1).f0))) (fun _ hk => hk.2) (.int .i64 ((rd_T55 l0 x15_1).f1))) (fun _ hk => hk.2) (.int .i64 ((rd_T55 l0 x15_1).f2))) (fun _ hk => hk.2) (.int .i64 ((rd_T55 l0 x15_1).f3))) (fun _ hk => ⟨hk.1.1, hk.1.2⟩))⟩, ⟨by (with_reducible repeat (first | refine blk_drewN ?_ _ | refine blk_drew ?_ | refine blk_alloc ?_ _)); refine blk_far ?_ NB362_365.out _; (with_reducible repeat (first | refine blk_drewN ?_ _ | refine blk_drew ?_ | refine blk_alloc ?_ _)); refine blk_far ?_ NB362_365.out _; (with_reducible repeat (first | refine blk_drewN ?_ _ | refine blk_drew ?_ | refine blk_alloc ?_ _)); refine blk_far ?_ NB362_365.out _; (with_reducible repeat (first | refine blk_drewN ?_ _ | refine blk_drew ?_ | refine blk_alloc ?_ _)); refine blk_far ?_ NB362_365.out _; (with_reducible repeat (first | refine blk_drewN ?_ _ | refine blk_drew ?_ | refine blk_alloc ?_ _)); exact BK362.out⟩, ⟨by (with_reducible repeat (first | refine blk_drewN ?_ _ | refine blk_drew ?_ | refine blk_alloc ?_ _)); refine blk_put (cs := #[.int .i64 ((rd_T55 l0 x15_1).f0), .int .i64 ((rd_T55 l0 x15_1).f1), .int .i64 ((rd_T55 l0 x15_1).f2), .int .i64 0]) ?_ 3 _ rfl; (with_reducible repeat (first | refine blk_drewN ?_ _ | refine blk_drew ?_ | refine blk_alloc ?_ _)); refine blk_put (cs := #[.int .i64 ((rd_T55 l0 x15_1).f0), .int .i64 ((rd_T55 l0 x15_1).f1), .int .i64 0, .int .i64 0]) ?_ 2 _ rfl; (with_reducible repeat (first | refine blk_drewN ?_ _ | refine blk_drew ?_ | refine blk_alloc ?_ _)); refine blk_put (cs := #[.int .i64 ((rd_T55 l0 x15_1).f0), .int .i64 0, .int .i64 0, .int .i64 0]) ?_ 1 _ rfl; (with_reducible repeat (first | refine blk_drewN ?_ _ | refine blk_drew ?_ | refine blk_alloc ?_ _)); refine blk_put (cs := #[.int .i64 0, .int .i64 0, .int .i64 0, .int .i64 0]) ?_ 0 _ rfl; (with_reducible repeat (first | refine blk_drewN ?_ _ | refine blk_drew ?_ | refine blk_alloc ?_ _)); exact BK365.out⟩, ⟨by repeat (first | (with_reducible first | exact HB.out | apply below_alloc | apply pw_below_drewN | apply below_drew1 | refine below_set ?_ GE362.out | refine below_set ?_ GE365.out) | exact HB.out)⟩⟩
       ·rw [if_neg c19] at H
        have c19b0 : (((rd_T55 l0 x15_1).f0) == a1) = false := beq_eq_false_iff_ne.mpr c19
        have c19b1 : (((rd_T55 l0 x15_1).f0) != a1) = true := bne_iff_ne.mpr c19
        (first | rw [c19b0] | (simp only [i64_w, i32_w]; rw [c19b0]) | skip)
        have H' := Aside0.mk H
        clear H
        have hnb25 := NB365_362.out
        have hnc25 := NB362_365.out
        have hcz26_0 : w16.cell? ⟨gb365, 0, none⟩ = some (.int .i64 0) := (blk_cell BK365.out 0).trans rfl
        have hcz26_1 : w16.cell? ⟨gb365, 1, none⟩ = some (.int .i64 0) := (blk_cell BK365.out 1).trans rfl
        have hcz26_2 : w16.cell? ⟨gb365, 2, none⟩ = some (.int .i64 0) := (blk_cell BK365.out 2).trans rfl
        have hcz26_3 : w16.cell? ⟨gb365, 3, none⟩ = some (.int .i64 0) := (blk_cell BK365.out 3).trans rfl
        have hfz26_0 := blk_frozen BK365.out 0
        have hfz26_1 := blk_frozen BK365.out 1
        have hfz26_2 := blk_frozen BK365.out 2
        have hfz26_3 := blk_frozen BK365.out 3
        go_wp2
        go_meet
        case rel => exact ⟨_, (false), (by first | rfl | (simp; done) | (simp [*]; done)), H', ⟨by have := HK1.out; first | omega | exact Nat.le_refl _⟩, ⟨pR (Kd.R_mono (Kd.R_far (p := ⟨gb365, 3, none⟩) (Kd.R_far (p := ⟨gb365, 2, none⟩) (Kd.R_far (p := ⟨gb365, 1, none⟩) (Kd.R_far (p := ⟨gb365, 0, none⟩) (Kd.R_mono HO_12.out (fun k_ hk => (⟨hk, hk.2⟩ : _ ∧ k_ ≠ gb365))) (fun _ hk => hk.2) (.int .i64 ((rd_T55 l0 x15_1).f0))) (fun _ hk => hk.2) (.int .i64 ((rd_T55 l0 x15_1).f1))) (fun _ hk => hk.2) (.int .i64 ((rd_T55 l0 x15_1).f2))) (fun _ hk => hk.2) (.int .i64 ((rd_T55 l0 x15_1).f3))) (fun _ hk => ⟨hk.1.1, hk.1.2⟩))⟩, ⟨by (with_reducible repeat (first | refine blk_drewN ?_ _ | refine blk_drew ?_ | refine blk_alloc ?_ _)); refine blk_far ?_ NB362_365.out _; (with_reducible repeat (first | refine blk_drewN ?_ _ | refine blk_drew ?_ | refine blk_alloc ?_ _)); refine blk_far ?_ NB362_365.out _; (with_reducible repeat (first | refine blk_drewN ?_ _ | refine blk_drew ?_ | refine blk_alloc ?_ _)); refine blk_far ?_ NB362_365.out _; (with_reducible repeat (first | refine blk_drewN ?_ _ | refine blk_drew ?_ | refine blk_alloc ?_ _)); refine blk_far ?_ NB362_365.out _; (with_reducible repeat (first | refine blk_drewN ?_ _ | refine blk_drew ?_ | refine blk_alloc ?_ _)); exact BK362.out⟩, ⟨by (with_reducible repeat (first | refine blk_drewN ?_ _ | refine blk_drew ?_ | refine blk_alloc ?_ _)); refine blk_put (cs := #[.int .i64 ((rd_T55 l0 x15_1).f0), .int .i64 ((rd_T55 l0 x15_1).f1), .int .i64 ((rd_T55 l0 x15_1).f2), .int .i64 0]) ?_ 3 _ rfl; (with_reducible repeat (first | refine blk_drewN ?_ _ | refine blk_drew ?_ | refine blk_alloc ?_ _)); refine blk_put (cs := #[.int .i64 ((rd_T55 l0 x15_1).f0), .int .i64 ((rd_T55 l0 x15_1).f1), .int .i64 0, .int .i64 0]) ?_ 2 _ rfl; (with_reducible repeat (first | refine blk_drewN ?_ _ | refine blk_drew ?_ | refine blk_alloc ?_ _)); refine blk_put (cs := #[.int .i64 ((rd_T55 l0 x15_1).f0), .int .i64 0, .int .i64 0, .int .i64 0]) ?_ 1 _ rfl; (with_reducible repeat (first | refine blk_drewN ?_ _ | refine blk_drew ?_ | refine blk_alloc ?_ _)); refine blk_put (cs := #[.int .i64 0, .int .i64 0, .int .i64 0, .int .i64 0]) ?_ 0 _ rfl; (with_reducible repeat (first | refine blk_drewN ?_ _ | refine blk_drew ?_ | refine blk_alloc ?_ _)); exact BK365.out⟩, ⟨by repeat (first | (with_reducible first | exact HB.out | apply below_alloc | apply pw_below_drewN | apply below_drew1 | refine below_set ?_ GE362.out | refine below_set ?_ GE365.out) | exact HB.out)⟩⟩
      case rest =>
       clear HC15
       try clear c1
       try clear c2
       try clear p2
       try clear c3
       try clear p3
       try clear q3
       try clear hx3
       try clear c7
       try clear c13
       try clear c13b0
       try clear c14
       try clear c14b0
       try clear c17
       try clear c19
       try clear c19b0
       try clear c19b1
       try clear c20
       try clear c20b0
       try clear c20b1
       try clear c21
       try clear c23
       try clear c25
       try clear hcz11_0
       try clear hcz11_1
       try clear hcz11_2
       try clear hcz11_3
       try clear hcz18_0
       try clear hcz18_1
       try clear hcz18_2
       try clear hcz18_3
       try clear hcz22_0
       try clear hcz22_1
       try clear hcz22_2
       try clear hcz22_3
       try clear hcz24_0
       try clear hcz24_1
       try clear hcz24_2
       try clear hcz24_3
       try clear hcz26_0
       try clear hcz26_1
       try clear hcz26_2
       try clear hcz26_3
       try clear hfz11_0
       try clear hfz11_1
       try clear hfz11_2
       try clear hfz11_3
       try clear hfz18_0
       try clear hfz18_1
       try clear hfz18_2
       try clear hfz18_3
       try clear hfz22_0
       try clear hfz22_1
       try clear hfz22_2
       try clear hfz22_3
       try clear hfz24_0
       try clear hfz24_1
       try clear hfz24_2
       try clear hfz24_3
       try clear hfz26_0
       try clear hfz26_1
       try clear hfz26_2
       try clear hfz26_3
       try clear hx364_0
       try clear hx364_1
       try clear hx364_2
       try clear hx364_3
       try clear p2
       try clear p364
       try clear q364
       obtain ⟨kq, x17_14, rfl, HA, HJ14, HO_12, BK362, BK365, HB⟩ := hcut
       cases kq with
       | zero => exact absurd HA.out (by simp [spec_BlkPut.j1])
       | succ kj14 =>
        have H := HA.out
        clear HA
        simp only [spec_BlkPut.j1] at H
        have HC27 := Aside0.mk H
        clear H
        go_upto_region 11 with (fail)
        go_cut [63] (fun v63 wc => ∃ (kq : Nat) (x63_26 : Bool), v63 = .bool x63_26 ∧ Aside0 (spec_BlkPut.j2 kq l0 a1 a2 a3 x12_1 x14_1 x15_1 x17_14 x63_26 a1 a2 a3 a4 ((rd_T55 l0 x15_1).f0) ((rd_T55 l0 x15_1).f1) ((rd_T55 l0 x15_1).f2) ((rd_T55 l0 x15_1).f3) = some (r1, r2)) ∧ Aside0 (kq ≤ kj14) ∧ Aside0 (Kd.R k55 55 wc w.heap.size (fun k_ => k_ ≠ gb362 ∧ k_ ≠ gb365) u12 x12_1) ∧ Aside0 (wc.heap[gb362]? = some (.cells #[.int .i64 a1, .int .i64 a2, .int .i64 a3, .int .i64 a4] 55 (0, 0))) ∧ Aside0 (wc.heap[gb365]? = some (.cells #[.int .i64 ((rd_T55 l0 x15_1).f0), .int .i64 ((rd_T55 l0 x15_1).f1), .int .i64 ((rd_T55 l0 x15_1).f2), .int .i64 ((rd_T55 l0 x15_1).f3)] 55 (0, 0))) ∧ Aside0 (Below w.heap.size w wc))
        case first =>
         have H := HC27.out
         clear HC27
         by_cases c28 : x14_1 = true
         ·subst c28
          have H1 : (spec_BlkPut.j2 kj14 l0 a1 a2 a3 x12_1 true x15_1 x17_14 false a1 a2 a3 a4 ((rd_T55 l0 x15_1).f0) ((rd_T55 l0 x15_1).f1) ((rd_T55 l0 x15_1).f2) ((rd_T55 l0 x15_1).f3)) = some (r1, r2) := by rw [if_pos rfl] at H; exact H
          clear H
          have H := H1
          clear H1
          have H' := Aside0.mk H
          clear H
          go_wp2
          go_meet
          case rel => exact ⟨_, (false), (by first | rfl | (simp; done) | (simp [*]; done)), H', ⟨by have := HK1.out; have := HJ14.out; first | omega | exact Nat.le_refl _⟩, ⟨pR HO_12.out⟩, ⟨pK BK362.out⟩, ⟨pK BK365.out⟩, ⟨by repeat (first | (with_reducible first | exact HB.out | apply below_alloc | apply pw_below_drewN | apply below_drew1 | refine below_set ?_ GE362.out | refine below_set ?_ GE365.out) | exact HB.out)⟩⟩
         ·replace c28 := Bool.eq_false_iff.mpr c28
          subst c28
          have H1 : ((spec_l3Before.f ((rd_T55 l0 x15_1).f0) ((rd_T55 l0 x15_1).f1) ((rd_T55 l0 x15_1).f2) ((rd_T55 l0 x15_1).f3) a1 a2 a3).bind fun t366 => (spec_BlkPut.j2 kj14 l0 a1 a2 a3 x12_1 false x15_1 x17_14 (!t366) a1 a2 a3 a4 ((rd_T55 l0 x15_1).f0) ((rd_T55 l0 x15_1).f1) ((rd_T55 l0 x15_1).f2) ((rd_T55 l0 x15_1).f3))) = some (r1, r2) := by rw [if_neg (show ¬ (false = true) by decide)] at H; exact H
          clear H
          have H := H1
          clear H1
          replace H := Option.bind_eq_some_iff.mp H
          obtain ⟨t366, A290, H⟩ := H
          replace H : (spec_BlkPut.j2 kj14 l0 a1 a2 a3 x12_1 false x15_1 x17_14 (!t366) a1 a2 a3 a4 ((rd_T55 l0 x15_1).f0) ((rd_T55 l0 x15_1).f1) ((rd_T55 l0 x15_1).f2) ((rd_T55 l0 x15_1).f3)) = some (r1, r2) := H
          have A29 := Aside0.mk A290
          clear A290
          have H' := Aside0.mk H
          clear H
          have hnb30 := NB365_362.out
          have hnc30 := NB362_365.out
          have hcz31_0 : wc.cell? ⟨gb365, 0, none⟩ = some (.int .i64 ((rd_T55 l0 x15_1).f0)) := (blk_cell BK365.out 0).trans rfl
          have hcz31_1 : wc.cell? ⟨gb365, 1, none⟩ = some (.int .i64 ((rd_T55 l0 x15_1).f1)) := (blk_cell BK365.out 1).trans rfl
          have hcz31_2 : wc.cell? ⟨gb365, 2, none⟩ = some (.int .i64 ((rd_T55 l0 x15_1).f2)) := (blk_cell BK365.out 2).trans rfl
          have hcz31_3 : wc.cell? ⟨gb365, 3, none⟩ = some (.int .i64 ((rd_T55 l0 x15_1).f3)) := (blk_cell BK365.out 3).trans rfl
          have hfz31_0 := blk_frozen BK365.out 0
          have hfz31_1 := blk_frozen BK365.out 1
          have hfz31_2 := blk_frozen BK365.out 2
          have hfz31_3 := blk_frozen BK365.out 3
          go_wp2_with (first | (go_at_call 47; (with_reducible refine (spec_l3Before.calls ((rd_T55 l0 x15_1).f0) ((rd_T55 l0 x15_1).f1) ((rd_T55 l0 x15_1).f2) ((rd_T55 l0 x15_1).f3) a1 a2 a3 t366 _ A29.out).mono ?_); rintro e w32 ⟨rfl, hb⟩; have n0_ := Aside0.mk (Kd.R_below (pR HO_12.out) hb); have n1_ := Aside0.mk (blk_below (g := gb362) (o := .cells #[.int .i64 a1, .int .i64 a2, .int .i64 a3, .int .i64 a4] 55 (0, 0)) (pK BK362.out) hb); have n2_ := Aside0.mk (blk_below (g := gb365) (o := .cells #[.int .i64 ((rd_T55 l0 x15_1).f0), .int .i64 ((rd_T55 l0 x15_1).f1), .int .i64 ((rd_T55 l0 x15_1).f2), .int .i64 ((rd_T55 l0 x15_1).f3)] 55 (0, 0)) (pK BK365.out) hb); have n3_ := Aside0.mk (below_step (by repeat (first | (with_reducible first | exact HB.out | apply below_alloc | apply pw_below_drewN | apply below_drew1 | refine below_set ?_ GE362.out | refine below_set ?_ GE365.out) | exact HB.out)) hb); clear HO_12; clear BK362; clear BK365; clear HB; have HO_12 := n0_; have BK362 := n1_; have BK365 := n2_; have HB := n3_; clear n0_ n1_ n2_ n3_; (try clear hb); (try clear hb2); (try clear hk); (try clear hi)))
          go_meet
          case rel => exact ⟨_, (!t366), (by first | rfl | (simp; done) | (simp [*]; done)), H', ⟨by have := HK1.out; have := HJ14.out; first | omega | exact Nat.le_refl _⟩, ⟨pR HO_12.out⟩, ⟨pK BK362.out⟩, ⟨pK BK365.out⟩, ⟨by repeat (first | (with_reducible first | exact HB.out | apply below_alloc | apply pw_below_drewN | apply below_drew1 | refine below_set ?_ GE362.out | refine below_set ?_ GE365.out) | exact HB.out)⟩⟩
        case rest =>
         clear HC27
         try clear c1
         try clear c2
         try clear p2
         try clear c3
         try clear p3
         try clear q3
         try clear hx3
         try clear c7
         try clear c13
         try clear c13b0
         try clear c14
         try clear c14b0
         try clear c17
         try clear c19
         try clear c19b0
         try clear c19b1
         try clear c20
         try clear c20b0
         try clear c20b1
         try clear c21
         try clear c23
         try clear c25
         try clear c28
         try clear c30
         try clear hcz11_0
         try clear hcz11_1
         try clear hcz11_2
         try clear hcz11_3
         try clear hcz18_0
         try clear hcz18_1
         try clear hcz18_2
         try clear hcz18_3
         try clear hcz22_0
         try clear hcz22_1
         try clear hcz22_2
         try clear hcz22_3
         try clear hcz24_0
         try clear hcz24_1
         try clear hcz24_2
         try clear hcz24_3
         try clear hcz26_0
         try clear hcz26_1
         try clear hcz26_2
         try clear hcz26_3
         try clear hcz31_0
         try clear hcz31_1
         try clear hcz31_2
         try clear hcz31_3
         try clear hfz11_0
         try clear hfz11_1
         try clear hfz11_2
         try clear hfz11_3
         try clear hfz18_0
         try clear hfz18_1
         try clear hfz18_2
         try clear hfz18_3
         try clear hfz22_0
         try clear hfz22_1
         try clear hfz22_2
         try clear hfz22_3
         try clear hfz24_0
         try clear hfz24_1
         try clear hfz24_2
         try clear hfz24_3
         try clear hfz26_0
         try clear hfz26_1
         try clear hfz26_2
         try clear hfz26_3
         try clear hfz31_0
         try clear hfz31_1
         try clear hfz31_2
         try clear hfz31_3
         try clear hx364_0
         try clear hx364_1
         try clear hx364_2
         try clear hx364_3
         try clear p2
         try clear p3
         try clear p364
         try clear q3
         try clear q364
         obtain ⟨kq, x63_26, rfl, HA, HJ26, HO_12, BK362, BK365, HB⟩ := hcut
         cases kq with
         | zero => exact absurd HA.out (by simp [spec_BlkPut.j2])
         | succ kj26 =>
          have H := HA.out
          clear HA
          simp only [spec_BlkPut.j2] at H
          by_cases c33 : x63_26 = true
          ·subst c33
           have H1 : (if x12_1.length < 4398046511104 then ((some (x12_1 ++ [(⟨a1, a2, a3, a4⟩ : S55)] : List (S55))).bind fun y367 => (if x17_14 = true then (spec_BlkPut.l0 kj26 l0 a1 a2 a3 y367 true (wrap64 (x15_1 + 1)) a1 a2 a3 a4) else (if y367.length < 4398046511104 then (spec_BlkPut.l0 kj26 l0 a1 a2 a3 (y367 ++ [(⟨((rd_T55 l0 x15_1).f0), ((rd_T55 l0 x15_1).f1), ((rd_T55 l0 x15_1).f2), ((rd_T55 l0 x15_1).f3)⟩ : S55)]) true (wrap64 (x15_1 + 1)) a1 a2 a3 a4) else (none)))) else (none)) = some (r1, r2) := by rw [if_pos rfl] at H; exact H
           clear H
           have H := H1
           clear H1
           by_cases c34 : x12_1.length < 4398046511104
           ·rw [if_pos c34] at H
            have LMc34 := Aside0.mk c34
            clear c34
            obtain ⟨y367, hy367⟩ : ∃ y_ : List (S55), y_ = (x12_1 ++ [(⟨a1, a2, a3, a4⟩ : S55)]) := ⟨_, rfl⟩
            replace H : (if x17_14 = true then (spec_BlkPut.l0 kj26 l0 a1 a2 a3 y367 true (wrap64 (x15_1 + 1)) a1 a2 a3 a4) else (if y367.length < 4398046511104 then (spec_BlkPut.l0 kj26 l0 a1 a2 a3 (y367 ++ [(⟨((rd_T55 l0 x15_1).f0), ((rd_T55 l0 x15_1).f1), ((rd_T55 l0 x15_1).f2), ((rd_T55 l0 x15_1).f3)⟩ : S55)]) true (wrap64 (x15_1 + 1)) a1 a2 a3 a4) else (none))) = some (r1, r2) := by first | (rw [hy367]; with_reducible exact H) | (have H2_ := (Option.bind_some _ _).symm.trans H; rw [hy367]; with_reducible exact H2_) | (have H2_ := (Option.bind_some _ _).symm.trans H; with_reducible exact H2_) | with_reducible exact H | (rw [hy367]; exact H) | exact H
            have Ny367 := Aside0.mk hy367
            clear hy367
            by_cases c35 : x17_14 = true
            ·subst c35
             have H1 : (spec_BlkPut.l0 kj26 l0 a1 a2 a3 y367 true (wrap64 (x15_1 + 1)) a1 a2 a3 a4) = some (r1, r2) := by rw [if_pos rfl] at H; exact H
             clear H
             have H := H1
             clear H1
             have H' := Aside0.mk H
             clear H
             have hnb36 := NB362_365.out
             have hnc36 := NB365_362.out
             have hcz37_0 : wc.cell? ⟨gb362, 0, none⟩ = some (.int .i64 a1) := (blk_cell BK362.out 0).trans rfl
             have hcz37_1 : wc.cell? ⟨gb362, 1, none⟩ = some (.int .i64 a2) := (blk_cell BK362.out 1).trans rfl
             have hcz37_2 : wc.cell? ⟨gb362, 2, none⟩ = some (.int .i64 a3) := (blk_cell BK362.out 2).trans rfl
             have hcz37_3 : wc.cell? ⟨gb362, 3, none⟩ = some (.int .i64 a4) := (blk_cell BK362.out 3).trans rfl
             have hfz37_0 := blk_frozen BK362.out 0
             have hfz37_1 := blk_frozen BK362.out 1
             have hfz37_2 := blk_frozen BK362.out 2
             have hfz37_3 := blk_frozen BK362.out 3
             go_wp2_with (first | ((with_reducible refine gate_builtin (b := .append) (xs := #[.tmp 64, .tmp 66]) rfl ?_); at_builtin; refine Kd.R_append k55 (w0 := w) w.heap.size rfl (.tmp 64) (.tmp 66) 32 55 (.agg #[(.int .i64 0), (.int .i64 0), (.int .i64 0), (.int .i64 0)]) 32 rfl Try.underlying32 info55 rfl (by decide) (by omega) u12 x12_1 (⟨a1, a2, a3, a4⟩ : S55) [.int .i64 a1, .int .i64 a2, .int .i64 a3, .int .i64 a4] (fun k_ => k_ ≠ gb362 ∧ k_ ≠ gb365) (fun _ => False) rfl rfl ?aP (fun _ hk => hk.elim) ?aF ?aO ?aB ?aS ?aL ?_; (case aP => exact k55_mkM _ _ _ (⟨a1, a2, a3, a4⟩ : S55)); (case aB => exact (by repeat (first | (with_reducible first | exact HB.out | apply below_alloc | apply pw_below_drewN | apply below_drew1 | refine below_set ?_ GE362.out | refine below_set ?_ GE365.out) | exact HB.out))); (case aF => exact (fun k_ hk => ⟨Kd.freshB (g := gb362) (o := .cells #[.int .i64 a1, .int .i64 a2, .int .i64 a3, .int .i64 a4] 55 (0, 0)) (pK BK362.out) k_ hk, Kd.freshB (g := gb365) (o := .cells #[.int .i64 ((rd_T55 l0 x15_1).f0), .int .i64 ((rd_T55 l0 x15_1).f1), .int .i64 ((rd_T55 l0 x15_1).f2), .int .i64 ((rd_T55 l0 x15_1).f3)] 55 (0, 0)) (pK BK365.out) k_ hk⟩)); (case aO => exact (pR HO_12.out)); (case aS => exact (below_size (by repeat (first | (with_reducible first | exact HB.out | apply below_alloc | apply pw_below_drewN | apply below_drew1 | refine below_set ?_ GE362.out | refine below_set ?_ GE365.out) | exact HB.out)))); (case aL => have := LMc34.out; omega); intro v368 w38 ho hb hg hat; rw [← Ny367.out] at ho; have n0_ := Aside0.mk (blk_grown (g := gb362) (o := .cells #[.int .i64 a1, .int .i64 a2, .int .i64 a3, .int .i64 a4] 55 (0, 0)) (pK BK362.out) hg (Kd.R_away HO_12.out (fun _ hk => hk.1))); have n1_ := Aside0.mk (blk_grown (g := gb365) (o := .cells #[.int .i64 ((rd_T55 l0 x15_1).f0), .int .i64 ((rd_T55 l0 x15_1).f1), .int .i64 ((rd_T55 l0 x15_1).f2), .int .i64 ((rd_T55 l0 x15_1).f3)] 55 (0, 0)) (pK BK365.out) hg (Kd.R_away HO_12.out (fun _ hk => hk.2))); have n2_ := Aside0.mk (hb); have n3_ := Aside0.mk (ho); clear BK362; clear BK365; clear HB; clear HO_12; have BK362 := n0_; have BK365 := n1_; have HB := n2_; have HO369 := n3_; clear n0_ n1_ n2_ n3_; clear ho hb hg hat))
             go_roundg kj26
             case measure => have := HK1.out; have := HJ14.out; have := HJ26.out; omega
             case rel => exact ⟨(y367), (true), (wrap64 (x15_1 + 1)), (by first | rfl | (simp; done) | (simp [*]; done)), (by first | rfl | (simp; done) | (simp [*]; done)), H', ⟨by have := HK1.out; have := HJ14.out; have := HJ26.out; omega⟩, ⟨pR (Kd.R_mono HO369.out (fun _ hk => hk.1))⟩, ⟨pK BK362.out⟩, ⟨by repeat (first | (with_reducible first | exact HB.out | apply below_alloc | apply pw_below_drewN | apply below_drew1 | refine below_set ?_ GE362.out | refine below_set ?_ GE365.out) | exact HB.out)⟩⟩
            ·replace c35 := Bool.eq_false_iff.mpr c35
             subst c35
             have H1 : (if y367.length < 4398046511104 then (spec_BlkPut.l0 kj26 l0 a1 a2 a3 (y367 ++ [(⟨((rd_T55 l0 x15_1).f0), ((rd_T55 l0 x15_1).f1), ((rd_T55 l0 x15_1).f2), ((rd_T55 l0 x15_1).f3)⟩ : S55)]) true (wrap64 (x15_1 + 1)) a1 a2 a3 a4) else (none)) = some (r1, r2) := by rw [if_neg (show ¬ (false = true) by decide)] at H; exact H
             clear H
             have H := H1
             clear H1
             by_cases c39 : y367.length < 4398046511104
             ·rw [if_pos c39] at H
              have LMc39 := Aside0.mk c39
              clear c39
              obtain ⟨y370, hy370⟩ : ∃ y_ : List (S55), y_ = (y367 ++ [(⟨((rd_T55 l0 x15_1).f0), ((rd_T55 l0 x15_1).f1), ((rd_T55 l0 x15_1).f2), ((rd_T55 l0 x15_1).f3)⟩ : S55)]) := ⟨_, rfl⟩
              replace H : (spec_BlkPut.l0 kj26 l0 a1 a2 a3 y370 true (wrap64 (x15_1 + 1)) a1 a2 a3 a4) = some (r1, r2) := by first | (rw [hy370]; with_reducible exact H) | (have H2_ := (Option.bind_some _ _).symm.trans H; rw [hy370]; with_reducible exact H2_) | (have H2_ := (Option.bind_some _ _).symm.trans H; with_reducible exact H2_) | with_reducible exact H | (rw [hy370]; exact H) | exact H
              have Ny370 := Aside0.mk hy370
              clear hy370
              have H' := Aside0.mk H
              clear H
              have hnb40 := NB362_365.out
              have hnc40 := NB365_362.out
              have hcz41_0 : wc.cell? ⟨gb362, 0, none⟩ = some (.int .i64 a1) := (blk_cell BK362.out 0).trans rfl
              have hcz41_1 : wc.cell? ⟨gb362, 1, none⟩ = some (.int .i64 a2) := (blk_cell BK362.out 1).trans rfl
              have hcz41_2 : wc.cell? ⟨gb362, 2, none⟩ = some (.int .i64 a3) := (blk_cell BK362.out 2).trans rfl
              have hcz41_3 : wc.cell? ⟨gb362, 3, none⟩ = some (.int .i64 a4) := (blk_cell BK362.out 3).trans rfl
              have hfz41_0 := blk_frozen BK362.out 0
              have hfz41_1 := blk_frozen BK362.out 1
              have hfz41_2 := blk_frozen BK362.out 2
              have hfz41_3 := blk_frozen BK362.out 3
              go_wp2_with (first | ((with_reducible refine gate_builtin (b := .append) (xs := #[.tmp 64, .tmp 66]) rfl ?_); at_builtin; refine Kd.R_append k55 (w0 := w) w.heap.size rfl (.tmp 64) (.tmp 66) 32 55 (.agg #[(.int .i64 0), (.int .i64 0), (.int .i64 0), (.int .i64 0)]) 32 rfl Try.underlying32 info55 rfl (by decide) (by omega) u12 x12_1 (⟨a1, a2, a3, a4⟩ : S55) [.int .i64 a1, .int .i64 a2, .int .i64 a3, .int .i64 a4] (fun k_ => k_ ≠ gb362 ∧ k_ ≠ gb365) (fun _ => False) rfl rfl ?aP (fun _ hk => hk.elim) ?aF ?aO ?aB ?aS ?aL ?_; (case aP => exact k55_mkM _ _ _ (⟨a1, a2, a3, a4⟩ : S55)); (case aB => exact (by repeat (first | (with_reducible first | exact HB.out | apply below_alloc | apply pw_below_drewN | apply below_drew1 | refine below_set ?_ GE362.out | refine below_set ?_ GE365.out) | exact HB.out))); (case aF => exact (fun k_ hk => ⟨Kd.freshB (g := gb362) (o := .cells #[.int .i64 a1, .int .i64 a2, .int .i64 a3, .int .i64 a4] 55 (0, 0)) (pK BK362.out) k_ hk, Kd.freshB (g := gb365) (o := .cells #[.int .i64 ((rd_T55 l0 x15_1).f0), .int .i64 ((rd_T55 l0 x15_1).f1), .int .i64 ((rd_T55 l0 x15_1).f2), .int .i64 ((rd_T55 l0 x15_1).f3)] 55 (0, 0)) (pK BK365.out) k_ hk⟩)); (case aO => exact (pR HO_12.out)); (case aS => exact (below_size (by repeat (first | (with_reducible first | exact HB.out | apply below_alloc | apply pw_below_drewN | apply below_drew1 | refine below_set ?_ GE362.out | refine below_set ?_ GE365.out) | exact HB.out)))); (case aL => have := LMc34.out; omega); intro v368 w42 ho hb hg hat; rw [← Ny367.out] at ho; have n0_ := Aside0.mk (blk_grown (g := gb362) (o := .cells #[.int .i64 a1, .int .i64 a2, .int .i64 a3, .int .i64 a4] 55 (0, 0)) (pK BK362.out) hg (Kd.R_away HO_12.out (fun _ hk => hk.1))); have n1_ := Aside0.mk (blk_grown (g := gb365) (o := .cells #[.int .i64 ((rd_T55 l0 x15_1).f0), .int .i64 ((rd_T55 l0 x15_1).f1), .int .i64 ((rd_T55 l0 x15_1).f2), .int .i64 ((rd_T55 l0 x15_1).f3)] 55 (0, 0)) (pK BK365.out) hg (Kd.R_away HO_12.out (fun _ hk => hk.2))); have n2_ := Aside0.mk (hb); have n3_ := Aside0.mk (ho); clear BK362; clear BK365; clear HB; clear HO_12; have BK362 := n0_; have BK365 := n1_; have HB := n2_; have HO369 := n3_; clear n0_ n1_ n2_ n3_; clear ho hb hg hat; have hcz43_0 : w42.cell? ⟨gb365, 0, none⟩ = some (.int .i64 ((rd_T55 l0 x15_1).f0)) := (blk_cell BK365.out 0).trans rfl; have hcz43_1 : w42.cell? ⟨gb365, 1, none⟩ = some (.int .i64 ((rd_T55 l0 x15_1).f1)) := (blk_cell BK365.out 1).trans rfl; have hcz43_2 : w42.cell? ⟨gb365, 2, none⟩ = some (.int .i64 ((rd_T55 l0 x15_1).f2)) := (blk_cell BK365.out 2).trans rfl; have hcz43_3 : w42.cell? ⟨gb365, 3, none⟩ = some (.int .i64 ((rd_T55 l0 x15_1).f3)) := (blk_cell BK365.out 3).trans rfl; have hfz43_0 := blk_frozen BK365.out 0; have hfz43_1 := blk_frozen BK365.out 1; have hfz43_2 := blk_frozen BK365.out 2; have hfz43_3 := blk_frozen BK365.out 3) | ((with_reducible refine gate_builtin (b := .append) (xs := #[.tmp 70, .tmp 72]) rfl ?_); at_builtin; refine Kd.R_append k55 (w0 := w) w.heap.size rfl (.tmp 70) (.tmp 72) 32 55 (.agg #[(.int .i64 0), (.int .i64 0), (.int .i64 0), (.int .i64 0)]) 32 rfl Try.underlying32 info55 rfl (by decide) (by omega) v368 y367 (⟨((rd_T55 l0 x15_1).f0), ((rd_T55 l0 x15_1).f1), ((rd_T55 l0 x15_1).f2), ((rd_T55 l0 x15_1).f3)⟩ : S55) [.int .i64 ((rd_T55 l0 x15_1).f0), .int .i64 ((rd_T55 l0 x15_1).f1), .int .i64 ((rd_T55 l0 x15_1).f2), .int .i64 ((rd_T55 l0 x15_1).f3)] (fun k_ => k_ ≠ gb362 ∧ k_ ≠ gb365) (fun _ => False) rfl rfl ?aP (fun _ hk => hk.elim) ?aF ?aO ?aB ?aS ?aL ?_; (case aP => exact k55_mkM _ _ _ (⟨((rd_T55 l0 x15_1).f0), ((rd_T55 l0 x15_1).f1), ((rd_T55 l0 x15_1).f2), ((rd_T55 l0 x15_1).f3)⟩ : S55)); (case aB => exact (by repeat (first | (with_reducible first | exact HB.out | apply below_alloc | apply pw_below_drewN | apply below_drew1 | refine below_set ?_ GE362.out | refine below_set ?_ GE365.out) | exact HB.out))); (case aF => exact (fun k_ hk => ⟨Kd.freshB (g := gb362) (o := .cells #[.int .i64 a1, .int .i64 a2, .int .i64 a3, .int .i64 a4] 55 (0, 0)) (pK BK362.out) k_ hk, Kd.freshB (g := gb365) (o := .cells #[.int .i64 ((rd_T55 l0 x15_1).f0), .int .i64 ((rd_T55 l0 x15_1).f1), .int .i64 ((rd_T55 l0 x15_1).f2), .int .i64 ((rd_T55 l0 x15_1).f3)] 55 (0, 0)) (pK BK365.out) k_ hk⟩)); (case aO => exact (pR HO369.out)); (case aS => exact (below_size (by repeat (first | (with_reducible first | exact HB.out | apply below_alloc | apply pw_below_drewN | apply below_drew1 | refine below_set ?_ GE362.out | refine below_set ?_ GE365.out) | exact HB.out)))); (case aL => have := LMc39.out; omega); intro v371 w44 ho hb hg hat; rw [← Ny370.out] at ho; have n0_ := Aside0.mk (blk_grown (g := gb362) (o := .cells #[.int .i64 a1, .int .i64 a2, .int .i64 a3, .int .i64 a4] 55 (0, 0)) (pK BK362.out) hg (Kd.R_away HO369.out (fun _ hk => hk.1))); have n1_ := Aside0.mk (blk_grown (g := gb365) (o := .cells #[.int .i64 ((rd_T55 l0 x15_1).f0), .int .i64 ((rd_T55 l0 x15_1).f1), .int .i64 ((rd_T55 l0 x15_1).f2), .int .i64 ((rd_T55 l0 x15_1).f3)] 55 (0, 0)) (pK BK365.out) hg (Kd.R_away HO369.out (fun _ hk => hk.2))); have n2_ := Aside0.mk (hb); have n3_ := Aside0.mk (ho); clear BK362; clear BK365; clear HB; clear HO369; have BK362 := n0_; have BK365 := n1_; have HB := n2_; have HO372 := n3_; clear n0_ n1_ n2_ n3_; clear ho hb hg hat))
              go_roundg kj26
              case measure => have := HK1.out; have := HJ14.out; have := HJ26.out; omega
              case rel => exact ⟨(y370), (true), (wrap64 (x15_1 + 1)), (by first | rfl | (simp; done) | (simp [*]; done)), (by first | rfl | (simp; done) | (simp [*]; done)), H', ⟨by have := HK1.out; have := HJ14.out; have := HJ26.out; omega⟩, ⟨pR (Kd.R_mono HO372.out (fun _ hk => hk.1))⟩, ⟨pK BK362.out⟩, ⟨by repeat (first | (with_reducible first | exact HB.out | apply below_alloc | apply pw_below_drewN | apply below_drew1 | refine below_set ?_ GE362.out | refine below_set ?_ GE365.out) | exact HB.out)⟩⟩
             ·rw [if_neg c39] at H
              exact absurd H (by simp)
           ·rw [if_neg c34] at H
            exact absurd H (by simp)
          ·replace c33 := Bool.eq_false_iff.mpr c33
           subst c33
           have H1 : (if x17_14 = true then (spec_BlkPut.l0 kj26 l0 a1 a2 a3 x12_1 x14_1 (wrap64 (x15_1 + 1)) a1 a2 a3 a4) else (if x12_1.length < 4398046511104 then (spec_BlkPut.l0 kj26 l0 a1 a2 a3 (x12_1 ++ [(⟨((rd_T55 l0 x15_1).f0), ((rd_T55 l0 x15_1).f1), ((rd_T55 l0 x15_1).f2), ((rd_T55 l0 x15_1).f3)⟩ : S55)]) x14_1 (wrap64 (x15_1 + 1)) a1 a2 a3 a4) else (none))) = some (r1, r2) := by rw [if_neg (show ¬ (false = true) by decide)] at H; exact H
           clear H
           have H := H1
           clear H1
           by_cases c45 : x17_14 = true
           ·subst c45
            have H1 : (spec_BlkPut.l0 kj26 l0 a1 a2 a3 x12_1 x14_1 (wrap64 (x15_1 + 1)) a1 a2 a3 a4) = some (r1, r2) := by rw [if_pos rfl] at H; exact H
            clear H
            have H := H1
            clear H1
            have H' := Aside0.mk H
            clear H
            go_wp2
            go_roundg kj26
            case measure => have := HK1.out; have := HJ14.out; have := HJ26.out; omega
            case rel => exact ⟨(x12_1), (x14_1), (wrap64 (x15_1 + 1)), (by first | rfl | (simp; done) | (simp [*]; done)), (by first | rfl | (simp; done) | (simp [*]; done)), H', ⟨by have := HK1.out; have := HJ14.out; have := HJ26.out; omega⟩, ⟨pR (Kd.R_mono HO_12.out (fun _ hk => hk.1))⟩, ⟨pK BK362.out⟩, ⟨by repeat (first | (with_reducible first | exact HB.out | apply below_alloc | apply pw_below_drewN | apply below_drew1 | refine below_set ?_ GE362.out | refine below_set ?_ GE365.out) | exact HB.out)⟩⟩
           ·replace c45 := Bool.eq_false_iff.mpr c45
            subst c45
            have H1 : (if x12_1.length < 4398046511104 then (spec_BlkPut.l0 kj26 l0 a1 a2 a3 (x12_1 ++ [(⟨((rd_T55 l0 x15_1).f0), ((rd_T55 l0 x15_1).f1), ((rd_T55 l0 x15_1).f2), ((rd_T55 l0 x15_1).f3)⟩ : S55)]) x14_1 (wrap64 (x15_1 + 1)) a1 a2 a3 a4) else (none)) = some (r1, r2) := by rw [if_neg (show ¬ (false = true) by decide)] at H; exact H
            clear H
            have H := H1
            clear H1
            by_cases c46 : x12_1.length < 4398046511104
            ·rw [if_pos c46] at H
             have LMc46 := Aside0.mk c46
             clear c46
             obtain ⟨y373, hy373⟩ : ∃ y_ : List (S55), y_ = (x12_1 ++ [(⟨((rd_T55 l0 x15_1).f0), ((rd_T55 l0 x15_1).f1), ((rd_T55 l0 x15_1).f2), ((rd_T55 l0 x15_1).f3)⟩ : S55)]) := ⟨_, rfl⟩
             replace H : (spec_BlkPut.l0 kj26 l0 a1 a2 a3 y373 x14_1 (wrap64 (x15_1 + 1)) a1 a2 a3 a4) = some (r1, r2) := by first | (rw [hy373]; with_reducible exact H) | (have H2_ := (Option.bind_some _ _).symm.trans H; rw [hy373]; with_reducible exact H2_) | (have H2_ := (Option.bind_some _ _).symm.trans H; with_reducible exact H2_) | with_reducible exact H | (rw [hy373]; exact H) | exact H
             have Ny373 := Aside0.mk hy373
             clear hy373
             have H' := Aside0.mk H
             clear H
             have hnb47 := NB365_362.out
             have hnc47 := NB362_365.out
             have hcz48_0 : wc.cell? ⟨gb365, 0, none⟩ = some (.int .i64 ((rd_T55 l0 x15_1).f0)) := (blk_cell BK365.out 0).trans rfl
             have hcz48_1 : wc.cell? ⟨gb365, 1, none⟩ = some (.int .i64 ((rd_T55 l0 x15_1).f1)) := (blk_cell BK365.out 1).trans rfl
             have hcz48_2 : wc.cell? ⟨gb365, 2, none⟩ = some (.int .i64 ((rd_T55 l0 x15_1).f2)) := (blk_cell BK365.out 2).trans rfl
             have hcz48_3 : wc.cell? ⟨gb365, 3, none⟩ = some (.int .i64 ((rd_T55 l0 x15_1).f3)) := (blk_cell BK365.out 3).trans rfl
             have hfz48_0 := blk_frozen BK365.out 0
             have hfz48_1 := blk_frozen BK365.out 1
             have hfz48_2 := blk_frozen BK365.out 2
             have hfz48_3 := blk_frozen BK365.out 3
             go_wp2_with (first | ((with_reducible refine gate_builtin (b := .append) (xs := #[.tmp 70, .tmp 72]) rfl ?_); at_builtin; refine Kd.R_append k55 (w0 := w) w.heap.size rfl (.tmp 70) (.tmp 72) 32 55 (.agg #[(.int .i64 0), (.int .i64 0), (.int .i64 0), (.int .i64 0)]) 32 rfl Try.underlying32 info55 rfl (by decide) (by omega) u12 x12_1 (⟨((rd_T55 l0 x15_1).f0), ((rd_T55 l0 x15_1).f1), ((rd_T55 l0 x15_1).f2), ((rd_T55 l0 x15_1).f3)⟩ : S55) [.int .i64 ((rd_T55 l0 x15_1).f0), .int .i64 ((rd_T55 l0 x15_1).f1), .int .i64 ((rd_T55 l0 x15_1).f2), .int .i64 ((rd_T55 l0 x15_1).f3)] (fun k_ => k_ ≠ gb362 ∧ k_ ≠ gb365) (fun _ => False) rfl rfl ?aP (fun _ hk => hk.elim) ?aF ?aO ?aB ?aS ?aL ?_; (case aP => exact k55_mkM _ _ _ (⟨((rd_T55 l0 x15_1).f0), ((rd_T55 l0 x15_1).f1), ((rd_T55 l0 x15_1).f2), ((rd_T55 l0 x15_1).f3)⟩ : S55)); (case aB => exact (by repeat (first | (with_reducible first | exact HB.out | apply below_alloc | apply pw_below_drewN | apply below_drew1 | refine below_set ?_ GE362.out | refine below_set ?_ GE365.out) | exact HB.out))); (case aF => exact (fun k_ hk => ⟨Kd.freshB (g := gb362) (o := .cells #[.int .i64 a1, .int .i64 a2, .int .i64 a3, .int .i64 a4] 55 (0, 0)) (pK BK362.out) k_ hk, Kd.freshB (g := gb365) (o := .cells #[.int .i64 ((rd_T55 l0 x15_1).f0), .int .i64 ((rd_T55 l0 x15_1).f1), .int .i64 ((rd_T55 l0 x15_1).f2), .int .i64 ((rd_T55 l0 x15_1).f3)] 55 (0, 0)) (pK BK365.out) k_ hk⟩)); (case aO => exact (pR HO_12.out)); (case aS => exact (below_size (by repeat (first | (with_reducible first | exact HB.out | apply below_alloc | apply pw_below_drewN | apply below_drew1 | refine below_set ?_ GE362.out | refine below_set ?_ GE365.out) | exact HB.out)))); (case aL => have := LMc46.out; omega); intro v374 w49 ho hb hg hat; rw [← Ny373.out] at ho; have n0_ := Aside0.mk (blk_grown (g := gb362) (o := .cells #[.int .i64 a1, .int .i64 a2, .int .i64 a3, .int .i64 a4] 55 (0, 0)) (pK BK362.out) hg (Kd.R_away HO_12.out (fun _ hk => hk.1))); have n1_ := Aside0.mk (blk_grown (g := gb365) (o := .cells #[.int .i64 ((rd_T55 l0 x15_1).f0), .int .i64 ((rd_T55 l0 x15_1).f1), .int .i64 ((rd_T55 l0 x15_1).f2), .int .i64 ((rd_T55 l0 x15_1).f3)] 55 (0, 0)) (pK BK365.out) hg (Kd.R_away HO_12.out (fun _ hk => hk.2))); have n2_ := Aside0.mk (hb); have n3_ := Aside0.mk (ho); clear BK362; clear BK365; clear HB; clear HO_12; have BK362 := n0_; have BK365 := n1_; have HB := n2_; have HO375 := n3_; clear n0_ n1_ n2_ n3_; clear ho hb hg hat))
             go_roundg kj26
             case measure => have := HK1.out; have := HJ14.out; have := HJ26.out; omega
             case rel => exact ⟨(y373), (x14_1), (wrap64 (x15_1 + 1)), (by first | rfl | (simp; done) | (simp [*]; done)), (by first | rfl | (simp; done) | (simp [*]; done)), H', ⟨by have := HK1.out; have := HJ14.out; have := HJ26.out; omega⟩, ⟨pR (Kd.R_mono HO375.out (fun _ hk => hk.1))⟩, ⟨pK BK362.out⟩, ⟨by repeat (first | (with_reducible first | exact HB.out | apply below_alloc | apply pw_below_drewN | apply below_drew1 | refine below_set ?_ GE362.out | refine below_set ?_ GE365.out) | exact HB.out)⟩⟩
            ·rw [if_neg c46] at H
             exact absurd H (by simp)
     ·rw [if_neg c14] at H
      exact absurd H (by simp)
    ·rw [if_neg c13] at H
     have c13b0 : decide (x15_1 < (l0.length : Int)) = false := decide_eq_false c13
     clear c13
     by_cases c50 : x14_1 = true
     ·subst c50
      have H1 : ((spec_BlkOk.f k1 x12_1).bind fun t376 => (if t376 = true then (some (x12_1, true)) else ((some (([] : List (S55)) : List (S55))).bind fun y377 => (if y377.length + l0.length < 4398046511104 then (some ((y377 ++ l0), false)) else (none))))) = some (r1, r2) := by rw [if_pos rfl] at H; exact H
      clear H
      have H := H1
      clear H1
      replace H := Option.bind_eq_some_iff.mp H
      obtain ⟨t376, A510, H⟩ := H
      replace H : (if t376 = true then (some (x12_1, true)) else ((some (([] : List (S55)) : List (S55))).bind fun y377 => (if y377.length + l0.length < 4398046511104 then (some ((y377 ++ l0), false)) else (none)))) = some (r1, r2) := H
      have A51 := Aside0.mk A510
      clear A510
      by_cases c52 : t376 = true
      ·subst c52
       have H1 : (some (x12_1, true)) = some (r1, r2) := by rw [if_pos rfl] at H; exact H
       clear H
       have H := H1
       clear H1
       simp only [Option.some.injEq, Prod.mk.injEq] at H
       obtain ⟨rfl, rfl⟩ := H
       obtain ⟨Ao53, co53, eo53⟩ := Kd.R_slice HO_12.out
       subst eo53
       go_wp2_with (first | ((with_reducible refine gate_callee (f := 21) rfl ?_); refine goesL_ (some 81) rfl rfl Try.func21 (by kernel_rfl) rfl #[.slice Ao53 x12_1.length co53] rfl bM ?_; (with_reducible refine (spec_BlkOk.calls k1 _ _ x12_1 true _ ?side1 ?side2 A51.out).mono ?_); (case side1 => exact pC (Kd.R_reads' HO_12.out).2.2); (case side2 => exact (Kd.R_reads' HO_12.out).2.1); rintro e w54 ⟨rfl, hb⟩; refine ⟨_, rfl, ?_⟩; have n0_ := Aside0.mk (Kd.R_below (pR HO_12.out) hb); have n1_ := Aside0.mk (blk_below (g := gb362) (o := .cells #[.int .i64 a1, .int .i64 a2, .int .i64 a3, .int .i64 a4] 55 (0, 0)) (pK BK362.out) hb); have n2_ := Aside0.mk (below_step (by repeat (first | (with_reducible first | exact HB.out | apply below_alloc | apply pw_below_drewN | apply below_drew1 | refine below_set ?_ GE362.out) | exact HB.out)) hb); clear HO_12; clear BK362; clear HB; have HO_12 := n0_; have BK362 := n1_; have HB := n2_; clear n0_ n1_ n2_; (try clear hb); (try clear hb2); (try clear hk); (try clear hi)))
       go_ret2
       exact ⟨_, by first | rfl | (simp [errW_none, errW_some] <;> rfl) | (simp [*, errW_none, errW_some] <;> rfl), pR (Kd.R_mono HO_12.out (fun _ hk => trivial)), by repeat (first | (with_reducible first | exact HB.out | apply below_alloc | apply pw_below_drewN | apply below_drew1 | refine below_set ?_ GE362.out) | exact HB.out)⟩
      ·replace c52 := Bool.eq_false_iff.mpr c52
       subst c52
       have H1 : ((some (([] : List (S55)) : List (S55))).bind fun y377 => (if y377.length + l0.length < 4398046511104 then (some ((y377 ++ l0), false)) else (none))) = some (r1, r2) := by rw [if_neg (show ¬ (false = true) by decide)] at H; exact H
       clear H
       have H := H1
       clear H1
       obtain ⟨y377, hy377⟩ : ∃ y_ : List (S55), y_ = (([] : List (S55))) := ⟨_, rfl⟩
       replace H : (if y377.length + l0.length < 4398046511104 then (some ((y377 ++ l0), false)) else (none)) = some (r1, r2) := by first | (rw [hy377]; with_reducible exact H) | (have H2_ := (Option.bind_some _ _).symm.trans H; rw [hy377]; with_reducible exact H2_) | (have H2_ := (Option.bind_some _ _).symm.trans H; with_reducible exact H2_) | with_reducible exact H | (rw [hy377]; exact H) | exact H
       have Ny377 := Aside0.mk hy377
       clear hy377
       by_cases c55 : y377.length + l0.length < 4398046511104
       ·rw [if_pos c55] at H
        have LMc55 := Aside0.mk c55
        clear c55
        obtain ⟨y380, hy380⟩ : ∃ y_ : List (S55), y_ = (y377 ++ l0) := ⟨_, rfl⟩
        replace H : (some (y380, false)) = some (r1, r2) := by first | (rw [hy380]; with_reducible exact H) | (have H2_ := (Option.bind_some _ _).symm.trans H; rw [hy380]; with_reducible exact H2_) | (have H2_ := (Option.bind_some _ _).symm.trans H; with_reducible exact H2_) | with_reducible exact H | (rw [hy380]; exact H) | exact H
        have Ny380 := Aside0.mk hy380
        clear hy380
        simp only [Option.some.injEq, Prod.mk.injEq] at H
        obtain ⟨rfl, rfl⟩ := H
        obtain ⟨Ao56, co56, eo56⟩ := Kd.R_slice HO_12.out
        subst eo56
        go_wp2_with (first | ((with_reducible refine gate_callee (f := 21) rfl ?_); refine goesL_ (some 81) rfl rfl Try.func21 (by kernel_rfl) rfl #[.slice Ao56 x12_1.length co56] rfl bM ?_; (with_reducible refine (spec_BlkOk.calls k1 _ _ x12_1 false _ ?side1 ?side2 A51.out).mono ?_); (case side1 => exact pC (Kd.R_reads' HO_12.out).2.2); (case side2 => exact (Kd.R_reads' HO_12.out).2.1); rintro e w57 ⟨rfl, hb⟩; refine ⟨_, rfl, ?_⟩; have n0_ := Aside0.mk (Kd.R_below (pR HO_12.out) hb); have n1_ := Aside0.mk (blk_below (g := gb362) (o := .cells #[.int .i64 a1, .int .i64 a2, .int .i64 a3, .int .i64 a4] 55 (0, 0)) (pK BK362.out) hb); have n2_ := Aside0.mk (below_step (by repeat (first | (with_reducible first | exact HB.out | apply below_alloc | apply pw_below_drewN | apply below_drew1 | refine below_set ?_ GE362.out) | exact HB.out)) hb); clear HO_12; clear BK362; clear HB; have HO_12 := n0_; have BK362 := n1_; have HB := n2_; clear n0_ n1_ n2_; (try clear hb); (try clear hb2); (try clear hk); (try clear hi)) | ((with_reducible refine gate_dst (N := 83) rfl ?_); refine Kd.R_lit k55 _ 55 ?hg (N := 83) ?hd (xs := ([] : List (S55))) (inner := []) (ok := fun _ => True) (okp := fun _ => True) ?hr ?hp (fun _ hk => hk) trivial (Below.refl _ _) (Nat.le_refl _) (by simp) ?_; (case hd => rfl); (case hg => rfl); (case hr => first | (go_simp; done) | (go_simp; rfl)); (case hp => exact (Reps.none _ _)); intro v378 w58 ho59 hb hg_ hnew_; clear hg_ hnew_; (first | rw [← Ny377.out] at ho59 | (simp only [Int.reduceToNat] at ho59; rw [← Ny377.out] at ho59)); have n0_ := Aside0.mk (Kd.R_elder' (pR HO_12.out) (Kd.R_base ho59) hb); have n1_ := Aside0.mk (Kd.R_lower (Kd.R_newB (Kd.R_new' ho59 (Kd.R_lt (pR HO_12.out))) (g := gb362) (o := .cells #[.int .i64 a1, .int .i64 a2, .int .i64 a3, .int .i64 a4] 55 (0, 0)) (pK BK362.out)) (below_size (by repeat (first | (with_reducible first | exact HB.out | apply below_alloc | apply pw_below_drewN | apply below_drew1 | refine below_set ?_ GE362.out) | exact HB.out)))); have n2_ := Aside0.mk (blk_below (g := gb362) (o := .cells #[.int .i64 a1, .int .i64 a2, .int .i64 a3, .int .i64 a4] 55 (0, 0)) (pK BK362.out) hb); have n3_ := Aside0.mk (below_step (by repeat (first | (with_reducible first | exact HB.out | apply below_alloc | apply pw_below_drewN | apply below_drew1 | refine below_set ?_ GE362.out) | exact HB.out)) hb); clear HO_12; clear BK362; clear HB; have HO_12 := n0_; have HO379 := n1_; have BK362 := n2_; have HB := n3_; clear n0_ n1_ n2_ n3_; clear hb ho59) | ((with_reducible refine gate_builtin (b := .append) (xs := #[.tmp 83, .tmp 84]) rfl ?_); at_builtin; refine Kd.R_append_rows k55 (w0 := w) w.heap.size rfl (.tmp 83) (.tmp 84) 32 55 (.agg #[(.int .i64 0), (.int .i64 0), (.int .i64 0), (.int .i64 0)]) 32 rfl Try.underlying32 info55 rfl (by decide) (by omega) v378 y377 l0 _ _ _ (fun k_ => some k_ ≠ (.slice Ao56 x12_1.length co56 : Value).ownBlock ∧ k_ ≠ gb362) (fun _ => False) rfl rfl ?aO ?aR (fun _ _ h => h) (fun _ h => h.elim) ?aF ?aB ?aS ?aL ?_; (case aR => repeat (first | exact (Kd.C_below HR0.out HB.out) | (with_reducible refine Kd.C_alloc ?_ _) | (with_reducible refine Kd.C_drewN ?_ _) | (with_reducible refine Kd.C_drew ?_))); (case aB => exact (by repeat (first | (with_reducible first | exact HB.out | apply below_alloc | apply pw_below_drewN | apply below_drew1 | refine below_set ?_ GE362.out) | exact HB.out))); (case aF => exact (fun k_ hk => ⟨Kd.fresh' (Kd.R_lt (pR HO_12.out)) k_ hk, Kd.freshB (g := gb362) (o := .cells #[.int .i64 a1, .int .i64 a2, .int .i64 a3, .int .i64 a4] 55 (0, 0)) (pK BK362.out) k_ hk⟩)); (case aO => exact (pR (Kd.R_mono HO379.out (fun _ hk => ⟨hk.1.2, hk.2⟩)))); (case aS => exact (below_size (by repeat (first | (with_reducible first | exact HB.out | apply below_alloc | apply pw_below_drewN | apply below_drew1 | refine below_set ?_ GE362.out) | exact HB.out)))); (case aL => have := LMc55.out; omega); intro v381 w60 ho hb hg hat; rw [← Ny380.out] at ho; have n0_ := Aside0.mk (Kd.R_after (ok := (fun k_ => k_ ≠ gb362)) (pR HO_12.out) hg hat); have n1_ := Aside0.mk (blk_grown (g := gb362) (o := .cells #[.int .i64 a1, .int .i64 a2, .int .i64 a3, .int .i64 a4] 55 (0, 0)) (pK BK362.out) hg (Kd.R_away HO379.out (fun _ hk => hk.2))); have n2_ := Aside0.mk (hb); have n3_ := Aside0.mk (ho); clear HO_12; clear BK362; clear HB; clear HO379; have HO_12 := n0_; have BK362 := n1_; have HB := n2_; have HO382 := n3_; clear n0_ n1_ n2_ n3_; clear ho hb hg hat))
        go_ret2
        exact ⟨_, by first | rfl | (simp [errW_none, errW_some] <;> rfl) | (simp [*, errW_none, errW_some] <;> rfl), pR (Kd.R_mono HO382.out (fun _ hk => trivial)), by repeat (first | (with_reducible first | exact HB.out | apply below_alloc | apply pw_below_drewN | apply below_drew1 | refine below_set ?_ GE362.out) | exact HB.out)⟩
       ·rw [if_neg c55] at H
        exact absurd H (by simp)
     ·replace c50 := Bool.eq_false_iff.mpr c50
      subst c50
      have H1 : (if x12_1.length < 4398046511104 then ((some (x12_1 ++ [(⟨a1, a2, a3, a4⟩ : S55)] : List (S55))).bind fun y383 => ((spec_BlkOk.f k1 y383).bind fun t386 => (if t386 = true then (some (y383, true)) else ((some (([] : List (S55)) : List (S55))).bind fun y387 => (if y387.length + l0.length < 4398046511104 then (some ((y387 ++ l0), false)) else (none)))))) else (none)) = some (r1, r2) := by rw [if_neg (show ¬ (false = true) by decide)] at H; exact H
      clear H
      have H := H1
      clear H1
      by_cases c61 : x12_1.length < 4398046511104
      ·rw [if_pos c61] at H
       have LMc61 := Aside0.mk c61
       clear c61
       obtain ⟨y383, hy383⟩ : ∃ y_ : List (S55), y_ = (x12_1 ++ [(⟨a1, a2, a3, a4⟩ : S55)]) := ⟨_, rfl⟩
       replace H : ((spec_BlkOk.f k1 y383).bind fun t386 => (if t386 = true then (some (y383, true)) else ((some (([] : List (S55)) : List (S55))).bind fun y387 => (if y387.length + l0.length < 4398046511104 then (some ((y387 ++ l0), false)) else (none))))) = some (r1, r2) := by first | (rw [hy383]; with_reducible exact H) | (have H2_ := (Option.bind_some _ _).symm.trans H; rw [hy383]; with_reducible exact H2_) | (have H2_ := (Option.bind_some _ _).symm.trans H; with_reducible exact H2_) | with_reducible exact H | (rw [hy383]; exact H) | exact H
       have Ny383 := Aside0.mk hy383
       clear hy383
       replace H := Option.bind_eq_some_iff.mp H
       obtain ⟨t386, A620, H⟩ := H
       replace H : (if t386 = true then (some (y383, true)) else ((some (([] : List (S55)) : List (S55))).bind fun y387 => (if y387.length + l0.length < 4398046511104 then (some ((y387 ++ l0), false)) else (none)))) = some (r1, r2) := H
       have A62 := Aside0.mk A620
       clear A620
       by_cases c63 : t386 = true
       ·subst c63
        have H1 : (some (y383, true)) = some (r1, r2) := by rw [if_pos rfl] at H; exact H
        clear H
        have H := H1
        clear H1
        simp only [Option.some.injEq, Prod.mk.injEq] at H
        obtain ⟨rfl, rfl⟩ := H
        have hcz64_0 : wr.cell? ⟨gb362, 0, none⟩ = some (.int .i64 a1) := (blk_cell BK362.out 0).trans rfl
        have hcz64_1 : wr.cell? ⟨gb362, 1, none⟩ = some (.int .i64 a2) := (blk_cell BK362.out 1).trans rfl
        have hcz64_2 : wr.cell? ⟨gb362, 2, none⟩ = some (.int .i64 a3) := (blk_cell BK362.out 2).trans rfl
        have hcz64_3 : wr.cell? ⟨gb362, 3, none⟩ = some (.int .i64 a4) := (blk_cell BK362.out 3).trans rfl
        have hfz64_0 := blk_frozen BK362.out 0
        have hfz64_1 := blk_frozen BK362.out 1
        have hfz64_2 := blk_frozen BK362.out 2
        have hfz64_3 := blk_frozen BK362.out 3
        go_wp2_with (first | ((with_reducible refine gate_builtin (b := .append) (xs := #[.tmp 76, .tmp 78]) rfl ?_); at_builtin; refine Kd.R_append k55 (w0 := w) w.heap.size rfl (.tmp 76) (.tmp 78) 32 55 (.agg #[(.int .i64 0), (.int .i64 0), (.int .i64 0), (.int .i64 0)]) 32 rfl Try.underlying32 info55 rfl (by decide) (by omega) u12 x12_1 (⟨a1, a2, a3, a4⟩ : S55) [.int .i64 a1, .int .i64 a2, .int .i64 a3, .int .i64 a4] (fun k_ => k_ ≠ gb362) (fun _ => False) rfl rfl ?aP (fun _ hk => hk.elim) ?aF ?aO ?aB ?aS ?aL ?_; (case aP => exact k55_mkM _ _ _ (⟨a1, a2, a3, a4⟩ : S55)); (case aB => exact (by repeat (first | (with_reducible first | exact HB.out | apply below_alloc | apply pw_below_drewN | apply below_drew1 | refine below_set ?_ GE362.out) | exact HB.out))); (case aF => exact (fun k_ hk => Kd.freshB (g := gb362) (o := .cells #[.int .i64 a1, .int .i64 a2, .int .i64 a3, .int .i64 a4] 55 (0, 0)) (pK BK362.out) k_ hk)); (case aO => exact (pR HO_12.out)); (case aS => exact (below_size (by repeat (first | (with_reducible first | exact HB.out | apply below_alloc | apply pw_below_drewN | apply below_drew1 | refine below_set ?_ GE362.out) | exact HB.out)))); (case aL => have := LMc61.out; omega); intro v384 w65 ho hb hg hat; rw [← Ny383.out] at ho; have n0_ := Aside0.mk (blk_grown (g := gb362) (o := .cells #[.int .i64 a1, .int .i64 a2, .int .i64 a3, .int .i64 a4] 55 (0, 0)) (pK BK362.out) hg (Kd.R_away HO_12.out (fun _ hk => hk))); have n1_ := Aside0.mk (hb); have n2_ := Aside0.mk (ho); clear BK362; clear HB; clear HO_12; have BK362 := n0_; have HB := n1_; have HO385 := n2_; clear n0_ n1_ n2_; clear ho hb hg hat; obtain ⟨Ao66, co66, eo66⟩ := Kd.R_slice HO385.out; subst eo66) | ((with_reducible refine gate_callee (f := 21) rfl ?_); refine goesL_ (some 81) rfl rfl Try.func21 (by kernel_rfl) rfl #[.slice Ao66 y383.length co66] rfl bM ?_; (with_reducible refine (spec_BlkOk.calls k1 _ _ y383 true _ ?side1 ?side2 A62.out).mono ?_); (case side1 => exact pC (Kd.R_reads' HO385.out).2.2); (case side2 => exact (Kd.R_reads' HO385.out).2.1); rintro e w67 ⟨rfl, hb⟩; refine ⟨_, rfl, ?_⟩; have n0_ := Aside0.mk (Kd.R_below (pR HO385.out) hb); have n1_ := Aside0.mk (blk_below (g := gb362) (o := .cells #[.int .i64 a1, .int .i64 a2, .int .i64 a3, .int .i64 a4] 55 (0, 0)) (pK BK362.out) hb); have n2_ := Aside0.mk (below_step (by repeat (first | (with_reducible first | exact HB.out | apply below_alloc | apply pw_below_drewN | apply below_drew1 | refine below_set ?_ GE362.out) | exact HB.out)) hb); clear HO385; clear BK362; clear HB; have HO385 := n0_; have BK362 := n1_; have HB := n2_; clear n0_ n1_ n2_; (try clear hb); (try clear hb2); (try clear hk); (try clear hi)))
        go_ret2
        exact ⟨_, by first | rfl | (simp [errW_none, errW_some] <;> rfl) | (simp [*, errW_none, errW_some] <;> rfl), pR (Kd.R_mono HO385.out (fun _ hk => trivial)), by repeat (first | (with_reducible first | exact HB.out | apply below_alloc | apply pw_below_drewN | apply below_drew1 | refine below_set ?_ GE362.out) | exact HB.out)⟩
       ·replace c63 := Bool.eq_false_iff.mpr c63
        subst c63
        have H1 : ((some (([] : List (S55)) : List (S55))).bind fun y387 => (if y387.length + l0.length < 4398046511104 then (some ((y387 ++ l0), false)) else (none))) = some (r1, r2) := by rw [if_neg (show ¬ (false = true) by decide)] at H; exact H
        clear H
        have H := H1
        clear H1
        obtain ⟨y387, hy387⟩ : ∃ y_ : List (S55), y_ = (([] : List (S55))) := ⟨_, rfl⟩
        replace H : (if y387.length + l0.length < 4398046511104 then (some ((y387 ++ l0), false)) else (none)) = some (r1, r2) := by first | (rw [hy387]; with_reducible exact H) | (have H2_ := (Option.bind_some _ _).symm.trans H; rw [hy387]; with_reducible exact H2_) | (have H2_ := (Option.bind_some _ _).symm.trans H; with_reducible exact H2_) | with_reducible exact H | (rw [hy387]; exact H) | exact H
        have Ny387 := Aside0.mk hy387
        clear hy387
        by_cases c68 : y387.length + l0.length < 4398046511104
        ·rw [if_pos c68] at H
         have LMc68 := Aside0.mk c68
         clear c68
         obtain ⟨y390, hy390⟩ : ∃ y_ : List (S55), y_ = (y387 ++ l0) := ⟨_, rfl⟩
         replace H : (some (y390, false)) = some (r1, r2) := by first | (rw [hy390]; with_reducible exact H) | (have H2_ := (Option.bind_some _ _).symm.trans H; rw [hy390]; with_reducible exact H2_) | (have H2_ := (Option.bind_some _ _).symm.trans H; with_reducible exact H2_) | with_reducible exact H | (rw [hy390]; exact H) | exact H
         have Ny390 := Aside0.mk hy390
         clear hy390
         simp only [Option.some.injEq, Prod.mk.injEq] at H
         obtain ⟨rfl, rfl⟩ := H
         have hcz69_0 : wr.cell? ⟨gb362, 0, none⟩ = some (.int .i64 a1) := (blk_cell BK362.out 0).trans rfl
         have hcz69_1 : wr.cell? ⟨gb362, 1, none⟩ = some (.int .i64 a2) := (blk_cell BK362.out 1).trans rfl
         have hcz69_2 : wr.cell? ⟨gb362, 2, none⟩ = some (.int .i64 a3) := (blk_cell BK362.out 2).trans rfl
         have hcz69_3 : wr.cell? ⟨gb362, 3, none⟩ = some (.int .i64 a4) := (blk_cell BK362.out 3).trans rfl
         have hfz69_0 := blk_frozen BK362.out 0
         have hfz69_1 := blk_frozen BK362.out 1
         have hfz69_2 := blk_frozen BK362.out 2
         have hfz69_3 := blk_frozen BK362.out 3
         go_wp2_with (first | ((with_reducible refine gate_builtin (b := .append) (xs := #[.tmp 76, .tmp 78]) rfl ?_); at_builtin; refine Kd.R_append k55 (w0 := w) w.heap.size rfl (.tmp 76) (.tmp 78) 32 55 (.agg #[(.int .i64 0), (.int .i64 0), (.int .i64 0), (.int .i64 0)]) 32 rfl Try.underlying32 info55 rfl (by decide) (by omega) u12 x12_1 (⟨a1, a2, a3, a4⟩ : S55) [.int .i64 a1, .int .i64 a2, .int .i64 a3, .int .i64 a4] (fun k_ => k_ ≠ gb362) (fun _ => False) rfl rfl ?aP (fun _ hk => hk.elim) ?aF ?aO ?aB ?aS ?aL ?_; (case aP => exact k55_mkM _ _ _ (⟨a1, a2, a3, a4⟩ : S55)); (case aB => exact (by repeat (first | (with_reducible first | exact HB.out | apply below_alloc | apply pw_below_drewN | apply below_drew1 | refine below_set ?_ GE362.out) | exact HB.out))); (case aF => exact (fun k_ hk => Kd.freshB (g := gb362) (o := .cells #[.int .i64 a1, .int .i64 a2, .int .i64 a3, .int .i64 a4] 55 (0, 0)) (pK BK362.out) k_ hk)); (case aO => exact (pR HO_12.out)); (case aS => exact (below_size (by repeat (first | (with_reducible first | exact HB.out | apply below_alloc | apply pw_below_drewN | apply below_drew1 | refine below_set ?_ GE362.out) | exact HB.out)))); (case aL => have := LMc61.out; omega); intro v384 w70 ho hb hg hat; rw [← Ny383.out] at ho; have n0_ := Aside0.mk (blk_grown (g := gb362) (o := .cells #[.int .i64 a1, .int .i64 a2, .int .i64 a3, .int .i64 a4] 55 (0, 0)) (pK BK362.out) hg (Kd.R_away HO_12.out (fun _ hk => hk))); have n1_ := Aside0.mk (hb); have n2_ := Aside0.mk (ho); clear BK362; clear HB; clear HO_12; have BK362 := n0_; have HB := n1_; have HO385 := n2_; clear n0_ n1_ n2_; clear ho hb hg hat; obtain ⟨Ao71, co71, eo71⟩ := Kd.R_slice HO385.out; subst eo71) | ((with_reducible refine gate_callee (f := 21) rfl ?_); refine goesL_ (some 81) rfl rfl Try.func21 (by kernel_rfl) rfl #[.slice Ao71 y383.length co71] rfl bM ?_; (with_reducible refine (spec_BlkOk.calls k1 _ _ y383 false _ ?side1 ?side2 A62.out).mono ?_); (case side1 => exact pC (Kd.R_reads' HO385.out).2.2); (case side2 => exact (Kd.R_reads' HO385.out).2.1); rintro e w72 ⟨rfl, hb⟩; refine ⟨_, rfl, ?_⟩; have n0_ := Aside0.mk (Kd.R_below (pR HO385.out) hb); have n1_ := Aside0.mk (blk_below (g := gb362) (o := .cells #[.int .i64 a1, .int .i64 a2, .int .i64 a3, .int .i64 a4] 55 (0, 0)) (pK BK362.out) hb); have n2_ := Aside0.mk (below_step (by repeat (first | (with_reducible first | exact HB.out | apply below_alloc | apply pw_below_drewN | apply below_drew1 | refine below_set ?_ GE362.out) | exact HB.out)) hb); clear HO385; clear BK362; clear HB; have HO385 := n0_; have BK362 := n1_; have HB := n2_; clear n0_ n1_ n2_; (try clear hb); (try clear hb2); (try clear hk); (try clear hi)) | ((with_reducible refine gate_dst (N := 83) rfl ?_); refine Kd.R_lit k55 _ 55 ?hg (N := 83) ?hd (xs := ([] : List (S55))) (inner := []) (ok := fun _ => True) (okp := fun _ => True) ?hr ?hp (fun _ hk => hk) trivial (Below.refl _ _) (Nat.le_refl _) (by simp) ?_; (case hd => rfl); (case hg => rfl); (case hr => first | (go_simp; done) | (go_simp; rfl)); (case hp => exact (Reps.none _ _)); intro v388 w73 ho74 hb hg_ hnew_; clear hg_ hnew_; (first | rw [← Ny387.out] at ho74 | (simp only [Int.reduceToNat] at ho74; rw [← Ny387.out] at ho74)); have n0_ := Aside0.mk (Kd.R_elder' (pR HO385.out) (Kd.R_base ho74) hb); have n1_ := Aside0.mk (Kd.R_lower (Kd.R_newB (Kd.R_new' ho74 (Kd.R_lt (pR HO385.out))) (g := gb362) (o := .cells #[.int .i64 a1, .int .i64 a2, .int .i64 a3, .int .i64 a4] 55 (0, 0)) (pK BK362.out)) (below_size (by repeat (first | (with_reducible first | exact HB.out | apply below_alloc | apply pw_below_drewN | apply below_drew1 | refine below_set ?_ GE362.out) | exact HB.out)))); have n2_ := Aside0.mk (blk_below (g := gb362) (o := .cells #[.int .i64 a1, .int .i64 a2, .int .i64 a3, .int .i64 a4] 55 (0, 0)) (pK BK362.out) hb); have n3_ := Aside0.mk (below_step (by repeat (first | (with_reducible first | exact HB.out | apply below_alloc | apply pw_below_drewN | apply below_drew1 | refine below_set ?_ GE362.out) | exact HB.out)) hb); clear HO385; clear BK362; clear HB; have HO385 := n0_; have HO389 := n1_; have BK362 := n2_; have HB := n3_; clear n0_ n1_ n2_ n3_; clear hb ho74) | ((with_reducible refine gate_builtin (b := .append) (xs := #[.tmp 83, .tmp 84]) rfl ?_); at_builtin; refine Kd.R_append_rows k55 (w0 := w) w.heap.size rfl (.tmp 83) (.tmp 84) 32 55 (.agg #[(.int .i64 0), (.int .i64 0), (.int .i64 0), (.int .i64 0)]) 32 rfl Try.underlying32 info55 rfl (by decide) (by omega) v388 y387 l0 _ _ _ (fun k_ => some k_ ≠ (.slice Ao71 y383.length co71 : Value).ownBlock ∧ k_ ≠ gb362) (fun _ => False) rfl rfl ?aO ?aR (fun _ _ h => h) (fun _ h => h.elim) ?aF ?aB ?aS ?aL ?_; (case aR => repeat (first | exact (Kd.C_below HR0.out HB.out) | (with_reducible refine Kd.C_alloc ?_ _) | (with_reducible refine Kd.C_drewN ?_ _) | (with_reducible refine Kd.C_drew ?_))); (case aB => exact (by repeat (first | (with_reducible first | exact HB.out | apply below_alloc | apply pw_below_drewN | apply below_drew1 | refine below_set ?_ GE362.out) | exact HB.out))); (case aF => exact (fun k_ hk => ⟨Kd.fresh' (Kd.R_lt (pR HO385.out)) k_ hk, Kd.freshB (g := gb362) (o := .cells #[.int .i64 a1, .int .i64 a2, .int .i64 a3, .int .i64 a4] 55 (0, 0)) (pK BK362.out) k_ hk⟩)); (case aO => exact (pR (Kd.R_mono HO389.out (fun _ hk => ⟨hk.1.2, hk.2⟩)))); (case aS => exact (below_size (by repeat (first | (with_reducible first | exact HB.out | apply below_alloc | apply pw_below_drewN | apply below_drew1 | refine below_set ?_ GE362.out) | exact HB.out)))); (case aL => have := LMc68.out; omega); intro v391 w75 ho hb hg hat; rw [← Ny390.out] at ho; have n0_ := Aside0.mk (blk_grown (g := gb362) (o := .cells #[.int .i64 a1, .int .i64 a2, .int .i64 a3, .int .i64 a4] 55 (0, 0)) (pK BK362.out) hg (Kd.R_away HO389.out (fun _ hk => hk.2))); have n1_ := Aside0.mk (Kd.R_after (ok := (fun k_ => k_ ≠ gb362)) (pR HO385.out) hg hat); have n2_ := Aside0.mk (hb); have n3_ := Aside0.mk (ho); clear BK362; clear HO385; clear HB; clear HO389; have BK362 := n0_; have HO385 := n1_; have HB := n2_; have HO392 := n3_; clear n0_ n1_ n2_ n3_; clear ho hb hg hat))
         go_ret2
         exact ⟨_, by first | rfl | (simp [errW_none, errW_some] <;> rfl) | (simp [*, errW_none, errW_some] <;> rfl), pR (Kd.R_mono HO392.out (fun _ hk => trivial)), by repeat (first | (with_reducible first | exact HB.out | apply below_alloc | apply pw_below_drewN | apply below_drew1 | refine below_set ?_ GE362.out) | exact HB.out)⟩
        ·rw [if_neg c68] at H
         exact absurd H (by simp)
      ·rw [if_neg c61] at H
       exact absurd H (by simp)
 ·replace c7 := Bool.eq_false_iff.mpr c7
  subst c7
  have H1 : (some (y359, false)) = some (r1, r2) := by rw [if_neg (show ¬ (false = true) by decide)] at H; exact H
  clear H
  have H := H1
  clear H1
  simp only [Option.some.injEq, Prod.mk.injEq] at H
  obtain ⟨rfl, rfl⟩ := H
  go_enter Try.func38, Try.ntmps38
  go_wp2_with (first | ((with_reducible refine gate_dst (N := 18) rfl ?_); refine Kd.R_lit k55 _ 55 ?hg (N := 18) ?hd (xs := ([] : List (S55))) (inner := []) (ok := fun _ => True) (okp := fun _ => True) ?hr ?hp (fun _ hk => hk) trivial (Below.refl _ _) (Nat.le_refl _) (by simp) ?_; (case hd => rfl); (case hg => rfl); (case hr => first | (go_simp; done) | (go_simp; rfl)); (case hp => exact (Reps.none _ _)); intro v360 w76 ho77 hb hg_ hnew_; clear hg_ hnew_; (first | rw [← Ny359.out] at ho77 | (simp only [Int.reduceToNat] at ho77; rw [← Ny359.out] at ho77)); have n0_ := Aside0.mk (Kd.R_lower ho77 (below_size (pB HB.out))); have n1_ := Aside0.mk (below_step (pB HB.out) hb); clear HB; have HO361 := n0_; have HB := n1_; clear n0_ n1_; clear hb ho77) | ((with_reducible refine gate_dst (N := 13) rfl ?_); refine box_event ?hg (N := 13) ?hd (cs := #[.int .i64 0, .int .i64 0, .int .i64 0, .int .i64 0]) (t := 55) ?hr ?_; (case hd => rfl); (case hg => rfl); (case hr => first | (go_simp; done) | (go_simp; rfl)); intro gb362 hg w78 hbox hb; have n0_ := Aside0.mk (Kd.R_below (Kd.R_elderB (pR HO361.out) gb362 (Nat.le_of_eq hg.symm)) hb); have n1_ := Aside0.mk (below_step (pB HB.out) hb); have n2_ := Aside0.mk (hbox); have n3_ := Aside0.mk ((by rw [hg]; exact (below_size (pB HB.out)) : w.heap.size ≤ gb362)); have n4_ := Aside0.mk ((by rw [hg]; exact (below_size (pB HB.out)) : w.heap.size ≤ gb362)); clear HO361; clear HB; have HO361 := n0_; have HB := n1_; have BK362 := n2_; have GW362 := n3_; have GE362 := n4_; clear n0_ n1_ n2_ n3_ n4_; clear hb hbox hg; have hcz79_0 : w78.cell? ⟨gb362, 0, none⟩ = some (.int .i64 0) := (blk_cell BK362.out 0).trans rfl; have hcz79_1 : w78.cell? ⟨gb362, 1, none⟩ = some (.int .i64 0) := (blk_cell BK362.out 1).trans rfl; have hcz79_2 : w78.cell? ⟨gb362, 2, none⟩ = some (.int .i64 0) := (blk_cell BK362.out 2).trans rfl; have hcz79_3 : w78.cell? ⟨gb362, 3, none⟩ = some (.int .i64 0) := (blk_cell BK362.out 3).trans rfl; have hfz79_0 := blk_frozen BK362.out 0; have hfz79_1 := blk_frozen BK362.out 1; have hfz79_2 := blk_frozen BK362.out 2; have hfz79_3 := blk_frozen BK362.out 3) | ((with_reducible refine gate_callee (f := 21) rfl ?_); refine goesL_ (some 25) rfl rfl Try.func21 (by kernel_rfl) rfl #[.slice A0 l0.length c0] rfl bM ?_; (with_reducible refine (spec_BlkOk.calls k _ _ l0 false _ ?side1 ?side2 A6.out).mono ?_); (case side1 => exact Kd.C_below HR0.out (by repeat (first | (with_reducible first | exact HB.out | apply below_alloc | apply pw_below_drewN | apply below_drew1 | refine below_set ?_ GE362.out) | exact HB.out))); (case side2 => exact HC0.out); rintro e w80 ⟨rfl, hb⟩; refine ⟨_, rfl, ?_⟩; have n0_ := Aside0.mk (Kd.R_below (pR (Kd.R_mono (Kd.R_far (p := ⟨gb362, 3, none⟩) (Kd.R_far (p := ⟨gb362, 2, none⟩) (Kd.R_far (p := ⟨gb362, 1, none⟩) (Kd.R_far (p := ⟨gb362, 0, none⟩) (Kd.R_mono HO361.out (fun k_ hk => (⟨hk, hk.2⟩ : _ ∧ k_ ≠ gb362))) (fun _ hk => hk.2) (.int .i64 a1)) (fun _ hk => hk.2) (.int .i64 a2)) (fun _ hk => hk.2) (.int .i64 a3)) (fun _ hk => hk.2) (.int .i64 a4)) (fun _ h_ => h_.1))) hb); have n1_ := Aside0.mk (blk_below (g := gb362) (o := .cells #[.int .i64 a1, .int .i64 a2, .int .i64 a3, .int .i64 a4] 55 (0, 0)) (by (with_reducible repeat (first | refine blk_drewN ?_ _ | refine blk_drew ?_ | refine blk_alloc ?_ _)); refine blk_put (cs := #[.int .i64 a1, .int .i64 a2, .int .i64 a3, .int .i64 0]) ?_ 3 _ rfl; (with_reducible repeat (first | refine blk_drewN ?_ _ | refine blk_drew ?_ | refine blk_alloc ?_ _)); refine blk_put (cs := #[.int .i64 a1, .int .i64 a2, .int .i64 0, .int .i64 0]) ?_ 2 _ rfl; (with_reducible repeat (first | refine blk_drewN ?_ _ | refine blk_drew ?_ | refine blk_alloc ?_ _)); refine blk_put (cs := #[.int .i64 a1, .int .i64 0, .int .i64 0, .int .i64 0]) ?_ 1 _ rfl; (with_reducible repeat (first | refine blk_drewN ?_ _ | refine blk_drew ?_ | refine blk_alloc ?_ _)); refine blk_put (cs := #[.int .i64 0, .int .i64 0, .int .i64 0, .int .i64 0]) ?_ 0 _ rfl; (with_reducible repeat (first | refine blk_drewN ?_ _ | refine blk_drew ?_ | refine blk_alloc ?_ _)); exact BK362.out) hb); have n2_ := Aside0.mk (below_step (by repeat (first | (with_reducible first | exact HB.out | apply below_alloc | apply pw_below_drewN | apply below_drew1 | refine below_set ?_ GE362.out) | exact HB.out)) hb); clear HO361; clear BK362; clear HB; have HO361 := n0_; have BK362 := n1_; have HB := n2_; clear n0_ n1_ n2_; (try clear hb); (try clear hb2); (try clear hk); (try clear hi)))
  go_ret2
  exact ⟨_, by first | rfl | (simp [errW_none, errW_some] <;> rfl) | (simp [*, errW_none, errW_some] <;> rfl), pR (Kd.R_mono HO361.out (fun _ hk => trivial)), by repeat (first | (with_reducible first | exact HB.out | apply below_alloc | apply pw_below_drewN | apply below_drew1 | refine below_set ?_ GE362.out) | exact HB.out)⟩

end Go.Proofs.Ytdcdaclmicmiaaa.P
