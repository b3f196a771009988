-- printed by pprint.py (this session's program over the kit's printer) out of the translation. Lean checks it.
import Derived.Test.YtdcdaclmicmiaaaPx0
import Derived.Test.YtdcdaclmicmiaaaPx4
import Derived.Test.YtdcdaclmicmiaaaPx5
import Derived.Test.YtdcdaclmicmiaaaPx6
namespace Go.Proofs.Ytdcdaclmicmiaaa.P
open Go.RowKit Go.Proofs.YtdcdaclmicmiaaaX Go.Proofs.YtdcdaclmicmiaaaW.PrintWords Go.Proofs.YtdcdaclmicmiaaaW.PrintLast Go.Proofs.YtdcdaclmicmiaaaW.PrintMore
attribute [local go_sem] max2_int min2_int max_two min_two max_three min_three max_four min_four   -- for this text's walks alone
set_option linter.unusedVariables false
set_option linter.unusedSimpArgs false

/-! ### impl_BlkPut: function 39 -/
mutual
def impl_BlkPut.l0 : Nat → List (S55) → List (S55) → Bool → List (S55) → Int → Int → Int → Int → Int → Int → Option ((List (S55)) × Bool)
 | 0, _, _, _, _, _, _, _, _, _, _ => none
 | k + 1, x0, x13, x14, x26, x27, x28, x395000, x395001, x395002, x395003 => if x28 < x27 then (if 0 ≤ x28 then (if x28 < (x26.length : Int) then ((impl_pieceWay.f k x395000 x395001 x395002 x395003 ((rd_T55 x26 x28).f0) ((rd_T55 x26 x28).f1) ((rd_T55 x26 x28).f2) ((rd_T55 x26 x28).f3)).bind fun t397 => (if t397 ≤ 0 then (impl_BlkPut.j1 k x0 x13 x14 t397 x26 x27 x28 (!x14) x395000 x395001 x395002 x395003 ((rd_T55 x26 x28).f0) ((rd_T55 x26 x28).f1) ((rd_T55 x26 x28).f2) ((rd_T55 x26 x28).f3)) else (impl_BlkPut.j1 k x0 x13 x14 t397 x26 x27 x28 false x395000 x395001 x395002 x395003 ((rd_T55 x26 x28).f0) ((rd_T55 x26 x28).f1) ((rd_T55 x26 x28).f2) ((rd_T55 x26 x28).f3)))) else (none)) else (none)) else (if x14 = true then (impl_BlkPut.j2 k x0 x13) else (if x13.length < 4398046511104 then (impl_BlkPut.j2 k x0 (x13 ++ [(⟨x395000, x395001, x395002, x395003⟩ : S55)])) else (none)))
def impl_BlkPut.j1 : Nat → List (S55) → List (S55) → Bool → Int → List (S55) → Int → Int → Bool → Int → Int → Int → Int → Int → Int → Int → Int → Option ((List (S55)) × Bool)
 | 0, _, _, _, _, _, _, _, _, _, _, _, _, _, _, _, _ => none
 | k + 1, x0, x13, x14, x17, x26, x27, x28, x40, x395000, x395001, x395002, x395003, x397000, x397001, x397002, x397003 => if x40 = true then (if x13.length < 4398046511104 then ((some (x13 ++ [(⟨x395000, x395001, x395002, x395003⟩ : S55)] : List (S55))).bind fun y398 => (if x17 = 0 then (impl_BlkPut.l0 k x0 y398 true x26 x27 (wrap64 (x28 + 1)) x395000 x395001 x395002 x395003) else (if y398.length < 4398046511104 then (impl_BlkPut.l0 k x0 (y398 ++ [(⟨x397000, x397001, x397002, x397003⟩ : S55)]) true x26 x27 (wrap64 (x28 + 1)) x395000 x395001 x395002 x395003) else (none)))) else (none)) else (if x17 = 0 then (impl_BlkPut.l0 k x0 x13 x14 x26 x27 (wrap64 (x28 + 1)) x395000 x395001 x395002 x395003) else (if x13.length < 4398046511104 then (impl_BlkPut.l0 k x0 (x13 ++ [(⟨x397000, x397001, x397002, x397003⟩ : S55)]) x14 x26 x27 (wrap64 (x28 + 1)) x395000 x395001 x395002 x395003) else (none)))
def impl_BlkPut.j2 : Nat → List (S55) → List (S55) → Option ((List (S55)) × Bool)
 | 0, _, _ => none
 | k + 1, x0, x13 => (impl_BlkOk.f k x13).bind fun t410 => (if t410 = true then ((impl_copied_BlkPiece.f x13).bind fun t411 => (some (t411, true))) else ((impl_copied_BlkPiece.f x0).bind fun t414 => (some (t414, false))))
end
def impl_BlkPut.f (k : Nat) (l0 : List (S55)) (a1 : Int) (a2 : Int) (a3 : Int) (a4 : Int) : Option ((List (S55)) × Bool) := (impl_BlkOk.f k l0).bind fun t393 => (if t393 = true then (impl_BlkPut.l0 k l0 ([] : List (S55)) false l0 (l0.length : Int) 0 a1 a2 a3 a4) else (some (([] : List (S55)), false)))
theorem impl_BlkPut.mono_l : ∀ k, (∀ y0 y1 y2 y3 y4 y5 y6 y7 y8 y9, LeO (impl_BlkPut.l0 k y0 y1 y2 y3 y4 y5 y6 y7 y8 y9) (impl_BlkPut.l0 (k + 1) y0 y1 y2 y3 y4 y5 y6 y7 y8 y9)) ∧ (∀ y0 y1 y2 y3 y4 y5 y6 y7 y8 y9 y10 y11 y12 y13 y14 y15, LeO (impl_BlkPut.j1 k y0 y1 y2 y3 y4 y5 y6 y7 y8 y9 y10 y11 y12 y13 y14 y15) (impl_BlkPut.j1 (k + 1) y0 y1 y2 y3 y4 y5 y6 y7 y8 y9 y10 y11 y12 y13 y14 y15)) ∧ (∀ y0 y1, LeO (impl_BlkPut.j2 k y0 y1) (impl_BlkPut.j2 (k + 1) y0 y1))
 | 0 => ⟨fun _ _ _ _ _ _ _ _ _ _ r h => by simp [impl_BlkPut.l0] at h, fun _ _ _ _ _ _ _ _ _ _ _ _ _ _ _ _ r h => by simp [impl_BlkPut.j1] at h, fun _ _ r h => by simp [impl_BlkPut.j2] at h⟩
 | k + 1 => by
  obtain ⟨ih0, ih1, ih2⟩ := impl_BlkPut.mono_l k
  refine ⟨?_, ?_, ?_⟩
  ·intro y0 y1 y2 y3 y4 y5 y6 y7 y8 y9
   unfold impl_BlkPut.l0
   repeat' first
   | (with_reducible exact ih0 _ _ _ _ _ _ _ _ _ _)
   | (with_reducible exact ih1 _ _ _ _ _ _ _ _ _ _ _ _ _ _ _ _)
   | (with_reducible exact ih2 _ _)
   | (with_reducible exact impl_BlkOk.mono _ _)
   | (with_reducible exact impl_pieceWay.mono _ _ _ _ _ _ _ _ _)
   | (with_reducible exact LeO.refl _)
   | (with_reducible exact LeO.none _)
   | (with_reducible refine LeO.ite ?_ ?_)
   | (with_reducible refine LeO.bind ?_ (fun _ => ?_))
   | exact ih0 _ _ _ _ _ _ _ _ _ _
   | exact ih1 _ _ _ _ _ _ _ _ _ _ _ _ _ _ _ _
   | exact ih2 _ _
   | exact impl_BlkOk.mono _ _
   | exact impl_pieceWay.mono _ _ _ _ _ _ _ _ _
   | exact LeO.none _
   | refine LeO.ite ?_ ?_
   | refine LeO.bind ?_ (fun _ => ?_)
  ·intro y0 y1 y2 y3 y4 y5 y6 y7 y8 y9 y10 y11 y12 y13 y14 y15
   unfold impl_BlkPut.j1
   repeat' first
   | (with_reducible exact ih0 _ _ _ _ _ _ _ _ _ _)
   | (with_reducible exact ih1 _ _ _ _ _ _ _ _ _ _ _ _ _ _ _ _)
   | (with_reducible exact ih2 _ _)
   | (with_reducible exact impl_BlkOk.mono _ _)
   | (with_reducible exact impl_pieceWay.mono _ _ _ _ _ _ _ _ _)
   | (with_reducible exact LeO.refl _)
   | (with_reducible exact LeO.none _)
   | (with_reducible refine LeO.ite ?_ ?_)
   | (with_reducible refine LeO.bind ?_ (fun _ => ?_))
   | exact ih0 _ _ _ _ _ _ _ _ _ _
   | exact ih1 _ _ _ _ _ _ _ _ _ _ _ _ _ _ _ _
   | exact ih2 _ _
   | exact impl_BlkOk.mono _ _
   | exact impl_pieceWay.mono _ _ _ _ _ _ _ _ _
   | exact LeO.none _
   | refine LeO.ite ?_ ?_
   | refine LeO.bind ?_ (fun _ => ?_)
  ·intro y0 y1
   unfold impl_BlkPut.j2
   repeat' first
   | (with_reducible exact ih0 _ _ _ _ _ _ _ _ _ _)
   | (with_reducible exact ih1 _ _ _ _ _ _ _ _ _ _ _ _ _ _ _ _)
   | (with_reducible exact ih2 _ _)
   | (with_reducible exact impl_BlkOk.mono _ _)
   | (with_reducible exact impl_pieceWay.mono _ _ _ _ _ _ _ _ _)
   | (with_reducible exact LeO.refl _)
   | (with_reducible exact LeO.none _)
   | (with_reducible refine LeO.ite ?_ ?_)
   | (with_reducible refine LeO.bind ?_ (fun _ => ?_))
   | exact ih0 _ _ _ _ _ _ _ _ _ _
   | exact ih1 _ _ _ _ _ _ _ _ _ _ _ _ _ _ _ _
   | exact ih2 _ _
   | exact impl_BlkOk.mono _ _
   | exact impl_pieceWay.mono _ _ _ _ _ _ _ _ _
   | exact LeO.none _
   | refine LeO.ite ?_ ?_
   | refine LeO.bind ?_ (fun _ => ?_)
theorem impl_BlkPut.mono : ∀ a0 a1 a2 a3 a4 k, LeO (impl_BlkPut.f k a0 a1 a2 a3 a4) (impl_BlkPut.f (k + 1) a0 a1 a2 a3 a4) := by
 intro a0 a1 a2 a3 a4 k
 obtain ⟨ih0, ih1, ih2⟩ := impl_BlkPut.mono_l k
 unfold impl_BlkPut.f
 repeat' first
   | (with_reducible exact ih0 _ _ _ _ _ _ _ _ _ _)
   | (with_reducible exact ih1 _ _ _ _ _ _ _ _ _ _ _ _ _ _ _ _)
   | (with_reducible exact ih2 _ _)
   | (with_reducible exact impl_BlkOk.mono _ _)
   | (with_reducible exact impl_pieceWay.mono _ _ _ _ _ _ _ _ _)
   | (with_reducible exact LeO.refl _)
   | (with_reducible exact LeO.none _)
   | (with_reducible refine LeO.ite ?_ ?_)
   | (with_reducible refine LeO.bind ?_ (fun _ => ?_))
   | exact ih0 _ _ _ _ _ _ _ _ _ _
   | exact ih1 _ _ _ _ _ _ _ _ _ _ _ _ _ _ _ _
   | exact ih2 _ _
   | exact impl_BlkOk.mono _ _
   | exact impl_pieceWay.mono _ _ _ _ _ _ _ _ _
   | exact LeO.none _
   | refine LeO.ite ?_ ?_
   | refine LeO.bind ?_ (fun _ => ?_)
set_option maxHeartbeats 8000000 in
set_option maxRecDepth 100000 in
theorem impl_BlkPut.calls (k : Nat) (A0 : Option Addr) (c0 : Nat) (l0 : List (S55)) (a1 : Int) (a2 : Int) (a3 : Int) (a4 : Int) (r1 : List (S55)) (r2 : Bool) (w : World) (hr0 : Kd.C k55 w A0 l0.length l0) (hc0 : l0.length ≤ c0) (h : impl_BlkPut.f k l0 a1 a2 a3 a4 = some (r1, r2)) :
  Calls Try.prog 39 #[.slice A0 l0.length c0, .int .i64 a1, .int .i64 a2, .int .i64 a3, .int .i64 a4] w fun e w' => ∃ v0_ : Value, e = .returned (.tuple #[v0_, .bool r2]) ∧ Kd.R k55 55 w' w.heap.size (fun _ => True) v0_ r1 ∧ Below w.heap.size w w' := by
 have hu55 := Try.underlying55
 have HR0 := Aside0.mk hr0
 have HC0 := Aside0.mk hc0
 clear hr0 hc0
 have HB := Aside0.mk (Below.refl w.heap.size w)
 have H : ((impl_BlkOk.f k l0).bind fun t393 => (if t393 = true then (impl_BlkPut.l0 k l0 ([] : List (S55)) false l0 (l0.length : Int) 0 a1 a2 a3 a4) else (some (([] : List (S55)), false)))) = some (r1, r2) := h
 clear h
 replace H := Option.bind_eq_some_iff.mp H
 obtain ⟨t393, A60, H⟩ := H
 replace H : (if t393 = true then (impl_BlkPut.l0 k l0 ([] : List (S55)) false l0 (l0.length : Int) 0 a1 a2 a3 a4) else (some (([] : List (S55)), false))) = some (r1, r2) := H
 have A6 := Aside0.mk A60
 clear A60
 by_cases c7 : t393 = true
 ·subst c7
  have H1 : (impl_BlkPut.l0 k l0 ([] : List (S55)) false l0 (l0.length : Int) 0 a1 a2 a3 a4) = some (r1, r2) := by rw [if_pos rfl] at H; exact H
  clear H
  have H := H1
  clear H1
  have H' := Aside0.mk H
  clear H
  go_enter Try.func39, Try.ntmps39
  go_wp2_with (first | ((with_reducible refine gate_callee (f := 23) rfl ?_); refine goesL_ (some 19) rfl rfl Try.func23 (by kernel_rfl) rfl #[.slice A0 l0.length c0] rfl bM ?_; (with_reducible refine (impl_BlkOk.calls k _ _ l0 true _ ?side1 ?side2 A6.out).mono ?_); (case side1 => exact pC HR0.out); (case side2 => exact HC0.out); rintro e w8 ⟨rfl, hb⟩; refine ⟨_, rfl, ?_⟩; have n0_ := Aside0.mk (below_step (pB HB.out) hb); clear HB; have HB := n0_; clear n0_; (try clear hb); (try clear hb2); (try clear hk); (try clear hi)) | ((with_reducible refine gate_dst (N := 12) rfl ?_); refine box_event ?hg (N := 12) ?hd (cs := #[.int .i64 0, .int .i64 0, .int .i64 0, .int .i64 0]) (t := 55) ?hr ?_; (case hd => rfl); (case hg => rfl); (case hr => first | (go_simp; done) | (go_simp; rfl)); intro gb394 hg w9 hbox hb; have n0_ := Aside0.mk (below_step (pB HB.out) hb); have n1_ := Aside0.mk (hbox); have n2_ := Aside0.mk ((by rw [hg]; exact (below_size (pB HB.out)) : w.heap.size ≤ gb394)); have n3_ := Aside0.mk ((by rw [hg]; exact (below_size (pB HB.out)) : w.heap.size ≤ gb394)); clear HB; have HB := n0_; have BK394 := n1_; have GW394 := n2_; have GE394 := n3_; clear n0_ n1_ n2_ n3_; clear hb hbox hg; have hcz10_0 : w9.cell? ⟨gb394, 0, none⟩ = some (.int .i64 0) := (blk_cell BK394.out 0).trans rfl; have hcz10_1 : w9.cell? ⟨gb394, 1, none⟩ = some (.int .i64 0) := (blk_cell BK394.out 1).trans rfl; have hcz10_2 : w9.cell? ⟨gb394, 2, none⟩ = some (.int .i64 0) := (blk_cell BK394.out 2).trans rfl; have hcz10_3 : w9.cell? ⟨gb394, 3, none⟩ = some (.int .i64 0) := (blk_cell BK394.out 3).trans rfl; have hfz10_0 := blk_frozen BK394.out 0; have hfz10_1 := blk_frozen BK394.out 1; have hfz10_2 := blk_frozen BK394.out 2; have hfz10_3 := blk_frozen BK394.out 3))
  go_loopg [13, 14, 28] k (fun kq v13 v14 v28 w' => ∃ (x13_1 : List (S55)) (x14_1 : Bool) (x28_1 : Int), v14 = .bool x14_1 ∧ v28 = .int .i64 x28_1 ∧ Aside0 (impl_BlkPut.l0 kq l0 x13_1 x14_1 l0 (l0.length : Int) x28_1 a1 a2 a3 a4 = some (r1, r2)) ∧ Aside0 (kq ≤ k) ∧ Aside0 (Kd.R k55 55 w' w.heap.size (fun k_ => k_ ≠ gb394) v13 x13_1) ∧ Aside0 (w'.heap[gb394]? = some (.cells #[.int .i64 a1, .int .i64 a2, .int .i64 a3, .int .i64 a4] 55 (0, 0))) ∧ Aside0 (Below w.heap.size w w'))
  case atStart => exact ⟨(([] : List (S55))), (false), (0), (by first | rfl | (simp; done) | (simp [*]; done)), (by first | rfl | (simp; done) | (simp [*]; done)), H', ⟨Nat.le_refl _⟩, ⟨by first | exact Kd.R_nil _ _ _ _ _ | exact Kd.N_nil _ _ _ _ _ | exact Kd.V_nil _ _ _ _ _ | exact Kd.Q_nil _ _ _ _ _ | exact Kd.S_nil _ _ _ _ _⟩, ⟨by (with_reducible repeat (first | refine blk_drewN ?_ _ | refine blk_drew ?_ | refine blk_alloc ?_ _)); refine blk_put (cs := #[.int .i64 a1, .int .i64 a2, .int .i64 a3, .int .i64 0]) ?_ 3 _ rfl; (with_reducible repeat (first | refine blk_drewN ?_ _ | refine blk_drew ?_ | refine blk_alloc ?_ _)); refine blk_put (cs := #[.int .i64 a1, .int .i64 a2, .int .i64 0, .int .i64 0]) ?_ 2 _ rfl; (with_reducible repeat (first | refine blk_drewN ?_ _ | refine blk_drew ?_ | refine blk_alloc ?_ _)); refine blk_put (cs := #[.int .i64 a1, .int .i64 0, .int .i64 0, .int .i64 0]) ?_ 1 _ rfl; (with_reducible repeat (first | refine blk_drewN ?_ _ | refine blk_drew ?_ | refine blk_alloc ?_ _)); refine blk_put (cs := #[.int .i64 0, .int .i64 0, .int .i64 0, .int .i64 0]) ?_ 0 _ rfl; (with_reducible repeat (first | refine blk_drewN ?_ _ | refine blk_drew ?_ | refine blk_alloc ?_ _)); exact BK394.out⟩, ⟨by repeat (first | (with_reducible first | exact HB.out | apply below_alloc | apply pw_below_drewN | apply below_drew1 | refine below_set ?_ GE394.out) | exact HB.out)⟩⟩
  case round =>
   clear H'
   try clear c2
   try clear p2
   try clear c3
   try clear c7
   try clear hcz10_0
   try clear hcz10_1
   try clear hcz10_2
   try clear hcz10_3
   try clear hfz10_0
   try clear hfz10_1
   try clear hfz10_2
   try clear hfz10_3
   obtain ⟨x13_1, x14_1, x28_1, rfl, rfl, HA, HK1, HO_13, BK394, HB⟩ := hrel
   cases gk with
   | zero => exact absurd HA.out (by simp [impl_BlkPut.l0])
   | succ k1 =>
    have H := HA.out
    clear HA
    simp only [impl_BlkPut.l0] at H
    by_cases c11 : x28_1 < (l0.length : Int)
    ·rw [if_pos c11] at H
     have c11b0 : decide (x28_1 < (l0.length : Int)) = true := decide_eq_true c11
     clear c11
     by_cases c12 : 0 ≤ x28_1
     ·rw [if_pos c12] at H
      have c12b0 : decide (0 ≤ x28_1) = true := decide_eq_true c12
      clear c12
      by_cases c13 : x28_1 < (l0.length : Int)
      ·rw [if_pos c13] at H
       have c13b0 : decide (x28_1 < (l0.length : Int)) = true := decide_eq_true c13
       clear c13
       replace H := Option.bind_eq_some_iff.mp H
       obtain ⟨t397, A140, H⟩ := H
       replace H : (if t397 ≤ 0 then (impl_BlkPut.j1 k1 l0 x13_1 x14_1 t397 l0 (l0.length : Int) x28_1 (!x14_1) a1 a2 a3 a4 ((rd_T55 l0 x28_1).f0) ((rd_T55 l0 x28_1).f1) ((rd_T55 l0 x28_1).f2) ((rd_T55 l0 x28_1).f3)) else (impl_BlkPut.j1 k1 l0 x13_1 x14_1 t397 l0 (l0.length : Int) x28_1 false a1 a2 a3 a4 ((rd_T55 l0 x28_1).f0) ((rd_T55 l0 x28_1).f1) ((rd_T55 l0 x28_1).f2) ((rd_T55 l0 x28_1).f3))) = some (r1, r2) := H
       have A14 := Aside0.mk A140
       clear A140
       have HC15 := Aside0.mk H
       clear H
       have p395 : 0 ≤ (x28_1 : Int) := of_decide_eq_true bA
       have q395 : x28_1 < (l0.length : Int) := of_decide_eq_true bA
       obtain ⟨ad395, e395, hx395_0, hx395_1, hx395_2, hx395_3⟩ := at_T55 HR0.out x28_1 p395 q395
       cases e395
       replace hx395_0 := (HB.out.cell (World.block_lt_of_cell? w _ hx395_0)).trans hx395_0
       replace hx395_1 := (HB.out.cell (World.block_lt_of_cell? w _ hx395_1)).trans hx395_1
       replace hx395_2 := (HB.out.cell (World.block_lt_of_cell? w _ hx395_2)).trans hx395_2
       replace hx395_3 := (HB.out.cell (World.block_lt_of_cell? w _ hx395_3)).trans hx395_3
       replace p395 := eq_true p395
       replace q395 := eq_true q395
       go_upto_region 10 with (first | ((with_reducible refine gate_dst (N := 16) rfl ?_); refine box_event ?hg (N := 16) ?hd (cs := #[.int .i64 0, .int .i64 0, .int .i64 0, .int .i64 0]) (t := 55) ?hr ?_; (case hd => rfl); (case hg => rfl); (case hr => first | (go_simp; done) | (go_simp; rfl)); intro gb396 hg w16 hbox hb; have n0_ := Aside0.mk (Kd.R_below (Kd.R_elderB (pR HO_13.out) gb396 (Nat.le_of_eq hg.symm)) hb); have n1_ := Aside0.mk (blk_below (g := gb394) (o := .cells #[.int .i64 a1, .int .i64 a2, .int .i64 a3, .int .i64 a4] 55 (0, 0)) (pK BK394.out) hb); have n2_ := Aside0.mk (below_step (by repeat (first | (with_reducible first | exact HB.out | apply below_alloc | apply pw_below_drewN | apply below_drew1 | refine below_set ?_ GE394.out) | exact HB.out)) hb); have n3_ := Aside0.mk (hbox); have n4_ := Aside0.mk ((by rw [hg]; exact (below_size (by repeat (first | (with_reducible first | exact HB.out | apply below_alloc | apply pw_below_drewN | apply below_drew1 | refine below_set ?_ GE394.out) | exact HB.out))) : w.heap.size ≤ gb396)); have n5_ := Aside0.mk ((by rw [hg]; exact (below_size (by repeat (first | (with_reducible first | exact HB.out | apply below_alloc | apply pw_below_drewN | apply below_drew1 | refine below_set ?_ GE394.out) | exact HB.out))) : w.heap.size ≤ gb396)); have n6_ := Aside0.mk ((by rw [hg]; exact Nat.ne_of_lt (blk_lt (g := gb394) (o := .cells #[.int .i64 a1, .int .i64 a2, .int .i64 a3, .int .i64 a4] 55 (0, 0)) (pK BK394.out)) : gb394 ≠ gb396)); have n7_ := Aside0.mk ((by rw [hg]; exact Nat.ne_of_gt (blk_lt (g := gb394) (o := .cells #[.int .i64 a1, .int .i64 a2, .int .i64 a3, .int .i64 a4] 55 (0, 0)) (pK BK394.out)) : gb396 ≠ gb394)); clear HO_13; clear BK394; clear HB; have HO_13 := n0_; have BK394 := n1_; have HB := n2_; have BK396 := n3_; have GW396 := n4_; have GE396 := n5_; have NB394_396 := n6_; have NB396_394 := n7_; clear n0_ n1_ n2_ n3_ n4_ n5_ n6_ n7_; clear hb hbox hg; have hnb17 := NB396_394.out; have hnc17 := NB394_396.out; have hcz18_0 : w16.cell? ⟨gb396, 0, none⟩ = some (.int .i64 0) := (blk_cell BK396.out 0).trans rfl; have hcz18_1 : w16.cell? ⟨gb396, 1, none⟩ = some (.int .i64 0) := (blk_cell BK396.out 1).trans rfl; have hcz18_2 : w16.cell? ⟨gb396, 2, none⟩ = some (.int .i64 0) := (blk_cell BK396.out 2).trans rfl; have hcz18_3 : w16.cell? ⟨gb396, 3, none⟩ = some (.int .i64 0) := (blk_cell BK396.out 3).trans rfl; have hfz18_0 := blk_frozen BK396.out 0; have hfz18_1 := blk_frozen BK396.out 1; have hfz18_2 := blk_frozen BK396.out 2; have hfz18_3 := blk_frozen BK396.out 3; have hcz19_0 : w16.cell? ⟨gb394, 0, none⟩ = some (.int .i64 a1) := (blk_cell BK394.out 0).trans rfl; have hcz19_1 : w16.cell? ⟨gb394, 1, none⟩ = some (.int .i64 a2) := (blk_cell BK394.out 1).trans rfl; have hcz19_2 : w16.cell? ⟨gb394, 2, none⟩ = some (.int .i64 a3) := (blk_cell BK394.out 2).trans rfl; have hcz19_3 : w16.cell? ⟨gb394, 3, none⟩ = some (.int .i64 a4) := (blk_cell BK394.out 3).trans rfl; have hfz19_0 := blk_frozen BK394.out 0; have hfz19_1 := blk_frozen BK394.out 1; have hfz19_2 := blk_frozen BK394.out 2; have hfz19_3 := blk_frozen BK394.out 3) | ((with_reducible refine gate_callee (f := 50) rfl ?_); refine goesL_ (some 34) rfl rfl Try.func50 (by kernel_rfl) rfl #[.agg #[.int .i64 a1, .int .i64 a2, .int .i64 a3, .int .i64 a4], .agg #[.int .i64 ((rd_T55 l0 x28_1).f0), .int .i64 ((rd_T55 l0 x28_1).f1), .int .i64 ((rd_T55 l0 x28_1).f2), .int .i64 ((rd_T55 l0 x28_1).f3)]] rfl bM ?_; (with_reducible refine (impl_pieceWay.calls k1 a1 a2 a3 a4 ((rd_T55 l0 x28_1).f0) ((rd_T55 l0 x28_1).f1) ((rd_T55 l0 x28_1).f2) ((rd_T55 l0 x28_1).f3) t397 _ A14.out).mono ?_); rintro e w20 ⟨rfl, hb⟩; refine ⟨_, rfl, ?_⟩; have n0_ := Aside0.mk (Kd.R_below (pR (Kd.R_mono (Kd.R_far (p := ⟨gb396, 3, none⟩) (Kd.R_far (p := ⟨gb396, 2, none⟩) (Kd.R_far (p := ⟨gb396, 1, none⟩) (Kd.R_far (p := ⟨gb396, 0, none⟩) (Kd.R_mono HO_13.out (fun k_ hk => (⟨hk, hk.2⟩ : _ ∧ k_ ≠ gb396))) (fun _ hk => hk.2) (.int .i64 ((rd_T55 l0 x28_1).f0))) (fun _ hk => hk.2) (.int .i64 ((rd_T55 l0 x28_1).f1))) (fun _ hk => hk.2) (.int .i64 ((rd_T55 l0 x28_1).f2))) (fun _ hk => hk.2) (.int .i64 ((rd_T55 l0 x28_1).f3))) (fun _ h_ => h_.1))) hb); have n1_ := Aside0.mk (blk_below (g := gb394) (o := .cells #[.int .i64 a1, .int .i64 a2, .int .i64 a3, .int .i64 a4] 55 (0, 0)) (by (with_reducible repeat (first | refine blk_drewN ?_ _ | refine blk_drew ?_ | refine blk_alloc ?_ _)); refine blk_far ?_ NB394_396.out _; (with_reducible repeat (first | refine blk_drewN ?_ _ | refine blk_drew ?_ | refine blk_alloc ?_ _)); refine blk_far ?_ NB394_396.out _; (with_reducible repeat (first | refine blk_drewN ?_ _ | refine blk_drew ?_ | refine blk_alloc ?_ _)); refine blk_far ?_ NB394_396.out _; (with_reducible repeat (first | refine blk_drewN ?_ _ | refine blk_drew ?_ | refine blk_alloc ?_ _)); refine blk_far ?_ NB394_396.out _; (with_reducible repeat (first | refine blk_drewN ?_ _ | refine blk_drew ?_ | refine blk_alloc ?_ _)); exact BK394.out) hb); have n2_ := Aside0.mk (blk_below (g := gb396) (o := .cells #[.int .i64 ((rd_T55 l0 x28_1).f0), .int .i64 ((rd_T55 l0 x28_1).f1), .int .i64 ((rd_T55 l0 x28_1).f2), .int .i64 ((rd_T55 l0 x28_1).f3)] 55 (0, 0)) (by (with_reducible repeat (first | refine blk_drewN ?_ _ | refine blk_drew ?_ | refine blk_alloc ?_ _)); refine blk_put (cs := #[.int .i64 ((rd_T55 l0 x28_1).f0), .int .i64 ((rd_T55 l0 x28_1).f1), .int .i64 ((rd_T55 l0 x28_1).f2), .int .i64 0]) ?_ 3 _ rfl; (with_reducible repeat (first | refine blk_drewN ?_ _ | refine blk_drew ?_ | refine blk_alloc ?_ _)); refine blk_put (cs := #[.int .i64 ((rd_T55 l0 x28_1).f0), .int .i64 ((rd_T55 l0 x28_1).f1), .int .i64 0, .int .i64 0]) ?_ 2 _ rfl; (with_reducible repeat (first | refine blk_drewN ?_ _ | refine blk_drew ?_ | refine blk_alloc ?_ _)); refine blk_put (cs := #[.int .i64 ((rd_T55 l0 x28_1).f0), .int .i64 0, .int .i64 0, .int .i64 0]) ?_ 1 _ rfl; (with_reducible repeat (first | refine blk_drewN ?_ _ | refine blk_drew ?_ | refine blk_alloc ?_ _)); refine blk_put (cs := #[.int .i64 0, .int .i64 0, .int .i64 0, .int .i64 0]) ?_ 0 _ rfl; (with_reducible repeat (first | refine blk_drewN ?_ _ | refine blk_drew ?_ | refine blk_alloc ?_ _)); exact BK396.out) hb); have n3_ := Aside0.mk (below_step (by repeat (first | (with_reducible first | exact HB.out | apply below_alloc | apply pw_below_drewN | apply below_drew1 | refine below_set ?_ GE394.out | refine below_set ?_ GE396.out) | exact HB.out)) hb); clear HO_13; clear BK394; clear BK396; clear HB; have HO_13 := n0_; have BK394 := n1_; have BK396 := n2_; have HB := n3_; clear n0_ n1_ n2_ n3_; (try clear hb); (try clear hb2); (try clear hk); (try clear hi)))
       (try simp only [Act.put, List.setIfInBounds_toArray, List.set_cons_zero, List.set_cons_succ])
       go_cut [40] (fun v40 wc => ∃ (kq : Nat) (x40_14 : Bool), v40 = .bool x40_14 ∧ Aside0 (impl_BlkPut.j1 kq l0 x13_1 x14_1 t397 l0 (l0.length : Int) x28_1 x40_14 a1 a2 a3 a4 ((rd_T55 l0 x28_1).f0) ((rd_T55 l0 x28_1).f1) ((rd_T55 l0 x28_1).f2) ((rd_T55 l0 x28_1).f3) = some (r1, r2)) ∧ Aside0 (kq ≤ k1) ∧ Aside0 (Kd.R k55 55 wc w.heap.size (fun k_ => k_ ≠ gb394 ∧ k_ ≠ gb396) u13 x13_1) ∧ Aside0 (wc.heap[gb394]? = some (.cells #[.int .i64 a1, .int .i64 a2, .int .i64 a3, .int .i64 a4] 55 (0, 0))) ∧ Aside0 (wc.heap[gb396]? = some (.cells #[.int .i64 ((rd_T55 l0 x28_1).f0), .int .i64 ((rd_T55 l0 x28_1).f1), .int .i64 ((rd_T55 l0 x28_1).f2), .int .i64 ((rd_T55 l0 x28_1).f3)] 55 (0, 0))) ∧ Aside0 (Below w.heap.size w wc))
       case first =>
        have H := HC15.out
        clear HC15
        by_cases c21 : t397 ≤ 0
        ·rw [if_pos c21] at H
         have c21b0 : decide (t397 ≤ 0) = true := decide_eq_true c21
         clear c21
         (first | rw [c21b0] | (simp only [i64_w, i32_w]; rw [c21b0]) | skip)
         have H' := Aside0.mk H
         clear H
         go_wp2
         go_meet
         case rel => exact ⟨_, (!x14_1), (by first | rfl | (simp; done) | (simp [*]; done)), H', ⟨by have := HK1.out; first | omega | exact Nat.le_refl _⟩, ⟨pR HO_13.out⟩, ⟨pK BK394.out⟩, ⟨pK BK396.out⟩, ⟨by repeat (first | (with_reducible first | exact HB.out | apply below_alloc | apply pw_below_drewN | apply below_drew1 | refine below_set ?_ GE394.out | refine below_set ?_ GE396.out) | exact HB.out)⟩⟩
        ·rw [if_neg c21] at H
         have c21b0 : decide (t397 ≤ 0) = false := decide_eq_false c21
         clear c21
         (first | rw [c21b0] | (simp only [i64_w, i32_w]; rw [c21b0]) | skip)
         have H' := Aside0.mk H
         clear H
         go_wp2
         go_meet
         case rel => exact ⟨_, (false), (by first | rfl | (simp; done) | (simp [*]; done)), H', ⟨by have := HK1.out; first | omega | exact Nat.le_refl _⟩, ⟨pR HO_13.out⟩, ⟨pK BK394.out⟩, ⟨pK BK396.out⟩, ⟨by repeat (first | (with_reducible first | exact HB.out | apply below_alloc | apply pw_below_drewN | apply below_drew1 | refine below_set ?_ GE394.out | refine below_set ?_ GE396.out) | exact HB.out)⟩⟩
       case rest =>
        clear HC15
        try clear c1
        try clear c2
        try clear p2
        try clear c3
        try clear p3
        try clear q3
        try clear hx3
        try clear c5
        try clear c7
        try clear c11
        try clear c11b0
        try clear c12
        try clear c12b0
        try clear c13
        try clear c13b0
        try clear c17
        try clear c21
        try clear c21b0
        try clear hcz10_0
        try clear hcz10_1
        try clear hcz10_2
        try clear hcz10_3
        try clear hcz18_0
        try clear hcz18_1
        try clear hcz18_2
        try clear hcz18_3
        try clear hcz19_0
        try clear hcz19_1
        try clear hcz19_2
        try clear hcz19_3
        try clear hfz10_0
        try clear hfz10_1
        try clear hfz10_2
        try clear hfz10_3
        try clear hfz18_0
        try clear hfz18_1
        try clear hfz18_2
        try clear hfz18_3
        try clear hfz19_0
        try clear hfz19_1
        try clear hfz19_2
        try clear hfz19_3
        try clear hx395_0
        try clear hx395_1
        try clear hx395_2
        try clear hx395_3
        try clear p2
        try clear p395
        try clear q395
        obtain ⟨kq, x40_14, rfl, HA, HJ14, HO_13, BK394, BK396, HB⟩ := hcut
        cases kq with
        | zero => exact absurd HA.out (by simp [impl_BlkPut.j1])
        | succ kj14 =>
         have H := HA.out
         clear HA
         simp only [impl_BlkPut.j1] at H
         by_cases c22 : x40_14 = true
         ·subst c22
          have H1 : (if x13_1.length < 4398046511104 then ((some (x13_1 ++ [(⟨a1, a2, a3, a4⟩ : S55)] : List (S55))).bind fun y398 => (if t397 = 0 then (impl_BlkPut.l0 kj14 l0 y398 true l0 (l0.length : Int) (wrap64 (x28_1 + 1)) a1 a2 a3 a4) else (if y398.length < 4398046511104 then (impl_BlkPut.l0 kj14 l0 (y398 ++ [(⟨((rd_T55 l0 x28_1).f0), ((rd_T55 l0 x28_1).f1), ((rd_T55 l0 x28_1).f2), ((rd_T55 l0 x28_1).f3)⟩ : S55)]) true l0 (l0.length : Int) (wrap64 (x28_1 + 1)) a1 a2 a3 a4) else (none)))) else (none)) = some (r1, r2) := by rw [if_pos rfl] at H; exact H
          clear H
          have H := H1
          clear H1
          by_cases c23 : x13_1.length < 4398046511104
          ·rw [if_pos c23] at H
           have LMc23 := Aside0.mk c23
           clear c23
           obtain ⟨y398, hy398⟩ : ∃ y_ : List (S55), y_ = (x13_1 ++ [(⟨a1, a2, a3, a4⟩ : S55)]) := ⟨_, rfl⟩
           replace H : (if t397 = 0 then (impl_BlkPut.l0 kj14 l0 y398 true l0 (l0.length : Int) (wrap64 (x28_1 + 1)) a1 a2 a3 a4) else (if y398.length < 4398046511104 then (impl_BlkPut.l0 kj14 l0 (y398 ++ [(⟨((rd_T55 l0 x28_1).f0), ((rd_T55 l0 x28_1).f1), ((rd_T55 l0 x28_1).f2), ((rd_T55 l0 x28_1).f3)⟩ : S55)]) true l0 (l0.length : Int) (wrap64 (x28_1 + 1)) a1 a2 a3 a4) else (none))) = some (r1, r2) := by first | (rw [hy398]; with_reducible exact H) | (have H2_ := (Option.bind_some _ _).symm.trans H; rw [hy398]; with_reducible exact H2_) | (have H2_ := (Option.bind_some _ _).symm.trans H; with_reducible exact H2_) | with_reducible exact H | (rw [hy398]; exact H) | exact H
           have Ny398 := Aside0.mk hy398
           clear hy398
           by_cases c24 : t397 = 0
           ·rw [if_pos c24] at H
            have c24b0 : (t397 == 0) = true := beq_iff_eq.mpr c24
            have c24b1 : (t397 != 0) = false := bne_eq_false_iff_eq.mpr c24
            clear c24
            have H' := Aside0.mk H
            clear H
            have hnb25 := NB394_396.out
            have hnc25 := NB396_394.out
            have hcz26_0 : wc.cell? ⟨gb394, 0, none⟩ = some (.int .i64 a1) := (blk_cell BK394.out 0).trans rfl
            have hcz26_1 : wc.cell? ⟨gb394, 1, none⟩ = some (.int .i64 a2) := (blk_cell BK394.out 1).trans rfl
            have hcz26_2 : wc.cell? ⟨gb394, 2, none⟩ = some (.int .i64 a3) := (blk_cell BK394.out 2).trans rfl
            have hcz26_3 : wc.cell? ⟨gb394, 3, none⟩ = some (.int .i64 a4) := (blk_cell BK394.out 3).trans rfl
            have hfz26_0 := blk_frozen BK394.out 0
            have hfz26_1 := blk_frozen BK394.out 1
            have hfz26_2 := blk_frozen BK394.out 2
            have hfz26_3 := blk_frozen BK394.out 3
            go_wp2_with (first | ((with_reducible refine gate_builtin (b := .append) (xs := #[.tmp 41, .tmp 43]) rfl ?_); at_builtin; refine Kd.R_append k55 (w0 := w) w.heap.size rfl (.tmp 41) (.tmp 43) 32 55 (.agg #[(.int .i64 0), (.int .i64 0), (.int .i64 0), (.int .i64 0)]) 32 rfl Try.underlying32 info55 rfl (by decide) (by omega) u13 x13_1 (⟨a1, a2, a3, a4⟩ : S55) [.int .i64 a1, .int .i64 a2, .int .i64 a3, .int .i64 a4] (fun k_ => k_ ≠ gb394 ∧ k_ ≠ gb396) (fun _ => False) rfl rfl ?aP (fun _ hk => hk.elim) ?aF ?aO ?aB ?aS ?aL ?_; (case aP => exact k55_mkM _ _ _ (⟨a1, a2, a3, a4⟩ : S55)); (case aB => exact (by repeat (first | (with_reducible first | exact HB.out | apply below_alloc | apply pw_below_drewN | apply below_drew1 | refine below_set ?_ GE394.out | refine below_set ?_ GE396.out) | exact HB.out))); (case aF => exact (fun k_ hk => ⟨Kd.freshB (g := gb394) (o := .cells #[.int .i64 a1, .int .i64 a2, .int .i64 a3, .int .i64 a4] 55 (0, 0)) (pK BK394.out) k_ hk, Kd.freshB (g := gb396) (o := .cells #[.int .i64 ((rd_T55 l0 x28_1).f0), .int .i64 ((rd_T55 l0 x28_1).f1), .int .i64 ((rd_T55 l0 x28_1).f2), .int .i64 ((rd_T55 l0 x28_1).f3)] 55 (0, 0)) (pK BK396.out) k_ hk⟩)); (case aO => exact (pR HO_13.out)); (case aS => exact (below_size (by repeat (first | (with_reducible first | exact HB.out | apply below_alloc | apply pw_below_drewN | apply below_drew1 | refine below_set ?_ GE394.out | refine below_set ?_ GE396.out) | exact HB.out)))); (case aL => have := LMc23.out; omega); intro v399 w27 ho hb hg hat; rw [← Ny398.out] at ho; have n0_ := Aside0.mk (blk_grown (g := gb394) (o := .cells #[.int .i64 a1, .int .i64 a2, .int .i64 a3, .int .i64 a4] 55 (0, 0)) (pK BK394.out) hg (Kd.R_away HO_13.out (fun _ hk => hk.1))); have n1_ := Aside0.mk (blk_grown (g := gb396) (o := .cells #[.int .i64 ((rd_T55 l0 x28_1).f0), .int .i64 ((rd_T55 l0 x28_1).f1), .int .i64 ((rd_T55 l0 x28_1).f2), .int .i64 ((rd_T55 l0 x28_1).f3)] 55 (0, 0)) (pK BK396.out) hg (Kd.R_away HO_13.out (fun _ hk => hk.2))); have n2_ := Aside0.mk (hb); have n3_ := Aside0.mk (ho); clear BK394; clear BK396; clear HB; clear HO_13; have BK394 := n0_; have BK396 := n1_; have HB := n2_; have HO400 := n3_; clear n0_ n1_ n2_ n3_; clear ho hb hg hat))
            go_roundg kj14
            case measure => have := HK1.out; have := HJ14.out; omega
            case rel => exact ⟨(y398), (true), (wrap64 (x28_1 + 1)), (by first | rfl | (simp; done) | (simp [*]; done)), (by first | rfl | (simp; done) | (simp [*]; done)), H', ⟨by have := HK1.out; have := HJ14.out; omega⟩, ⟨pR (Kd.R_mono HO400.out (fun _ hk => hk.1))⟩, ⟨pK BK394.out⟩, ⟨by repeat (first | (with_reducible first | exact HB.out | apply below_alloc | apply pw_below_drewN | apply below_drew1 | refine below_set ?_ GE394.out | refine below_set ?_ GE396.out) | exact HB.out)⟩⟩
           ·rw [if_neg c24] at H
            have c24b0 : (t397 == 0) = false := beq_eq_false_iff_ne.mpr c24
            have c24b1 : (t397 != 0) = true := bne_iff_ne.mpr c24
            by_cases c28 : y398.length < 4398046511104
            ·rw [if_pos c28] at H
             have LMc28 := Aside0.mk c28
             clear c28
             obtain ⟨y401, hy401⟩ : ∃ y_ : List (S55), y_ = (y398 ++ [(⟨((rd_T55 l0 x28_1).f0), ((rd_T55 l0 x28_1).f1), ((rd_T55 l0 x28_1).f2), ((rd_T55 l0 x28_1).f3)⟩ : S55)]) := ⟨_, rfl⟩
             replace H : (impl_BlkPut.l0 kj14 l0 y401 true l0 (l0.length : Int) (wrap64 (x28_1 + 1)) a1 a2 a3 a4) = some (r1, r2) := by first | (rw [hy401]; with_reducible exact H) | (have H2_ := (Option.bind_some _ _).symm.trans H; rw [hy401]; with_reducible exact H2_) | (have H2_ := (Option.bind_some _ _).symm.trans H; with_reducible exact H2_) | with_reducible exact H | (rw [hy401]; exact H) | exact H
             have Ny401 := Aside0.mk hy401
             clear hy401
             have H' := Aside0.mk H
             clear H
             have hnb29 := NB394_396.out
             have hnc29 := NB396_394.out
             have hcz30_0 : wc.cell? ⟨gb394, 0, none⟩ = some (.int .i64 a1) := (blk_cell BK394.out 0).trans rfl
             have hcz30_1 : wc.cell? ⟨gb394, 1, none⟩ = some (.int .i64 a2) := (blk_cell BK394.out 1).trans rfl
             have hcz30_2 : wc.cell? ⟨gb394, 2, none⟩ = some (.int .i64 a3) := (blk_cell BK394.out 2).trans rfl
             have hcz30_3 : wc.cell? ⟨gb394, 3, none⟩ = some (.int .i64 a4) := (blk_cell BK394.out 3).trans rfl
             have hfz30_0 := blk_frozen BK394.out 0
             have hfz30_1 := blk_frozen BK394.out 1
             have hfz30_2 := blk_frozen BK394.out 2
             have hfz30_3 := blk_frozen BK394.out 3
             go_wp2_with (first | ((with_reducible refine gate_builtin (b := .append) (xs := #[.tmp 41, .tmp 43]) rfl ?_); at_builtin; refine Kd.R_append k55 (w0 := w) w.heap.size rfl (.tmp 41) (.tmp 43) 32 55 (.agg #[(.int .i64 0), (.int .i64 0), (.int .i64 0), (.int .i64 0)]) 32 rfl Try.underlying32 info55 rfl (by decide) (by omega) u13 x13_1 (⟨a1, a2, a3, a4⟩ : S55) [.int .i64 a1, .int .i64 a2, .int .i64 a3, .int .i64 a4] (fun k_ => k_ ≠ gb394 ∧ k_ ≠ gb396) (fun _ => False) rfl rfl ?aP (fun _ hk => hk.elim) ?aF ?aO ?aB ?aS ?aL ?_; (case aP => exact k55_mkM _ _ _ (⟨a1, a2, a3, a4⟩ : S55)); (case aB => exact (by repeat (first | (with_reducible first | exact HB.out | apply below_alloc | apply pw_below_drewN | apply below_drew1 | refine below_set ?_ GE394.out | refine below_set ?_ GE396.out) | exact HB.out))); (case aF => exact (fun k_ hk => ⟨Kd.freshB (g := gb394) (o := .cells #[.int .i64 a1, .int .i64 a2, .int .i64 a3, .int .i64 a4] 55 (0, 0)) (pK BK394.out) k_ hk, Kd.freshB (g := gb396) (o := .cells #[.int .i64 ((rd_T55 l0 x28_1).f0), .int .i64 ((rd_T55 l0 x28_1).f1), .int .i64 ((rd_T55 l0 x28_1).f2), .int .i64 ((rd_T55 l0 x28_1).f3)] 55 (0, 0)) (pK BK396.out) k_ hk⟩)); (case aO => exact (pR HO_13.out)); (case aS => exact (below_size (by repeat (first | (with_reducible first | exact HB.out | apply below_alloc | apply pw_below_drewN | apply below_drew1 | refine below_set ?_ GE394.out | refine below_set ?_ GE396.out) | exact HB.out)))); (case aL => have := LMc23.out; omega); intro v399 w31 ho hb hg hat; rw [← Ny398.out] at ho; have n0_ := Aside0.mk (blk_grown (g := gb394) (o := .cells #[.int .i64 a1, .int .i64 a2, .int .i64 a3, .int .i64 a4] 55 (0, 0)) (pK BK394.out) hg (Kd.R_away HO_13.out (fun _ hk => hk.1))); have n1_ := Aside0.mk (blk_grown (g := gb396) (o := .cells #[.int .i64 ((rd_T55 l0 x28_1).f0), .int .i64 ((rd_T55 l0 x28_1).f1), .int .i64 ((rd_T55 l0 x28_1).f2), .int .i64 ((rd_T55 l0 x28_1).f3)] 55 (0, 0)) (pK BK396.out) hg (Kd.R_away HO_13.out (fun _ hk => hk.2))); have n2_ := Aside0.mk (hb); have n3_ := Aside0.mk (ho); clear BK394; clear BK396; clear HB; clear HO_13; have BK394 := n0_; have BK396 := n1_; have HB := n2_; have HO400 := n3_; clear n0_ n1_ n2_ n3_; clear ho hb hg hat; have hcz32_0 : w31.cell? ⟨gb396, 0, none⟩ = some (.int .i64 ((rd_T55 l0 x28_1).f0)) := (blk_cell BK396.out 0).trans rfl; have hcz32_1 : w31.cell? ⟨gb396, 1, none⟩ = some (.int .i64 ((rd_T55 l0 x28_1).f1)) := (blk_cell BK396.out 1).trans rfl; have hcz32_2 : w31.cell? ⟨gb396, 2, none⟩ = some (.int .i64 ((rd_T55 l0 x28_1).f2)) := (blk_cell BK396.out 2).trans rfl; have hcz32_3 : w31.cell? ⟨gb396, 3, none⟩ = some (.int .i64 ((rd_T55 l0 x28_1).f3)) := (blk_cell BK396.out 3).trans rfl; have hfz32_0 := blk_frozen BK396.out 0; have hfz32_1 := blk_frozen BK396.out 1; have hfz32_2 := blk_frozen BK396.out 2; have hfz32_3 := blk_frozen BK396.out 3) | ((with_reducible refine gate_builtin (b := .append) (xs := #[.tmp 47, .tmp 49]) rfl ?_); at_builtin; refine Kd.R_append k55 (w0 := w) w.heap.size rfl (.tmp 47) (.tmp 49) 32 55 (.agg #[(.int .i64 0), (.int .i64 0), (.int .i64 0), (.int .i64 0)]) 32 rfl Try.underlying32 info55 rfl (by decide) (by omega) v399 y398 (⟨((rd_T55 l0 x28_1).f0), ((rd_T55 l0 x28_1).f1), ((rd_T55 l0 x28_1).f2), ((rd_T55 l0 x28_1).f3)⟩ : S55) [.int .i64 ((rd_T55 l0 x28_1).f0), .int .i64 ((rd_T55 l0 x28_1).f1), .int .i64 ((rd_T55 l0 x28_1).f2), .int .i64 ((rd_T55 l0 x28_1).f3)] (fun k_ => k_ ≠ gb394 ∧ k_ ≠ gb396) (fun _ => False) rfl rfl ?aP (fun _ hk => hk.elim) ?aF ?aO ?aB ?aS ?aL ?_; (case aP => exact k55_mkM _ _ _ (⟨((rd_T55 l0 x28_1).f0), ((rd_T55 l0 x28_1).f1), ((rd_T55 l0 x28_1).f2), ((rd_T55 l0 x28_1).f3)⟩ : S55)); (case aB => exact (by repeat (first | (with_reducible first | exact HB.out | apply below_alloc | apply pw_below_drewN | apply below_drew1 | refine below_set ?_ GE394.out | refine below_set ?_ GE396.out) | exact HB.out))); (case aF => exact (fun k_ hk => ⟨Kd.freshB (g := gb394) (o := .cells #[.int .i64 a1, .int .i64 a2, .int .i64 a3, .int .i64 a4] 55 (0, 0)) (pK BK394.out) k_ hk, Kd.freshB (g := gb396) (o := .cells #[.int .i64 ((rd_T55 l0 x28_1).f0), .int .i64 ((rd_T55 l0 x28_1).f1), .int .i64 ((rd_T55 l0 x28_1).f2), .int .i64 ((rd_T55 l0 x28_1).f3)] 55 (0, 0)) (pK BK396.out) k_ hk⟩)); (case aO => exact (pR HO400.out)); (case aS => exact (below_size (by repeat (first | (with_reducible first | exact HB.out | apply below_alloc | apply pw_below_drewN | apply below_drew1 | refine below_set ?_ GE394.out | refine below_set ?_ GE396.out) | exact HB.out)))); (case aL => have := LMc28.out; omega); intro v402 w33 ho hb hg hat; rw [← Ny401.out] at ho; have n0_ := Aside0.mk (blk_grown (g := gb394) (o := .cells #[.int .i64 a1, .int .i64 a2, .int .i64 a3, .int .i64 a4] 55 (0, 0)) (pK BK394.out) hg (Kd.R_away HO400.out (fun _ hk => hk.1))); have n1_ := Aside0.mk (blk_grown (g := gb396) (o := .cells #[.int .i64 ((rd_T55 l0 x28_1).f0), .int .i64 ((rd_T55 l0 x28_1).f1), .int .i64 ((rd_T55 l0 x28_1).f2), .int .i64 ((rd_T55 l0 x28_1).f3)] 55 (0, 0)) (pK BK396.out) hg (Kd.R_away HO400.out (fun _ hk => hk.2))); have n2_ := Aside0.mk (hb); have n3_ := Aside0.mk (ho); clear BK394; clear BK396; clear HB; clear HO400; have BK394 := n0_; have BK396 := n1_; have HB := n2_; have HO403 := n3_; clear n0_ n1_ n2_ n3_; clear ho hb hg hat))
             go_roundg kj14
             case measure => have := HK1.out; have := HJ14.out; omega
             case rel => exact ⟨(y401), (true), (wrap64 (x28_1 + 1)), (by first | rfl | (simp; done) | (simp [*]; done)), (by first | rfl | (simp; done) | (simp [*]; done)), H', ⟨by have := HK1.out; have := HJ14.out; omega⟩, ⟨pR (Kd.R_mono HO403.out (fun _ hk => hk.1))⟩, ⟨pK BK394.out⟩, ⟨by repeat (first | (with_reducible first | exact HB.out | apply below_alloc | apply pw_below_drewN | apply below_drew1 | refine below_set ?_ GE394.out | refine below_set ?_ GE396.out) | exact HB.out)⟩⟩
            ·rw [if_neg c28] at H
             exact absurd H (by simp)
          ·rw [if_neg c23] at H
           exact absurd H (by simp)
         ·replace c22 := Bool.eq_false_iff.mpr c22
          subst c22
          have H1 : (if t397 = 0 then (impl_BlkPut.l0 kj14 l0 x13_1 x14_1 l0 (l0.length : Int) (wrap64 (x28_1 + 1)) a1 a2 a3 a4) else (if x13_1.length < 4398046511104 then (impl_BlkPut.l0 kj14 l0 (x13_1 ++ [(⟨((rd_T55 l0 x28_1).f0), ((rd_T55 l0 x28_1).f1), ((rd_T55 l0 x28_1).f2), ((rd_T55 l0 x28_1).f3)⟩ : S55)]) x14_1 l0 (l0.length : Int) (wrap64 (x28_1 + 1)) a1 a2 a3 a4) else (none))) = some (r1, r2) := by rw [if_neg (show ¬ (false = true) by decide)] at H; exact H
          clear H
          have H := H1
          clear H1
          by_cases c34 : t397 = 0
          ·rw [if_pos c34] at H
           have c34b0 : (t397 == 0) = true := beq_iff_eq.mpr c34
           have c34b1 : (t397 != 0) = false := bne_eq_false_iff_eq.mpr c34
           clear c34
           have H' := Aside0.mk H
           clear H
           go_wp2
           go_roundg kj14
           case measure => have := HK1.out; have := HJ14.out; omega
           case rel => exact ⟨(x13_1), (x14_1), (wrap64 (x28_1 + 1)), (by first | rfl | (simp; done) | (simp [*]; done)), (by first | rfl | (simp; done) | (simp [*]; done)), H', ⟨by have := HK1.out; have := HJ14.out; omega⟩, ⟨pR (Kd.R_mono HO_13.out (fun _ hk => hk.1))⟩, ⟨pK BK394.out⟩, ⟨by repeat (first | (with_reducible first | exact HB.out | apply below_alloc | apply pw_below_drewN | apply below_drew1 | refine below_set ?_ GE394.out | refine below_set ?_ GE396.out) | exact HB.out)⟩⟩
          ·rw [if_neg c34] at H
           have c34b0 : (t397 == 0) = false := beq_eq_false_iff_ne.mpr c34
           have c34b1 : (t397 != 0) = true := bne_iff_ne.mpr c34
           by_cases c35 : x13_1.length < 4398046511104
           ·rw [if_pos c35] at H
            have LMc35 := Aside0.mk c35
            clear c35
            obtain ⟨y404, hy404⟩ : ∃ y_ : List (S55), y_ = (x13_1 ++ [(⟨((rd_T55 l0 x28_1).f0), ((rd_T55 l0 x28_1).f1), ((rd_T55 l0 x28_1).f2), ((rd_T55 l0 x28_1).f3)⟩ : S55)]) := ⟨_, rfl⟩
            replace H : (impl_BlkPut.l0 kj14 l0 y404 x14_1 l0 (l0.length : Int) (wrap64 (x28_1 + 1)) a1 a2 a3 a4) = some (r1, r2) := by first | (rw [hy404]; with_reducible exact H) | (have H2_ := (Option.bind_some _ _).symm.trans H; rw [hy404]; with_reducible exact H2_) | (have H2_ := (Option.bind_some _ _).symm.trans H; with_reducible exact H2_) | with_reducible exact H | (rw [hy404]; exact H) | exact H
            have Ny404 := Aside0.mk hy404
            clear hy404
            have H' := Aside0.mk H
            clear H
            have hnb36 := NB396_394.out
            have hnc36 := NB394_396.out
            have hcz37_0 : wc.cell? ⟨gb396, 0, none⟩ = some (.int .i64 ((rd_T55 l0 x28_1).f0)) := (blk_cell BK396.out 0).trans rfl
            have hcz37_1 : wc.cell? ⟨gb396, 1, none⟩ = some (.int .i64 ((rd_T55 l0 x28_1).f1)) := (blk_cell BK396.out 1).trans rfl
            have hcz37_2 : wc.cell? ⟨gb396, 2, none⟩ = some (.int .i64 ((rd_T55 l0 x28_1).f2)) := (blk_cell BK396.out 2).trans rfl
            have hcz37_3 : wc.cell? ⟨gb396, 3, none⟩ = some (.int .i64 ((rd_T55 l0 x28_1).f3)) := (blk_cell BK396.out 3).trans rfl
            have hfz37_0 := blk_frozen BK396.out 0
            have hfz37_1 := blk_frozen BK396.out 1
            have hfz37_2 := blk_frozen BK396.out 2
            have hfz37_3 := blk_frozen BK396.out 3
            go_wp2_with (first | ((with_reducible refine gate_builtin (b := .append) (xs := #[.tmp 47, .tmp 49]) rfl ?_); at_builtin; refine Kd.R_append k55 (w0 := w) w.heap.size rfl (.tmp 47) (.tmp 49) 32 55 (.agg #[(.int .i64 0), (.int .i64 0), (.int .i64 0), (.int .i64 0)]) 32 rfl Try.underlying32 info55 rfl (by decide) (by omega) u13 x13_1 (⟨((rd_T55 l0 x28_1).f0), ((rd_T55 l0 x28_1).f1), ((rd_T55 l0 x28_1).f2), ((rd_T55 l0 x28_1).f3)⟩ : S55) [.int .i64 ((rd_T55 l0 x28_1).f0), .int .i64 ((rd_T55 l0 x28_1).f1), .int .i64 ((rd_T55 l0 x28_1).f2), .int .i64 ((rd_T55 l0 x28_1).f3)] (fun k_ => k_ ≠ gb394 ∧ k_ ≠ gb396) (fun _ => False) rfl rfl ?aP (fun _ hk => hk.elim) ?aF ?aO ?aB ?aS ?aL ?_; (case aP => exact k55_mkM _ _ _ (⟨((rd_T55 l0 x28_1).f0), ((rd_T55 l0 x28_1).f1), ((rd_T55 l0 x28_1).f2), ((rd_T55 l0 x28_1).f3)⟩ : S55)); (case aB => exact (by repeat (first | (with_reducible first | exact HB.out | apply below_alloc | apply pw_below_drewN | apply below_drew1 | refine below_set ?_ GE394.out | refine below_set ?_ GE396.out) | exact HB.out))); (case aF => exact (fun k_ hk => ⟨Kd.freshB (g := gb394) (o := .cells #[.int .i64 a1, .int .i64 a2, .int .i64 a3, .int .i64 a4] 55 (0, 0)) (pK BK394.out) k_ hk, Kd.freshB (g := gb396) (o := .cells #[.int .i64 ((rd_T55 l0 x28_1).f0), .int .i64 ((rd_T55 l0 x28_1).f1), .int .i64 ((rd_T55 l0 x28_1).f2), .int .i64 ((rd_T55 l0 x28_1).f3)] 55 (0, 0)) (pK BK396.out) k_ hk⟩)); (case aO => exact (pR HO_13.out)); (case aS => exact (below_size (by repeat (first | (with_reducible first | exact HB.out | apply below_alloc | apply pw_below_drewN | apply below_drew1 | refine below_set ?_ GE394.out | refine below_set ?_ GE396.out) | exact HB.out)))); (case aL => have := LMc35.out; omega); intro v405 w38 ho hb hg hat; rw [← Ny404.out] at ho; have n0_ := Aside0.mk (blk_grown (g := gb394) (o := .cells #[.int .i64 a1, .int .i64 a2, .int .i64 a3, .int .i64 a4] 55 (0, 0)) (pK BK394.out) hg (Kd.R_away HO_13.out (fun _ hk => hk.1))); have n1_ := Aside0.mk (blk_grown (g := gb396) (o := .cells #[.int .i64 ((rd_T55 l0 x28_1).f0), .int .i64 ((rd_T55 l0 x28_1).f1), .int .i64 ((rd_T55 l0 x28_1).f2), .int .i64 ((rd_T55 l0 x28_1).f3)] 55 (0, 0)) (pK BK396.out) hg (Kd.R_away HO_13.out (fun _ hk => hk.2))); have n2_ := Aside0.mk (hb); have n3_ := Aside0.mk (ho); clear BK394; clear BK396; clear HB; clear HO_13; have BK394 := n0_; have BK396 := n1_; have HB := n2_; have HO406 := n3_; clear n0_ n1_ n2_ n3_; clear ho hb hg hat))
            go_roundg kj14
            case measure => have := HK1.out; have := HJ14.out; omega
            case rel => exact ⟨(y404), (x14_1), (wrap64 (x28_1 + 1)), (by first | rfl | (simp; done) | (simp [*]; done)), (by first | rfl | (simp; done) | (simp [*]; done)), H', ⟨by have := HK1.out; have := HJ14.out; omega⟩, ⟨pR (Kd.R_mono HO406.out (fun _ hk => hk.1))⟩, ⟨pK BK394.out⟩, ⟨by repeat (first | (with_reducible first | exact HB.out | apply below_alloc | apply pw_below_drewN | apply below_drew1 | refine below_set ?_ GE394.out | refine below_set ?_ GE396.out) | exact HB.out)⟩⟩
           ·rw [if_neg c35] at H
            exact absurd H (by simp)
      ·rw [if_neg c13] at H
       exact absurd H (by simp)
     ·rw [if_neg c12] at H
      exact absurd H (by simp)
    ·rw [if_neg c11] at H
     have c11b0 : decide (x28_1 < (l0.length : Int)) = false := decide_eq_false c11
     clear c11
     have HC39 := Aside0.mk H
     clear H
     go_upto_if 53 with (fail)
     go_cut [13] (fun v13 wc => ∃ (kq : Nat) (x13_38 : List (S55)), Aside0 (impl_BlkPut.j2 kq l0 x13_38 = some (r1, r2)) ∧ Aside0 (kq ≤ k1) ∧ Aside0 (Kd.R k55 55 wc w.heap.size (fun k_ => k_ ≠ gb394) v13 x13_38) ∧ Aside0 (wc.heap[gb394]? = some (.cells #[.int .i64 a1, .int .i64 a2, .int .i64 a3, .int .i64 a4] 55 (0, 0))) ∧ Aside0 (Below w.heap.size w wc))
     case first =>
      have H := HC39.out
      clear HC39
      by_cases c40 : x14_1 = true
      ·subst c40
       have H1 : (impl_BlkPut.j2 k1 l0 x13_1) = some (r1, r2) := by rw [if_pos rfl] at H; exact H
       clear H
       have H := H1
       clear H1
       have H' := Aside0.mk H
       clear H
       go_wp2
       go_meet
       case rel => exact ⟨_, (x13_1), H', ⟨by have := HK1.out; first | omega | exact Nat.le_refl _⟩, ⟨pR HO_13.out⟩, ⟨pK BK394.out⟩, ⟨by repeat (first | (with_reducible first | exact HB.out | apply below_alloc | apply pw_below_drewN | apply below_drew1 | refine below_set ?_ GE394.out) | exact HB.out)⟩⟩
      ·replace c40 := Bool.eq_false_iff.mpr c40
       subst c40
       have H1 : (if x13_1.length < 4398046511104 then (impl_BlkPut.j2 k1 l0 (x13_1 ++ [(⟨a1, a2, a3, a4⟩ : S55)])) else (none)) = some (r1, r2) := by rw [if_neg (show ¬ (false = true) by decide)] at H; exact H
       clear H
       have H := H1
       clear H1
       by_cases c41 : x13_1.length < 4398046511104
       ·rw [if_pos c41] at H
        have LMc41 := Aside0.mk c41
        clear c41
        obtain ⟨y407, hy407⟩ : ∃ y_ : List (S55), y_ = (x13_1 ++ [(⟨a1, a2, a3, a4⟩ : S55)]) := ⟨_, rfl⟩
        replace H : (impl_BlkPut.j2 k1 l0 y407) = some (r1, r2) := by first | (rw [hy407]; with_reducible exact H) | (have H2_ := (Option.bind_some _ _).symm.trans H; rw [hy407]; with_reducible exact H2_) | (have H2_ := (Option.bind_some _ _).symm.trans H; with_reducible exact H2_) | with_reducible exact H | (rw [hy407]; exact H) | exact H
        have Ny407 := Aside0.mk hy407
        clear hy407
        have H' := Aside0.mk H
        clear H
        have hcz42_0 : wr.cell? ⟨gb394, 0, none⟩ = some (.int .i64 a1) := (blk_cell BK394.out 0).trans rfl
        have hcz42_1 : wr.cell? ⟨gb394, 1, none⟩ = some (.int .i64 a2) := (blk_cell BK394.out 1).trans rfl
        have hcz42_2 : wr.cell? ⟨gb394, 2, none⟩ = some (.int .i64 a3) := (blk_cell BK394.out 2).trans rfl
        have hcz42_3 : wr.cell? ⟨gb394, 3, none⟩ = some (.int .i64 a4) := (blk_cell BK394.out 3).trans rfl
        have hfz42_0 := blk_frozen BK394.out 0
        have hfz42_1 := blk_frozen BK394.out 1
        have hfz42_2 := blk_frozen BK394.out 2
        have hfz42_3 := blk_frozen BK394.out 3
        go_wp2_with (first | ((with_reducible refine gate_builtin (b := .append) (xs := #[.tmp 54, .tmp 56]) rfl ?_); at_builtin; refine Kd.R_append k55 (w0 := w) w.heap.size rfl (.tmp 54) (.tmp 56) 32 55 (.agg #[(.int .i64 0), (.int .i64 0), (.int .i64 0), (.int .i64 0)]) 32 rfl Try.underlying32 info55 rfl (by decide) (by omega) u13 x13_1 (⟨a1, a2, a3, a4⟩ : S55) [.int .i64 a1, .int .i64 a2, .int .i64 a3, .int .i64 a4] (fun k_ => k_ ≠ gb394) (fun _ => False) rfl rfl ?aP (fun _ hk => hk.elim) ?aF ?aO ?aB ?aS ?aL ?_; (case aP => exact k55_mkM _ _ _ (⟨a1, a2, a3, a4⟩ : S55)); (case aB => exact (by repeat (first | (with_reducible first | exact HB.out | apply below_alloc | apply pw_below_drewN | apply below_drew1 | refine below_set ?_ GE394.out) | exact HB.out))); (case aF => exact (fun k_ hk => Kd.freshB (g := gb394) (o := .cells #[.int .i64 a1, .int .i64 a2, .int .i64 a3, .int .i64 a4] 55 (0, 0)) (pK BK394.out) k_ hk)); (case aO => exact (pR HO_13.out)); (case aS => exact (below_size (by repeat (first | (with_reducible first | exact HB.out | apply below_alloc | apply pw_below_drewN | apply below_drew1 | refine below_set ?_ GE394.out) | exact HB.out)))); (case aL => have := LMc41.out; omega); intro v408 w43 ho hb hg hat; rw [← Ny407.out] at ho; have n0_ := Aside0.mk (blk_grown (g := gb394) (o := .cells #[.int .i64 a1, .int .i64 a2, .int .i64 a3, .int .i64 a4] 55 (0, 0)) (pK BK394.out) hg (Kd.R_away HO_13.out (fun _ hk => hk))); have n1_ := Aside0.mk (hb); have n2_ := Aside0.mk (ho); clear BK394; clear HB; clear HO_13; have BK394 := n0_; have HB := n1_; have HO409 := n2_; clear n0_ n1_ n2_; clear ho hb hg hat))
        go_meet
        case rel => exact ⟨_, (y407), H', ⟨by have := HK1.out; first | omega | exact Nat.le_refl _⟩, ⟨pR HO409.out⟩, ⟨pK BK394.out⟩, ⟨by repeat (first | (with_reducible first | exact HB.out | apply below_alloc | apply pw_below_drewN | apply below_drew1 | refine below_set ?_ GE394.out) | exact HB.out)⟩⟩
       ·rw [if_neg c41] at H
        exact absurd H (by simp)
     case rest =>
      clear HC39
      try clear c1
      try clear c2
      try clear p2
      try clear c3
      try clear p3
      try clear q3
      try clear hx3
      try clear c4
      try clear c5
      try clear p6
      try clear c7
      try clear c11
      try clear c11b0
      try clear c12
      try clear c12b0
      try clear c13
      try clear c13b0
      try clear c17
      try clear c21
      try clear c21b0
      try clear c22
      try clear c23
      try clear c24
      try clear c24b0
      try clear c24b1
      try clear c25
      try clear c28
      try clear c29
      try clear c34
      try clear c34b0
      try clear c34b1
      try clear c35
      try clear c36
      try clear c39
      try clear p39
      try clear q39
      try clear hx39
      try clear c40
      try clear c41
      try clear hcz10_0
      try clear hcz10_1
      try clear hcz10_2
      try clear hcz10_3
      try clear hcz18_0
      try clear hcz18_1
      try clear hcz18_2
      try clear hcz18_3
      try clear hcz19_0
      try clear hcz19_1
      try clear hcz19_2
      try clear hcz19_3
      try clear hcz26_0
      try clear hcz26_1
      try clear hcz26_2
      try clear hcz26_3
      try clear hcz30_0
      try clear hcz30_1
      try clear hcz30_2
      try clear hcz30_3
      try clear hcz32_0
      try clear hcz32_1
      try clear hcz32_2
      try clear hcz32_3
      try clear hcz37_0
      try clear hcz37_1
      try clear hcz37_2
      try clear hcz37_3
      try clear hcz42_0
      try clear hcz42_1
      try clear hcz42_2
      try clear hcz42_3
      try clear hfz10_0
      try clear hfz10_1
      try clear hfz10_2
      try clear hfz10_3
      try clear hfz18_0
      try clear hfz18_1
      try clear hfz18_2
      try clear hfz18_3
      try clear hfz19_0
      try clear hfz19_1
      try clear hfz19_2
      try clear hfz19_3
      try clear hfz26_0
      try clear hfz26_1
      try clear hfz26_2
      try clear hfz26_3
      try clear hfz30_0
      try clear hfz30_1
      try clear hfz30_2
      try clear hfz30_3
      try clear hfz32_0
      try clear hfz32_1
      try clear hfz32_2
      try clear hfz32_3
      try clear hfz37_0
      try clear hfz37_1
      try clear hfz37_2
      try clear hfz37_3
      try clear hfz42_0
      try clear hfz42_1
      try clear hfz42_2
      try clear hfz42_3
      try clear hx395_0
      try clear hx395_1
      try clear hx395_2
      try clear hx395_3
      try clear p2
      try clear p3
      try clear p395
      try clear q3
      try clear q395
      obtain ⟨kq, x13_38, HA, HJ38, HO_13, BK394, HB⟩ := hcut
      cases kq with
      | zero => exact absurd HA.out (by simp [impl_BlkPut.j2])
      | succ kj38 =>
       have H := HA.out
       clear HA
       simp only [impl_BlkPut.j2] at H
       replace H := Option.bind_eq_some_iff.mp H
       obtain ⟨t410, A440, H⟩ := H
       replace H : (if t410 = true then ((impl_copied_BlkPiece.f x13_38).bind fun t411 => (some (t411, true))) else ((impl_copied_BlkPiece.f l0).bind fun t414 => (some (t414, false)))) = some (r1, r2) := H
       have A44 := Aside0.mk A440
       clear A440
       by_cases c45 : t410 = true
       ·subst c45
        have H1 : ((impl_copied_BlkPiece.f x13_38).bind fun t411 => (some (t411, true))) = some (r1, r2) := by rw [if_pos rfl] at H; exact H
        clear H
        have H := H1
        clear H1
        replace H := Option.bind_eq_some_iff.mp H
        obtain ⟨t411, A460, H⟩ := H
        replace H : (some (t411, true)) = some (r1, r2) := H
        have A46 := Aside0.mk A460
        clear A460
        simp only [Option.some.injEq, Prod.mk.injEq] at H
        obtain ⟨rfl, rfl⟩ := H
        obtain ⟨Ao47, co47, eo47⟩ := Kd.R_slice HO_13.out
        subst eo47
        go_wp2_with (first | ((with_reducible refine gate_callee (f := 23) rfl ?_); refine goesL_ (some 59) rfl rfl Try.func23 (by kernel_rfl) rfl #[.slice Ao47 x13_38.length co47] rfl bM ?_; (with_reducible refine (impl_BlkOk.calls kj38 _ _ x13_38 true _ ?side1 ?side2 A44.out).mono ?_); (case side1 => exact pC (Kd.R_reads' HO_13.out).2.2); (case side2 => exact (Kd.R_reads' HO_13.out).2.1); rintro e w48 ⟨rfl, hb⟩; refine ⟨_, rfl, ?_⟩; have n0_ := Aside0.mk (Kd.R_below (pR HO_13.out) hb); have n1_ := Aside0.mk (blk_below (g := gb394) (o := .cells #[.int .i64 a1, .int .i64 a2, .int .i64 a3, .int .i64 a4] 55 (0, 0)) (pK BK394.out) hb); have n2_ := Aside0.mk (below_step (by repeat (first | (with_reducible first | exact HB.out | apply below_alloc | apply pw_below_drewN | apply below_drew1 | refine below_set ?_ GE394.out) | exact HB.out)) hb); clear HO_13; clear BK394; clear HB; have HO_13 := n0_; have BK394 := n1_; have HB := n2_; clear n0_ n1_ n2_; (try clear hb); (try clear hb2); (try clear hk); (try clear hi)) | ((with_reducible refine gate_callee (f := 56) rfl ?_); refine goesL_ (some 64) rfl rfl Try.func56 (by kernel_rfl) rfl #[.slice Ao47 x13_38.length co47] rfl bM ?_; (with_reducible refine (impl_copied_BlkPiece.calls _ _ x13_38 t411 _ ?side1 ?side2 A46.out).mono ?_); (case side1 => exact pC (Kd.R_reads' HO_13.out).2.2); (case side2 => exact (Kd.R_reads' HO_13.out).2.1); rintro e w49 ⟨v412, rfl, ho0, hb⟩; refine ⟨_, rfl, ?_⟩; have n0_ := Aside0.mk (Kd.R_elder' (pR HO_13.out) (Kd.R_base ho0) hb); have n1_ := Aside0.mk (Kd.R_lower (Kd.R_newB (Kd.R_new' ho0 (Kd.R_lt (pR HO_13.out))) (g := gb394) (o := .cells #[.int .i64 a1, .int .i64 a2, .int .i64 a3, .int .i64 a4] 55 (0, 0)) (pK BK394.out)) (below_size (by repeat (first | (with_reducible first | exact HB.out | apply below_alloc | apply pw_below_drewN | apply below_drew1 | refine below_set ?_ GE394.out) | exact HB.out)))); have n2_ := Aside0.mk (blk_below (g := gb394) (o := .cells #[.int .i64 a1, .int .i64 a2, .int .i64 a3, .int .i64 a4] 55 (0, 0)) (pK BK394.out) hb); have n3_ := Aside0.mk (below_step (by repeat (first | (with_reducible first | exact HB.out | apply below_alloc | apply pw_below_drewN | apply below_drew1 | refine below_set ?_ GE394.out) | exact HB.out)) hb); clear HO_13; clear BK394; clear HB; have HO_13 := n0_; have HO413 := n1_; have BK394 := n2_; have HB := n3_; clear n0_ n1_ n2_ n3_; (try clear hb); (try clear hb2); (try clear hk); (try clear hi); (try clear ho0)))
        go_ret2
        exact ⟨_, by first | rfl | (simp [errW_none, errW_some] <;> rfl) | (simp [*, errW_none, errW_some] <;> rfl), pR (Kd.R_mono HO413.out (fun _ hk => trivial)), by repeat (first | (with_reducible first | exact HB.out | apply below_alloc | apply pw_below_drewN | apply below_drew1 | refine below_set ?_ GE394.out) | exact HB.out)⟩
       ·replace c45 := Bool.eq_false_iff.mpr c45
        subst c45
        have H1 : ((impl_copied_BlkPiece.f l0).bind fun t414 => (some (t414, false))) = some (r1, r2) := by rw [if_neg (show ¬ (false = true) by decide)] at H; exact H
        clear H
        have H := H1
        clear H1
        replace H := Option.bind_eq_some_iff.mp H
        obtain ⟨t414, A500, H⟩ := H
        replace H : (some (t414, false)) = some (r1, r2) := H
        have A50 := Aside0.mk A500
        clear A500
        simp only [Option.some.injEq, Prod.mk.injEq] at H
        obtain ⟨rfl, rfl⟩ := H
        obtain ⟨Ao51, co51, eo51⟩ := Kd.R_slice HO_13.out
        subst eo51
        go_wp2_with (first | ((with_reducible refine gate_callee (f := 23) rfl ?_); refine goesL_ (some 59) rfl rfl Try.func23 (by kernel_rfl) rfl #[.slice Ao51 x13_38.length co51] rfl bM ?_; (with_reducible refine (impl_BlkOk.calls kj38 _ _ x13_38 false _ ?side1 ?side2 A44.out).mono ?_); (case side1 => exact pC (Kd.R_reads' HO_13.out).2.2); (case side2 => exact (Kd.R_reads' HO_13.out).2.1); rintro e w52 ⟨rfl, hb⟩; refine ⟨_, rfl, ?_⟩; have n0_ := Aside0.mk (Kd.R_below (pR HO_13.out) hb); have n1_ := Aside0.mk (blk_below (g := gb394) (o := .cells #[.int .i64 a1, .int .i64 a2, .int .i64 a3, .int .i64 a4] 55 (0, 0)) (pK BK394.out) hb); have n2_ := Aside0.mk (below_step (by repeat (first | (with_reducible first | exact HB.out | apply below_alloc | apply pw_below_drewN | apply below_drew1 | refine below_set ?_ GE394.out) | exact HB.out)) hb); clear HO_13; clear BK394; clear HB; have HO_13 := n0_; have BK394 := n1_; have HB := n2_; clear n0_ n1_ n2_; (try clear hb); (try clear hb2); (try clear hk); (try clear hi)) | ((with_reducible refine gate_callee (f := 56) rfl ?_); refine goesL_ (some 62) rfl rfl Try.func56 (by kernel_rfl) rfl #[.slice A0 l0.length c0] rfl bM ?_; (with_reducible refine (impl_copied_BlkPiece.calls _ _ l0 t414 _ ?side1 ?side2 A50.out).mono ?_); (case side1 => repeat (first | exact (Kd.C_below HR0.out HB.out) | (with_reducible refine Kd.C_alloc ?_ _) | (with_reducible refine Kd.C_drewN ?_ _) | (with_reducible refine Kd.C_drew ?_))); (case side2 => exact HC0.out); rintro e w53 ⟨v415, rfl, ho0, hb⟩; refine ⟨_, rfl, ?_⟩; have n0_ := Aside0.mk (Kd.R_elder' (pR HO_13.out) (Kd.R_base ho0) hb); have n1_ := Aside0.mk (Kd.R_lower (Kd.R_newB (Kd.R_new' ho0 (Kd.R_lt (pR HO_13.out))) (g := gb394) (o := .cells #[.int .i64 a1, .int .i64 a2, .int .i64 a3, .int .i64 a4] 55 (0, 0)) (pK BK394.out)) (below_size (by repeat (first | (with_reducible first | exact HB.out | apply below_alloc | apply pw_below_drewN | apply below_drew1 | refine below_set ?_ GE394.out) | exact HB.out)))); have n2_ := Aside0.mk (blk_below (g := gb394) (o := .cells #[.int .i64 a1, .int .i64 a2, .int .i64 a3, .int .i64 a4] 55 (0, 0)) (pK BK394.out) hb); have n3_ := Aside0.mk (below_step (by repeat (first | (with_reducible first | exact HB.out | apply below_alloc | apply pw_below_drewN | apply below_drew1 | refine below_set ?_ GE394.out) | exact HB.out)) hb); clear HO_13; clear BK394; clear HB; have HO_13 := n0_; have HO416 := n1_; have BK394 := n2_; have HB := n3_; clear n0_ n1_ n2_ n3_; (try clear hb); (try clear hb2); (try clear hk); (try clear hi); (try clear ho0)))
        go_ret2
        exact ⟨_, by first | rfl | (simp [errW_none, errW_some] <;> rfl) | (simp [*, errW_none, errW_some] <;> rfl), pR (Kd.R_mono HO416.out (fun _ hk => trivial)), by repeat (first | (with_reducible first | exact HB.out | apply below_alloc | apply pw_below_drewN | apply below_drew1 | refine below_set ?_ GE394.out) | exact HB.out)⟩
 ·replace c7 := Bool.eq_false_iff.mpr c7
  subst c7
  have H1 : (some (([] : List (S55)), false)) = some (r1, r2) := by rw [if_neg (show ¬ (false = true) by decide)] at H; exact H
  clear H
  have H := H1
  clear H1
  simp only [Option.some.injEq, Prod.mk.injEq] at H
  obtain ⟨rfl, rfl⟩ := H
  go_enter Try.func39, Try.ntmps39
  go_wp2_with (first | ((with_reducible refine gate_callee (f := 23) rfl ?_); refine goesL_ (some 19) rfl rfl Try.func23 (by kernel_rfl) rfl #[.slice A0 l0.length c0] rfl bM ?_; (with_reducible refine (impl_BlkOk.calls k _ _ l0 false _ ?side1 ?side2 A6.out).mono ?_); (case side1 => exact pC HR0.out); (case side2 => exact HC0.out); rintro e w54 ⟨rfl, hb⟩; refine ⟨_, rfl, ?_⟩; have n0_ := Aside0.mk (below_step (pB HB.out) hb); clear HB; have HB := n0_; clear n0_; (try clear hb); (try clear hb2); (try clear hk); (try clear hi)))
  go_ret2
  exact ⟨_, by first | rfl | (simp [errW_none, errW_some] <;> rfl) | (simp [*, errW_none, errW_some] <;> rfl), by first | exact Kd.R_nil _ _ _ _ _ | exact Kd.N_nil _ _ _ _ _ | exact Kd.V_nil _ _ _ _ _ | exact Kd.Q_nil _ _ _ _ _ | exact Kd.S_nil _ _ _ _ _, pB HB.out⟩

end Go.Proofs.Ytdcdaclmicmiaaa.P
