-- printed by pprint.py (this session's program over the kit's printer) out of the translation. Lean checks it.
import Derived.Test.YtoieojmfkkidnaaPx0
import Derived.Test.YtoieojmfkkidnaaPx5
import Derived.Test.YtoieojmfkkidnaaPx14
namespace Go.Proofs.Ytoieojmfkkidnaa.P
open Go.RowKit Go.Proofs.YtoieojmfkkidnaaX Go.Proofs.YtoieojmfkkidnaaW.PrintWords Go.Proofs.YtoieojmfkkidnaaW.PrintLast Go.Proofs.YtoieojmfkkidnaaW.PrintMore
attribute [local go_sem] max2_int min2_int max_two min_two max_three min_three max_four min_four   -- for this text's walks alone
set_option linter.unusedVariables false
set_option linter.unusedSimpArgs false

/-! ### impl_SynVoterOk: function 28 -/
def impl_SynVoterOk.l0 : Nat → List (S64) → Int → Int → Int → List (S64) → Option (Bool)
 | 0, _, _, _, _, _ => none
 | k + 1, x6, x7, x8, x691000, x691001 => if x8 < x7 then (if 0 ≤ x8 then (if x8 < (x6.length : Int) then ((impl_paperOk.f k ((rd_T64 x6 x8).f0) ((rd_T64 x6 x8).f1) ((rd_T64 x6 x8).f2.f0) ((rd_T64 x6 x8).f2.f1) ((rd_T64 x6 x8).f2.f2) ((rd_T64 x6 x8).f2.f3) ((rd_T64 x6 x8).f2.f4) ((rd_T64 x6 x8).f2.f5) ((rd_T64 x6 x8).f2.f6) ((rd_T64 x6 x8).f2.f7) ((rd_T64 x6 x8).f2.f8) ((rd_T64 x6 x8).f2.f9)).bind fun t693 => (if t693 = true then (if ((rd_T64 x6 x8).f1) > x691000 then (some false) else (if x8 > 0 then (if 0 ≤ (wrap64 (x8 - 1)) then (if (wrap64 (x8 - 1)) < (x691001.length : Int) then (if ((rd_T64 x691001 (wrap64 (x8 - 1))).f0) ≥ ((rd_T64 x6 x8).f0) then (some false) else (impl_SynVoterOk.l0 k x6 x7 (wrap64 (x8 + 1)) x691000 x691001)) else (none)) else (none)) else (impl_SynVoterOk.l0 k x6 x7 (wrap64 (x8 + 1)) x691000 x691001))) else (some false))) else (none)) else (none)) else ((impl_in.f x691000 0 99999).bind fun t695 => (if t695 = true then (some (decide ((x691001.length : Int) ≤ 60))) else (some false)))
def impl_SynVoterOk.f (k : Nat) (a0_0 : Int) (l0_1 : List (S64)) : Option (Bool) := impl_SynVoterOk.l0 k l0_1 (l0_1.length : Int) 0 a0_0 l0_1
theorem impl_SynVoterOk.mono_l : ∀ k, (∀ y0 y1 y2 y3 y4, LeO (impl_SynVoterOk.l0 k y0 y1 y2 y3 y4) (impl_SynVoterOk.l0 (k + 1) y0 y1 y2 y3 y4))
 | 0 => fun _ _ _ _ _ r h => by simp [impl_SynVoterOk.l0] at h
 | k + 1 => by
  have ih0 := impl_SynVoterOk.mono_l k
  ·intro y0 y1 y2 y3 y4
   unfold impl_SynVoterOk.l0
   repeat' first
   | (with_reducible exact ih0 _ _ _ _ _)
   | (with_reducible exact impl_paperOk.mono _ _ _ _ _ _ _ _ _ _ _ _ _)
   | (with_reducible exact LeO.refl _)
   | (with_reducible exact LeO.none _)
   | (with_reducible refine LeO.ite ?_ ?_)
   | (with_reducible refine LeO.bind ?_ (fun _ => ?_))
   | exact ih0 _ _ _ _ _
   | exact impl_paperOk.mono _ _ _ _ _ _ _ _ _ _ _ _ _
   | exact LeO.none _
   | refine LeO.ite ?_ ?_
   | refine LeO.bind ?_ (fun _ => ?_)
theorem impl_SynVoterOk.mono : ∀ a0 a1 k, LeO (impl_SynVoterOk.f k a0 a1) (impl_SynVoterOk.f (k + 1) a0 a1) := by
 intro a0 a1 k
 have ih0 := impl_SynVoterOk.mono_l k
 unfold impl_SynVoterOk.f
 repeat' first
   | (with_reducible exact ih0 _ _ _ _ _)
   | (with_reducible exact impl_paperOk.mono _ _ _ _ _ _ _ _ _ _ _ _ _)
   | (with_reducible exact LeO.refl _)
   | (with_reducible exact LeO.none _)
   | (with_reducible refine LeO.ite ?_ ?_)
   | (with_reducible refine LeO.bind ?_ (fun _ => ?_))
   | exact ih0 _ _ _ _ _
   | exact impl_paperOk.mono _ _ _ _ _ _ _ _ _ _ _ _ _
   | exact LeO.none _
   | refine LeO.ite ?_ ?_
   | refine LeO.bind ?_ (fun _ => ?_)
def impl_SynVoterOk.T4 : Bool × List (List Nat × List Nat) := (true, [([], []), ([0], [0]), ([1], [1]), ([2, 1], [2]), ([3], [3]), ([4, 3], [3, 4]), ([3], [3]), ([6, 3], [3, 6]), ([5, 7, 3], [3, 5, 7]), ([3, 8], [3, 8]), ([9, 3], [9]), ([10], [10]), ([11, 10], [10, 11]), ([12, 10, 10], [10, 12]), ([13], [13]), ([14, 13], [13, 14]), ([13], [13]), ([16, 13], [13, 16]), ([15, 17, 13], [13, 15, 17]), ([18, 13], [13, 18]), ([19, 13], [13, 19]), ([13], [13]), ([21, 13], [13, 21]), ([20, 22, 13], [13, 20, 22]), ([13, 23, 10], [10, 13, 23]), ([10, 24], [10, 24])])
def impl_SynVoterOk.B4 : List Nat := [0, 1, 3, 7, 15, 31, 15, 79, 255, 511, 1023, 2047, 4095, 8191, 16383, 32767, 16383, 81919, 262143, 524287, 1048575, 16383, 2113535, 8388607, 16777215, 33554431]
theorem impl_SynVoterOk.tab4 : rtab .any (opsOf Try.f28 4) = impl_SynVoterOk.T4 := by kernel_rfl
theorem impl_SynVoterOk.bits4 : waitsOk impl_SynVoterOk.T4.2 impl_SynVoterOk.B4 = true := by kernel_rfl
set_option maxHeartbeats 8000000 in
set_option maxRecDepth 100000 in
theorem impl_SynVoterOk.calls (k : Nat) (a0_0 : Int) (A0_1 : Option Addr) (c0_1 : Nat) (l0_1 : List (S64)) (r : Bool) (w : World) (hr0_1 : Kd.C k64 w A0_1 l0_1.length l0_1) (hc0_1 : l0_1.length ≤ c0_1) (h : impl_SynVoterOk.f k a0_0 l0_1 = some r) :
  Calls Try.prog 28 #[.agg #[.int .i64 a0_0, .slice A0_1 l0_1.length c0_1]] w fun e w' => e = .returned (.bool r) ∧ Below w.heap.size w w' := by
 have hu52 := Try.underlying52
 have hu64 := Try.underlying64
 have HR0_1 := Aside0.mk hr0_1
 have HC0_1 := Aside0.mk hc0_1
 clear hr0_1 hc0_1
 have HB := Aside0.mk (Below.refl w.heap.size w)
 have H : (impl_SynVoterOk.l0 k l0_1 (l0_1.length : Int) 0 a0_0 l0_1) = some r := h
 clear h
 have H' := Aside0.mk H
 clear H
 go_enter Try.func28, Try.ntmps28
 go_wp2_with (first | ((with_reducible refine gate_dst (N := 1) rfl ?_); (try (refine gate_guard (by rfl) ?_; dsimp only)); refine box_event ?hg (N := 1) ?hd (cs := #[.int .i64 a0_0, .slice A0_1 l0_1.length c0_1]) (t := 52) ?hr ?_; (case hd => rfl); (case hg => rfl); (case hr => first | (go_simp; done) | (go_simp; rfl)); intro gb690 hg w2 hbox hb; have n0_ := Aside0.mk (below_step (pB HB.out) hb); have n1_ := Aside0.mk (hbox); have n2_ := Aside0.mk ((by rw [hg]; exact (below_size (pB HB.out)) : w.heap.size ≤ gb690)); have n3_ := Aside0.mk ((by rw [hg]; exact (below_size (pB HB.out)) : w.heap.size ≤ gb690)); clear HB; have HB := n0_; have BK690 := n1_; have GW690 := n2_; have GE690 := n3_; clear n0_ n1_ n2_ n3_; clear hb hbox hg; have hcz3_0 : w2.cell? ⟨gb690, 0, none⟩ = some (.int .i64 a0_0) := (blk_cell BK690.out 0).trans rfl; have hcz3_1 : w2.cell? ⟨gb690, 1, none⟩ = some (.slice A0_1 l0_1.length c0_1) := (blk_cell BK690.out 1).trans rfl; have hfz3_0 := blk_frozen BK690.out 0; have hfz3_1 := blk_frozen BK690.out 1))
 go_loopg [8] k (fun kq v8 w' => ∃ (x8_1 : Int), v8 = .int .i64 x8_1 ∧ Aside0 (impl_SynVoterOk.l0 kq l0_1 (l0_1.length : Int) x8_1 a0_0 l0_1 = some r) ∧ Aside0 (kq ≤ k) ∧ Aside0 (w'.heap[gb690]? = some (.cells #[.int .i64 a0_0, (.slice A0_1 l0_1.length c0_1)] 52 (0, 0))) ∧ Aside0 (Below w.heap.size w w'))
 case atStart => exact ⟨(0), (by first | rfl | (simp; done) | (simp [*]; done)), H', ⟨Nat.le_refl _⟩, ⟨pK BK690.out⟩, ⟨pS HB.out⟩⟩
 case round =>
  clear H'
  try clear c2
  try clear p2
  try clear hcz3_0
  try clear hcz3_1
  try clear hfz3_0
  try clear hfz3_1
  obtain ⟨x8_1, rfl, HA, HK1, BK690, HB⟩ := hrel
  cases gk with
  | zero => exact absurd HA.out (by simp [impl_SynVoterOk.l0])
  | succ k1 =>
   have H := HA.out
   clear HA
   simp only [impl_SynVoterOk.l0] at H
   by_cases c4 : x8_1 < (l0_1.length : Int)
   ·rw [if_pos c4] at H
    have c4b0 : decide (x8_1 < (l0_1.length : Int)) = true := decide_eq_true c4
    clear c4
    by_cases c5 : 0 ≤ x8_1
    ·rw [if_pos c5] at H
     have c5b0 : decide (0 ≤ x8_1) = true := decide_eq_true c5
     clear c5
     by_cases c6 : x8_1 < (l0_1.length : Int)
     ·rw [if_pos c6] at H
      have c6b0 : decide (x8_1 < (l0_1.length : Int)) = true := decide_eq_true c6
      clear c6
      replace H := Option.bind_eq_some_iff.mp H
      obtain ⟨t693, A70, H⟩ := H
      replace H : (if t693 = true then (if ((rd_T64 l0_1 x8_1).f1) > a0_0 then (some false) else (if x8_1 > 0 then (if 0 ≤ (wrap64 (x8_1 - 1)) then (if (wrap64 (x8_1 - 1)) < (l0_1.length : Int) then (if ((rd_T64 l0_1 (wrap64 (x8_1 - 1))).f0) ≥ ((rd_T64 l0_1 x8_1).f0) then (some false) else (impl_SynVoterOk.l0 k1 l0_1 (l0_1.length : Int) (wrap64 (x8_1 + 1)) a0_0 l0_1)) else (none)) else (none)) else (impl_SynVoterOk.l0 k1 l0_1 (l0_1.length : Int) (wrap64 (x8_1 + 1)) a0_0 l0_1))) else (some false)) = some r := H
      have A7 := Aside0.mk A70
      clear A70
      by_cases c8 : t693 = true
      ·subst c8
       have H1 : (if ((rd_T64 l0_1 x8_1).f1) > a0_0 then (some false) else (if x8_1 > 0 then (if 0 ≤ (wrap64 (x8_1 - 1)) then (if (wrap64 (x8_1 - 1)) < (l0_1.length : Int) then (if ((rd_T64 l0_1 (wrap64 (x8_1 - 1))).f0) ≥ ((rd_T64 l0_1 x8_1).f0) then (some false) else (impl_SynVoterOk.l0 k1 l0_1 (l0_1.length : Int) (wrap64 (x8_1 + 1)) a0_0 l0_1)) else (none)) else (none)) else (impl_SynVoterOk.l0 k1 l0_1 (l0_1.length : Int) (wrap64 (x8_1 + 1)) a0_0 l0_1))) = some r := by rw [if_pos rfl] at H; exact H
       clear H
       have H := H1
       clear H1
       by_cases c9 : ((rd_T64 l0_1 x8_1).f1) > a0_0
       ·rw [if_pos c9] at H
        have c9b0 : decide (a0_0 < ((rd_T64 l0_1 x8_1).f1)) = true := decide_eq_true c9
        clear c9
        obtain rfl := Option.some.inj H
        have p691 : 0 ≤ (x8_1 : Int) := of_decide_eq_true bA
        have q691 : x8_1 < (l0_1.length : Int) := of_decide_eq_true bA
        obtain ⟨ad691, e691, hx691_0, hx691_1, hx691_2, hx691_3, hx691_4, hx691_5, hx691_6, hx691_7, hx691_8, hx691_9, hx691_10, hx691_11⟩ := at_T64 HR0_1.out x8_1 p691 q691
        cases e691
        replace hx691_0 := (HB.out.cell (World.block_lt_of_cell? w _ hx691_0)).trans hx691_0
        replace hx691_1 := (HB.out.cell (World.block_lt_of_cell? w _ hx691_1)).trans hx691_1
        replace hx691_2 := (HB.out.cell (World.block_lt_of_cell? w _ hx691_2)).trans hx691_2
        replace hx691_3 := (HB.out.cell (World.block_lt_of_cell? w _ hx691_3)).trans hx691_3
        replace hx691_4 := (HB.out.cell (World.block_lt_of_cell? w _ hx691_4)).trans hx691_4
        replace hx691_5 := (HB.out.cell (World.block_lt_of_cell? w _ hx691_5)).trans hx691_5
        replace hx691_6 := (HB.out.cell (World.block_lt_of_cell? w _ hx691_6)).trans hx691_6
        replace hx691_7 := (HB.out.cell (World.block_lt_of_cell? w _ hx691_7)).trans hx691_7
        replace hx691_8 := (HB.out.cell (World.block_lt_of_cell? w _ hx691_8)).trans hx691_8
        replace hx691_9 := (HB.out.cell (World.block_lt_of_cell? w _ hx691_9)).trans hx691_9
        replace hx691_10 := (HB.out.cell (World.block_lt_of_cell? w _ hx691_10)).trans hx691_10
        replace hx691_11 := (HB.out.cell (World.block_lt_of_cell? w _ hx691_11)).trans hx691_11
        replace p691 := eq_true p691
        replace q691 := eq_true q691
        try go_wp2_with (first | ((with_reducible refine gate_dst (N := 4) rfl ?_); (try (refine gate_guard (by rfl) ?_; dsimp only)); refine box_event ?hg (N := 4) ?hd (cs := #[.int .i64 0, .int .i64 0, .int .i64 0, .int .i64 0, .int .i64 0, .int .i64 0, .int .i64 0, .int .i64 0, .int .i64 0, .int .i64 0, .int .i64 0, .int .i64 0]) (t := 64) ?hr ?_; (case hd => rfl); (case hg => rfl); (case hr => first | (go_simp; done) | (go_simp; rfl)); intro gb692 hg w10 hbox hb; have n0_ := Aside0.mk (blk_below (pK BK690.out) hb); have n1_ := Aside0.mk (below_step (pS HB.out) hb); have n2_ := Aside0.mk (hbox); have n3_ := Aside0.mk ((by rw [hg]; exact (below_size (pS HB.out)) : w.heap.size ≤ gb692)); have n4_ := Aside0.mk ((by rw [hg]; exact (below_size (pS HB.out)) : w.heap.size ≤ gb692)); have n5_ := Aside0.mk ((by rw [hg]; exact Nat.ne_of_lt (blk_lt (pK BK690.out)) : gb690 ≠ gb692)); have n6_ := Aside0.mk ((by rw [hg]; exact Nat.ne_of_gt (blk_lt (pK BK690.out)) : gb692 ≠ gb690)); clear BK690; clear HB; have BK690 := n0_; have HB := n1_; have BK692 := n2_; have GW692 := n3_; have GE692 := n4_; have NB690_692 := n5_; have NB692_690 := n6_; clear n0_ n1_ n2_ n3_ n4_ n5_ n6_; clear hb hbox hg; have hnb11 := NB692_690.out; have hnc11 := NB690_692.out; have hcz12_0 : w10.cell? ⟨gb692, 0, none⟩ = some (.int .i64 0) := (blk_cell BK692.out 0).trans rfl; have hcz12_1 : w10.cell? ⟨gb692, 1, none⟩ = some (.int .i64 0) := (blk_cell BK692.out 1).trans rfl; have hcz12_2 : w10.cell? ⟨gb692, 2, none⟩ = some (.int .i64 0) := (blk_cell BK692.out 2).trans rfl; have hcz12_3 : w10.cell? ⟨gb692, 3, none⟩ = some (.int .i64 0) := (blk_cell BK692.out 3).trans rfl; have hcz12_4 : w10.cell? ⟨gb692, 4, none⟩ = some (.int .i64 0) := (blk_cell BK692.out 4).trans rfl; have hcz12_5 : w10.cell? ⟨gb692, 5, none⟩ = some (.int .i64 0) := (blk_cell BK692.out 5).trans rfl; have hcz12_6 : w10.cell? ⟨gb692, 6, none⟩ = some (.int .i64 0) := (blk_cell BK692.out 6).trans rfl; have hcz12_7 : w10.cell? ⟨gb692, 7, none⟩ = some (.int .i64 0) := (blk_cell BK692.out 7).trans rfl; have hcz12_8 : w10.cell? ⟨gb692, 8, none⟩ = some (.int .i64 0) := (blk_cell BK692.out 8).trans rfl; have hcz12_9 : w10.cell? ⟨gb692, 9, none⟩ = some (.int .i64 0) := (blk_cell BK692.out 9).trans rfl; have hcz12_10 : w10.cell? ⟨gb692, 10, none⟩ = some (.int .i64 0) := (blk_cell BK692.out 10).trans rfl; have hcz12_11 : w10.cell? ⟨gb692, 11, none⟩ = some (.int .i64 0) := (blk_cell BK692.out 11).trans rfl; have hfz12_0 := blk_frozen BK692.out 0; have hfz12_1 := blk_frozen BK692.out 1; have hfz12_2 := blk_frozen BK692.out 2; have hfz12_3 := blk_frozen BK692.out 3; have hfz12_4 := blk_frozen BK692.out 4; have hfz12_5 := blk_frozen BK692.out 5; have hfz12_6 := blk_frozen BK692.out 6; have hfz12_7 := blk_frozen BK692.out 7; have hfz12_8 := blk_frozen BK692.out 8; have hfz12_9 := blk_frozen BK692.out 9; have hfz12_10 := blk_frozen BK692.out 10; have hfz12_11 := blk_frozen BK692.out 11))
        have n0_ : Aside0 (((((((((((((w10.setCell ⟨gb692, 0, none⟩ (.int .i64 ((rd_T64 l0_1 x8_1).f0))).setCell ⟨gb692, 1, none⟩ (.int .i64 ((rd_T64 l0_1 x8_1).f1))).setCell ⟨gb692, 2, none⟩ (.int .i64 ((rd_T64 l0_1 x8_1).f2.f0))).setCell ⟨gb692, 3, none⟩ (.int .i64 ((rd_T64 l0_1 x8_1).f2.f1))).setCell ⟨gb692, 4, none⟩ (.int .i64 ((rd_T64 l0_1 x8_1).f2.f2))).setCell ⟨gb692, 5, none⟩ (.int .i64 ((rd_T64 l0_1 x8_1).f2.f3))).setCell ⟨gb692, 6, none⟩ (.int .i64 ((rd_T64 l0_1 x8_1).f2.f4))).setCell ⟨gb692, 7, none⟩ (.int .i64 ((rd_T64 l0_1 x8_1).f2.f5))).setCell ⟨gb692, 8, none⟩ (.int .i64 ((rd_T64 l0_1 x8_1).f2.f6))).setCell ⟨gb692, 9, none⟩ (.int .i64 ((rd_T64 l0_1 x8_1).f2.f7))).setCell ⟨gb692, 10, none⟩ (.int .i64 ((rd_T64 l0_1 x8_1).f2.f8))).setCell ⟨gb692, 11, none⟩ (.int .i64 ((rd_T64 l0_1 x8_1).f2.f9))).heap[gb690]? = some (.cells #[.int .i64 a0_0, .slice (some ad691) l0_1.length c0_1] 52 (0, 0))) := ⟨by (with_reducible repeat (first | refine blk_drewN ?_ _ | refine blk_drew ?_ | refine blk_alloc ?_ _)); refine blk_far ?_ NB690_692.out _; (with_reducible repeat (first | refine blk_drewN ?_ _ | refine blk_drew ?_ | refine blk_alloc ?_ _)); refine blk_far ?_ NB690_692.out _; (with_reducible repeat (first | refine blk_drewN ?_ _ | refine blk_drew ?_ | refine blk_alloc ?_ _)); refine blk_far ?_ NB690_692.out _; (with_reducible repeat (first | refine blk_drewN ?_ _ | refine blk_drew ?_ | refine blk_alloc ?_ _)); refine blk_far ?_ NB690_692.out _; (with_reducible repeat (first | refine blk_drewN ?_ _ | refine blk_drew ?_ | refine blk_alloc ?_ _)); refine blk_far ?_ NB690_692.out _; (with_reducible repeat (first | refine blk_drewN ?_ _ | refine blk_drew ?_ | refine blk_alloc ?_ _)); refine blk_far ?_ NB690_692.out _; (with_reducible repeat (first | refine blk_drewN ?_ _ | refine blk_drew ?_ | refine blk_alloc ?_ _)); refine blk_far ?_ NB690_692.out _; (with_reducible repeat (first | refine blk_drewN ?_ _ | refine blk_drew ?_ | refine blk_alloc ?_ _)); refine blk_far ?_ NB690_692.out _; (with_reducible repeat (first | refine blk_drewN ?_ _ | refine blk_drew ?_ | refine blk_alloc ?_ _)); refine blk_far ?_ NB690_692.out _; (with_reducible repeat (first | refine blk_drewN ?_ _ | refine blk_drew ?_ | refine blk_alloc ?_ _)); refine blk_far ?_ NB690_692.out _; (with_reducible repeat (first | refine blk_drewN ?_ _ | refine blk_drew ?_ | refine blk_alloc ?_ _)); refine blk_far ?_ NB690_692.out _; (with_reducible repeat (first | refine blk_drewN ?_ _ | refine blk_drew ?_ | refine blk_alloc ?_ _)); refine blk_far ?_ NB690_692.out _; (with_reducible repeat (first | refine blk_drewN ?_ _ | refine blk_drew ?_ | refine blk_alloc ?_ _)); exact BK690.out⟩
        have n1_ : Aside0 (((((((((((((w10.setCell ⟨gb692, 0, none⟩ (.int .i64 ((rd_T64 l0_1 x8_1).f0))).setCell ⟨gb692, 1, none⟩ (.int .i64 ((rd_T64 l0_1 x8_1).f1))).setCell ⟨gb692, 2, none⟩ (.int .i64 ((rd_T64 l0_1 x8_1).f2.f0))).setCell ⟨gb692, 3, none⟩ (.int .i64 ((rd_T64 l0_1 x8_1).f2.f1))).setCell ⟨gb692, 4, none⟩ (.int .i64 ((rd_T64 l0_1 x8_1).f2.f2))).setCell ⟨gb692, 5, none⟩ (.int .i64 ((rd_T64 l0_1 x8_1).f2.f3))).setCell ⟨gb692, 6, none⟩ (.int .i64 ((rd_T64 l0_1 x8_1).f2.f4))).setCell ⟨gb692, 7, none⟩ (.int .i64 ((rd_T64 l0_1 x8_1).f2.f5))).setCell ⟨gb692, 8, none⟩ (.int .i64 ((rd_T64 l0_1 x8_1).f2.f6))).setCell ⟨gb692, 9, none⟩ (.int .i64 ((rd_T64 l0_1 x8_1).f2.f7))).setCell ⟨gb692, 10, none⟩ (.int .i64 ((rd_T64 l0_1 x8_1).f2.f8))).setCell ⟨gb692, 11, none⟩ (.int .i64 ((rd_T64 l0_1 x8_1).f2.f9))).heap[gb692]? = some (.cells #[.int .i64 ((rd_T64 l0_1 x8_1).f0), .int .i64 ((rd_T64 l0_1 x8_1).f1), .int .i64 ((rd_T64 l0_1 x8_1).f2.f0), .int .i64 ((rd_T64 l0_1 x8_1).f2.f1), .int .i64 ((rd_T64 l0_1 x8_1).f2.f2), .int .i64 ((rd_T64 l0_1 x8_1).f2.f3), .int .i64 ((rd_T64 l0_1 x8_1).f2.f4), .int .i64 ((rd_T64 l0_1 x8_1).f2.f5), .int .i64 ((rd_T64 l0_1 x8_1).f2.f6), .int .i64 ((rd_T64 l0_1 x8_1).f2.f7), .int .i64 ((rd_T64 l0_1 x8_1).f2.f8), .int .i64 ((rd_T64 l0_1 x8_1).f2.f9)] 64 (0, 0))) := ⟨by (with_reducible repeat (first | refine blk_drewN ?_ _ | refine blk_drew ?_ | refine blk_alloc ?_ _)); refine blk_put (cs := #[.int .i64 ((rd_T64 l0_1 x8_1).f0), .int .i64 ((rd_T64 l0_1 x8_1).f1), .int .i64 ((rd_T64 l0_1 x8_1).f2.f0), .int .i64 ((rd_T64 l0_1 x8_1).f2.f1), .int .i64 ((rd_T64 l0_1 x8_1).f2.f2), .int .i64 ((rd_T64 l0_1 x8_1).f2.f3), .int .i64 ((rd_T64 l0_1 x8_1).f2.f4), .int .i64 ((rd_T64 l0_1 x8_1).f2.f5), .int .i64 ((rd_T64 l0_1 x8_1).f2.f6), .int .i64 ((rd_T64 l0_1 x8_1).f2.f7), .int .i64 ((rd_T64 l0_1 x8_1).f2.f8), .int .i64 0]) ?_ 11 _ rfl; (with_reducible repeat (first | refine blk_drewN ?_ _ | refine blk_drew ?_ | refine blk_alloc ?_ _)); refine blk_put (cs := #[.int .i64 ((rd_T64 l0_1 x8_1).f0), .int .i64 ((rd_T64 l0_1 x8_1).f1), .int .i64 ((rd_T64 l0_1 x8_1).f2.f0), .int .i64 ((rd_T64 l0_1 x8_1).f2.f1), .int .i64 ((rd_T64 l0_1 x8_1).f2.f2), .int .i64 ((rd_T64 l0_1 x8_1).f2.f3), .int .i64 ((rd_T64 l0_1 x8_1).f2.f4), .int .i64 ((rd_T64 l0_1 x8_1).f2.f5), .int .i64 ((rd_T64 l0_1 x8_1).f2.f6), .int .i64 ((rd_T64 l0_1 x8_1).f2.f7), .int .i64 0, .int .i64 0]) ?_ 10 _ rfl; (with_reducible repeat (first | refine blk_drewN ?_ _ | refine blk_drew ?_ | refine blk_alloc ?_ _)); refine blk_put (cs := #[.int .i64 ((rd_T64 l0_1 x8_1).f0), .int .i64 ((rd_T64 l0_1 x8_1).f1), .int .i64 ((rd_T64 l0_1 x8_1).f2.f0), .int .i64 ((rd_T64 l0_1 x8_1).f2.f1), .int .i64 ((rd_T64 l0_1 x8_1).f2.f2), .int .i64 ((rd_T64 l0_1 x8_1).f2.f3), .int .i64 ((rd_T64 l0_1 x8_1).f2.f4), .int .i64 ((rd_T64 l0_1 x8_1).f2.f5), .int .i64 ((rd_T64 l0_1 x8_1).f2.f6), .int .i64 0, .int .i64 0, .int .i64 0]) ?_ 9 _ rfl; (with_reducible repeat (first | refine blk_drewN ?_ _ | refine blk_drew ?_ | refine blk_alloc ?_ _)); refine blk_put (cs := #[.int .i64 ((rd_T64 l0_1 x8_1).f0), .int .i64 ((rd_T64 l0_1 x8_1).f1), .int .i64 ((rd_T64 l0_1 x8_1).f2.f0), .int .i64 ((rd_T64 l0_1 x8_1).f2.f1), .int .i64 ((rd_T64 l0_1 x8_1).f2.f2), .int .i64 ((rd_T64 l0_1 x8_1).f2.f3), .int .i64 ((rd_T64 l0_1 x8_1).f2.f4), .int .i64 ((rd_T64 l0_1 x8_1).f2.f5), .int .i64 0, .int .i64 0, .int .i64 0, .int .i64 0]) ?_ 8 _ rfl; (with_reducible repeat (first | refine blk_drewN ?_ _ | refine blk_drew ?_ | refine blk_alloc ?_ _)); refine blk_put (cs := #[.int .i64 ((rd_T64 l0_1 x8_1).f0), .int .i64 ((rd_T64 l0_1 x8_1).f1), .int .i64 ((rd_T64 l0_1 x8_1).f2.f0), .int .i64 ((rd_T64 l0_1 x8_1).f2.f1), .int .i64 ((rd_T64 l0_1 x8_1).f2.f2), .int .i64 ((rd_T64 l0_1 x8_1).f2.f3), .int .i64 ((rd_T64 l0_1 x8_1).f2.f4), .int .i64 0, .int .i64 0, .int .i64 0, .int .i64 0, .int .i64 0]) ?_ 7 _ rfl; (with_reducible repeat (first | refine blk_drewN ?_ _ | refine blk_drew ?_ | refine blk_alloc ?_ _)); refine blk_put (cs := #[.int .i64 ((rd_T64 l0_1 x8_1).f0), .int .i64 ((rd_T64 l0_1 x8_1).f1), .int .i64 ((rd_T64 l0_1 x8_1).f2.f0), .int .i64 ((rd_T64 l0_1 x8_1).f2.f1), .int .i64 ((rd_T64 l0_1 x8_1).f2.f2), .int .i64 ((rd_T64 l0_1 x8_1).f2.f3), .int .i64 0, .int .i64 0, .int .i64 0, .int .i64 0, .int .i64 0, .int .i64 0]) ?_ 6 _ rfl; (with_reducible repeat (first | refine blk_drewN ?_ _ | refine blk_drew ?_ | refine blk_alloc ?_ _)); refine blk_put (cs := #[.int .i64 ((rd_T64 l0_1 x8_1).f0), .int .i64 ((rd_T64 l0_1 x8_1).f1), .int .i64 ((rd_T64 l0_1 x8_1).f2.f0), .int .i64 ((rd_T64 l0_1 x8_1).f2.f1), .int .i64 ((rd_T64 l0_1 x8_1).f2.f2), .int .i64 0, .int .i64 0, .int .i64 0, .int .i64 0, .int .i64 0, .int .i64 0, .int .i64 0]) ?_ 5 _ rfl; (with_reducible repeat (first | refine blk_drewN ?_ _ | refine blk_drew ?_ | refine blk_alloc ?_ _)); refine blk_put (cs := #[.int .i64 ((rd_T64 l0_1 x8_1).f0), .int .i64 ((rd_T64 l0_1 x8_1).f1), .int .i64 ((rd_T64 l0_1 x8_1).f2.f0), .int .i64 ((rd_T64 l0_1 x8_1).f2.f1), .int .i64 0, .int .i64 0, .int .i64 0, .int .i64 0, .int .i64 0, .int .i64 0, .int .i64 0, .int .i64 0]) ?_ 4 _ rfl; (with_reducible repeat (first | refine blk_drewN ?_ _ | refine blk_drew ?_ | refine blk_alloc ?_ _)); refine blk_put (cs := #[.int .i64 ((rd_T64 l0_1 x8_1).f0), .int .i64 ((rd_T64 l0_1 x8_1).f1), .int .i64 ((rd_T64 l0_1 x8_1).f2.f0), .int .i64 0, .int .i64 0, .int .i64 0, .int .i64 0, .int .i64 0, .int .i64 0, .int .i64 0, .int .i64 0, .int .i64 0]) ?_ 3 _ rfl; (with_reducible repeat (first | refine blk_drewN ?_ _ | refine blk_drew ?_ | refine blk_alloc ?_ _)); refine blk_put (cs := #[.int .i64 ((rd_T64 l0_1 x8_1).f0), .int .i64 ((rd_T64 l0_1 x8_1).f1), .int .i64 0, .int .i64 0, .int .i64 0, .int .i64 0, .int .i64 0, .int .i64 0, .int .i64 0, .int .i64 0, .int .i64 0, .int .i64 0]) ?_ 2 _ rfl; (with_reducible repeat (first | refine blk_drewN ?_ _ | refine blk_drew ?_ | refine blk_alloc ?_ _)); refine blk_put (cs := #[.int .i64 ((rd_T64 l0_1 x8_1).f0), .int .i64 0, .int .i64 0, .int .i64 0, .int .i64 0, .int .i64 0, .int .i64 0, .int .i64 0, .int .i64 0, .int .i64 0, .int .i64 0, .int .i64 0]) ?_ 1 _ rfl; (with_reducible repeat (first | refine blk_drewN ?_ _ | refine blk_drew ?_ | refine blk_alloc ?_ _)); refine blk_put (cs := #[.int .i64 0, .int .i64 0, .int .i64 0, .int .i64 0, .int .i64 0, .int .i64 0, .int .i64 0, .int .i64 0, .int .i64 0, .int .i64 0, .int .i64 0, .int .i64 0]) ?_ 0 _ rfl; (with_reducible repeat (first | refine blk_drewN ?_ _ | refine blk_drew ?_ | refine blk_alloc ?_ _)); exact BK692.out⟩
        have n2_ : Aside0 (Below w.heap.size w ((((((((((((w10.setCell ⟨gb692, 0, none⟩ (.int .i64 ((rd_T64 l0_1 x8_1).f0))).setCell ⟨gb692, 1, none⟩ (.int .i64 ((rd_T64 l0_1 x8_1).f1))).setCell ⟨gb692, 2, none⟩ (.int .i64 ((rd_T64 l0_1 x8_1).f2.f0))).setCell ⟨gb692, 3, none⟩ (.int .i64 ((rd_T64 l0_1 x8_1).f2.f1))).setCell ⟨gb692, 4, none⟩ (.int .i64 ((rd_T64 l0_1 x8_1).f2.f2))).setCell ⟨gb692, 5, none⟩ (.int .i64 ((rd_T64 l0_1 x8_1).f2.f3))).setCell ⟨gb692, 6, none⟩ (.int .i64 ((rd_T64 l0_1 x8_1).f2.f4))).setCell ⟨gb692, 7, none⟩ (.int .i64 ((rd_T64 l0_1 x8_1).f2.f5))).setCell ⟨gb692, 8, none⟩ (.int .i64 ((rd_T64 l0_1 x8_1).f2.f6))).setCell ⟨gb692, 9, none⟩ (.int .i64 ((rd_T64 l0_1 x8_1).f2.f7))).setCell ⟨gb692, 10, none⟩ (.int .i64 ((rd_T64 l0_1 x8_1).f2.f8))).setCell ⟨gb692, 11, none⟩ (.int .i64 ((rd_T64 l0_1 x8_1).f2.f9)))) := ⟨pS HB.out⟩
        (try clear BK690)
        (try clear BK692)
        (try clear HB)
        generalize ((((((((((((w10.setCell ⟨gb692, 0, none⟩ (.int .i64 ((rd_T64 l0_1 x8_1).f0))).setCell ⟨gb692, 1, none⟩ (.int .i64 ((rd_T64 l0_1 x8_1).f1))).setCell ⟨gb692, 2, none⟩ (.int .i64 ((rd_T64 l0_1 x8_1).f2.f0))).setCell ⟨gb692, 3, none⟩ (.int .i64 ((rd_T64 l0_1 x8_1).f2.f1))).setCell ⟨gb692, 4, none⟩ (.int .i64 ((rd_T64 l0_1 x8_1).f2.f2))).setCell ⟨gb692, 5, none⟩ (.int .i64 ((rd_T64 l0_1 x8_1).f2.f3))).setCell ⟨gb692, 6, none⟩ (.int .i64 ((rd_T64 l0_1 x8_1).f2.f4))).setCell ⟨gb692, 7, none⟩ (.int .i64 ((rd_T64 l0_1 x8_1).f2.f5))).setCell ⟨gb692, 8, none⟩ (.int .i64 ((rd_T64 l0_1 x8_1).f2.f6))).setCell ⟨gb692, 9, none⟩ (.int .i64 ((rd_T64 l0_1 x8_1).f2.f7))).setCell ⟨gb692, 10, none⟩ (.int .i64 ((rd_T64 l0_1 x8_1).f2.f8))).setCell ⟨gb692, 11, none⟩ (.int .i64 ((rd_T64 l0_1 x8_1).f2.f9))) = w13 at n0_ n1_ n2_ ⊢
        have BK690 := n0_
        have BK692 := n1_
        have HB := n2_
        clear n0_ n1_ n2_
        have n0_ := Aside0.mk (blk_drew BK690.out)
        have n1_ := Aside0.mk (blk_drew BK692.out)
        have n2_ := Aside0.mk (below_drew1 HB.out)
        clear BK690
        clear BK692
        clear HB
        have BK690 := n0_
        have BK692 := n1_
        have HB := n2_
        clear n0_ n1_ n2_
        refine start_ (n := 26) (S := fun w' => w'.cell? ⟨gb692, 0, none⟩ = some (.int .i64 ((rd_T64 l0_1 x8_1).f0)) ∧ w'.cell? ⟨gb692, 1, none⟩ = some (.int .i64 ((rd_T64 l0_1 x8_1).f1)) ∧ w'.cell? ⟨gb692, 2, none⟩ = some (.int .i64 ((rd_T64 l0_1 x8_1).f2.f0)) ∧ w'.cell? ⟨gb692, 3, none⟩ = some (.int .i64 ((rd_T64 l0_1 x8_1).f2.f1)) ∧ w'.cell? ⟨gb692, 4, none⟩ = some (.int .i64 ((rd_T64 l0_1 x8_1).f2.f2)) ∧ w'.cell? ⟨gb692, 5, none⟩ = some (.int .i64 ((rd_T64 l0_1 x8_1).f2.f3)) ∧ w'.cell? ⟨gb692, 6, none⟩ = some (.int .i64 ((rd_T64 l0_1 x8_1).f2.f4)) ∧ w'.cell? ⟨gb692, 7, none⟩ = some (.int .i64 ((rd_T64 l0_1 x8_1).f2.f5)) ∧ w'.cell? ⟨gb692, 8, none⟩ = some (.int .i64 ((rd_T64 l0_1 x8_1).f2.f6)) ∧ w'.cell? ⟨gb692, 9, none⟩ = some (.int .i64 ((rd_T64 l0_1 x8_1).f2.f7)) ∧ w'.cell? ⟨gb692, 10, none⟩ = some (.int .i64 ((rd_T64 l0_1 x8_1).f2.f8)) ∧ w'.cell? ⟨gb692, 11, none⟩ = some (.int .i64 ((rd_T64 l0_1 x8_1).f2.f9)) ∧ w'.cell? ⟨gb690, 0, none⟩ = some (.int .i64 a0_0) ∧ w'.cell? ⟨gb690, 1, none⟩ = some (.slice (some ad691) l0_1.length c0_1)) (ds := []) #[false, false, false, false, false, false, false, false, false, false, false, false, false, false, false, false, false, false, false, false, false, false, false, false, false, false] (by kernel_rfl) rfl rfl ⟨(blk_cell BK692.out 0).trans rfl, (blk_cell BK692.out 1).trans rfl, (blk_cell BK692.out 2).trans rfl, (blk_cell BK692.out 3).trans rfl, (blk_cell BK692.out 4).trans rfl, (blk_cell BK692.out 5).trans rfl, (blk_cell BK692.out 6).trans rfl, (blk_cell BK692.out 7).trans rfl, (blk_cell BK692.out 8).trans rfl, (blk_cell BK692.out 9).trans rfl, (blk_cell BK692.out 10).trans rfl, (blk_cell BK692.out 11).trans rfl, (blk_cell BK690.out 0).trans rfl, (blk_cell BK690.out 1).trans rfl⟩ (fun hHeld => ?_); refine with_tabW impl_SynVoterOk.tab4 impl_SynVoterOk.bits4 (fun HT_ HW_ => ?_)
        generalize w13.drew = w14 at BK690 BK692 HB hHeld ⊢
        refine take_ (i := 0) (N := some 13) (v := ?_) (a' := ?_) #[true, false, false, false, false, false, false, false, false, false, false, false, false, false, false, false, false, false, false, false, false, false, false, false, false, false] rfl rfl (take_ofW HT_.out HW_.out (by kernel_rfl)) (fun _ _ _ h => h) (Or.inl ⟨by rfl, ?_⟩) hHeld ?_ ?_
        rotate_left
        ·rintro w' ⟨s0, s1, s2, s3, s4, s5, s6, s7, s8, s9, s10, s11, s12, s13⟩
         go_simp
         with_reducible rfl
        rotate_left
        ·simp only [Act.put, List.setIfInBounds_toArray, List.set_cons_zero, List.set_cons_succ, i64_w, i32_w]
         rfl
        refine one_ (i := 1) (N := some 14) #[true, true, false, false, false, false, false, false, false, false, false, false, false, false, false, false, false, false, false, false, false, false, false, false, false, false] rfl rfl (one_of HT_.out (by kernel_rfl)) (by decide) (fun K hK => ?_)
        refine goes_ Try.func88 (by kernel_rfl) rfl #[.agg #[.int .i64 ((rd_T64 l0_1 x8_1).f0), .int .i64 ((rd_T64 l0_1 x8_1).f1), .int .i64 ((rd_T64 l0_1 x8_1).f2.f0), .int .i64 ((rd_T64 l0_1 x8_1).f2.f1), .int .i64 ((rd_T64 l0_1 x8_1).f2.f2), .int .i64 ((rd_T64 l0_1 x8_1).f2.f3), .int .i64 ((rd_T64 l0_1 x8_1).f2.f4), .int .i64 ((rd_T64 l0_1 x8_1).f2.f5), .int .i64 ((rd_T64 l0_1 x8_1).f2.f6), .int .i64 ((rd_T64 l0_1 x8_1).f2.f7), .int .i64 ((rd_T64 l0_1 x8_1).f2.f8), .int .i64 ((rd_T64 l0_1 x8_1).f2.f9)]] (by rfl) rfl rfl bM ?_
        with_reducible refine (impl_paperOk.calls k1 ((rd_T64 l0_1 x8_1).f0) ((rd_T64 l0_1 x8_1).f1) ((rd_T64 l0_1 x8_1).f2.f0) ((rd_T64 l0_1 x8_1).f2.f1) ((rd_T64 l0_1 x8_1).f2.f2) ((rd_T64 l0_1 x8_1).f2.f3) ((rd_T64 l0_1 x8_1).f2.f4) ((rd_T64 l0_1 x8_1).f2.f5) ((rd_T64 l0_1 x8_1).f2.f6) ((rd_T64 l0_1 x8_1).f2.f7) ((rd_T64 l0_1 x8_1).f2.f8) ((rd_T64 l0_1 x8_1).f2.f9) true _ A7.out).mono ?_
        rintro e w15 ⟨rfl, hb⟩
        refine ⟨_, rfl, ?_⟩
        have n0_ := Aside0.mk (blk_below (pK BK690.out) hb)
        have n1_ := Aside0.mk (blk_below (pK BK692.out) hb)
        have n2_ := Aside0.mk (below_step (pS HB.out) hb)
        clear BK690
        clear BK692
        clear HB
        have BK690 := n0_
        have BK692 := n1_
        have HB := n2_
        clear n0_ n1_ n2_
        (try clear hb)
        (try clear hb2)
        (try clear hk)
        (try clear hi)
        refine hK.out _ _ ⟨(blk_cell BK692.out 0).trans rfl, (blk_cell BK692.out 1).trans rfl, (blk_cell BK692.out 2).trans rfl, (blk_cell BK692.out 3).trans rfl, (blk_cell BK692.out 4).trans rfl, (blk_cell BK692.out 5).trans rfl, (blk_cell BK692.out 6).trans rfl, (blk_cell BK692.out 7).trans rfl, (blk_cell BK692.out 8).trans rfl, (blk_cell BK692.out 9).trans rfl, (blk_cell BK692.out 10).trans rfl, (blk_cell BK692.out 11).trans rfl, (blk_cell BK690.out 0).trans rfl, (blk_cell BK690.out 1).trans rfl⟩ (fun hHeld => ?_)
        clear hK K
        refine norm_ (a' := ?_) ?_ ?_
        rotate_left
        ·show Act.put _ (some 14) _ = _
         simp only [Act.put, List.setIfInBounds_toArray, List.set_cons_zero, List.set_cons_succ, i64_w, i32_w]
         rfl
        refine pure_ (i := 2) (N := some 15) (v := ?_) (a' := ?_) #[true, true, true, false, false, false, false, false, false, false, false, false, false, false, false, false, false, false, false, false, false, false, false, false, false, false] rfl rfl (any_of HT_.out (by kernel_rfl)) (fun _ _ _ h => h) (Or.inl ⟨by rfl, ?_⟩) ?_ ?_
        rotate_left
        ·intro w'
         go_simp
         with_reducible rfl
        rotate_left
        ·simp only [Act.put, List.setIfInBounds_toArray, List.set_cons_zero, List.set_cons_succ, i64_w, i32_w]
         rfl
        refine pure_ (i := 3) (N := some 16) (v := ?_) (a' := ?_) #[true, true, true, true, false, false, false, false, false, false, false, false, false, false, false, false, false, false, false, false, false, false, false, false, false, false] rfl rfl (any_of HT_.out (by kernel_rfl)) (fun _ _ _ h => h) (Or.inl ⟨by rfl, ?_⟩) ?_ ?_
        rotate_left
        ·intro w'
         go_simp
         with_reducible rfl
        rotate_left
        ·simp only [Act.put, List.setIfInBounds_toArray, List.set_cons_zero, List.set_cons_succ, i64_w, i32_w]
         rfl
        refine pure_ (i := 4) (N := some 17) (v := ?_) (a' := ?_) #[true, true, true, true, true, false, false, false, false, false, false, false, false, false, false, false, false, false, false, false, false, false, false, false, false, false] rfl rfl (any_of HT_.out (by kernel_rfl)) (fun _ _ _ h => h) (Or.inl ⟨by rfl, ?_⟩) ?_ ?_
        rotate_left
        ·intro w'
         go_simp
         with_reducible rfl
        rotate_left
        ·simp only [Act.put, List.setIfInBounds_toArray, List.set_cons_zero, List.set_cons_succ, i64_w, i32_w]
         rfl
        refine pure_ (i := 6) (N := some 19) (v := ?_) (a' := ?_) #[true, true, true, true, true, false, true, false, false, false, false, false, false, false, false, false, false, false, false, false, false, false, false, false, false, false] rfl rfl (any_of HT_.out (by kernel_rfl)) (fun _ _ _ h => h) (Or.inl ⟨by rfl, ?_⟩) ?_ ?_
        rotate_left
        ·intro w'
         go_simp
         with_reducible rfl
        rotate_left
        ·simp only [Act.put, List.setIfInBounds_toArray, List.set_cons_zero, List.set_cons_succ, i64_w, i32_w]
         rfl
        refine take_ (i := 5) (N := some 18) (v := ?_) (a' := ?_) #[true, true, true, true, true, true, true, false, false, false, false, false, false, false, false, false, false, false, false, false, false, false, false, false, false, false] rfl rfl (take_ofW HT_.out HW_.out (by kernel_rfl)) (fun _ _ _ h => h) (Or.inl ⟨by rfl, ?_⟩) hHeld ?_ ?_
        rotate_left
        ·rintro w' ⟨s0, s1, s2, s3, s4, s5, s6, s7, s8, s9, s10, s11, s12, s13⟩
         go_simp
         with_reducible rfl
        rotate_left
        ·simp only [Act.put, List.setIfInBounds_toArray, List.set_cons_zero, List.set_cons_succ, i64_w, i32_w]
         rfl
        refine take_ (i := 7) (N := some 20) (v := ?_) (a' := ?_) #[true, true, true, true, true, true, true, true, false, false, false, false, false, false, false, false, false, false, false, false, false, false, false, false, false, false] rfl rfl (take_ofW HT_.out HW_.out (by kernel_rfl)) (fun _ _ _ h => h) (Or.inl ⟨by rfl, ?_⟩) hHeld ?_ ?_
        rotate_left
        ·rintro w' ⟨s0, s1, s2, s3, s4, s5, s6, s7, s8, s9, s10, s11, s12, s13⟩
         go_simp
         with_reducible rfl
        rotate_left
        ·simp only [Act.put, List.setIfInBounds_toArray, List.set_cons_zero, List.set_cons_succ, i64_w, i32_w]
         rfl
        refine pure_ (i := 8) (N := some 21) (v := ?_) (a' := ?_) #[true, true, true, true, true, true, true, true, true, false, false, false, false, false, false, false, false, false, false, false, false, false, false, false, false, false] rfl rfl (any_of HT_.out (by kernel_rfl)) (fun _ _ _ h => h) (Or.inl ⟨by rfl, ?_⟩) ?_ ?_
        rotate_left
        ·intro w'
         go_simp
         with_reducible rfl
        rotate_left
        ·simp only [Act.put, List.setIfInBounds_toArray, List.set_cons_zero, List.set_cons_succ, i64_w, i32_w]
         rfl
        refine pure_ (i := 9) (N := some 22) (v := ?_) (a' := ?_) #[true, true, true, true, true, true, true, true, true, true, false, false, false, false, false, false, false, false, false, false, false, false, false, false, false, false] rfl rfl (any_of HT_.out (by kernel_rfl)) (fun _ _ _ h => h) (Or.inl ⟨by rfl, ?_⟩) ?_ ?_
        rotate_left
        ·intro w'
         go_simp
         with_reducible rfl
        rotate_left
        ·simp only [Act.put, List.setIfInBounds_toArray, List.set_cons_zero, List.set_cons_succ, i64_w, i32_w]
         rfl
        refine pure_ (i := 10) (N := some 23) (v := ?_) (a' := ?_) #[true, true, true, true, true, true, true, true, true, true, true, false, false, false, false, false, false, false, false, false, false, false, false, false, false, false] rfl rfl (any_of HT_.out (by kernel_rfl)) (fun _ _ _ h => h) (Or.inl ⟨by rfl, ?_⟩) ?_ ?_
        rotate_left
        ·intro w'
         go_simp
         with_reducible rfl
        rotate_left
        ·simp only [Act.put, List.setIfInBounds_toArray, List.set_cons_zero, List.set_cons_succ, i64_w, i32_w]
         rfl
        refine pure_ (i := 11) (N := some 24) (v := undef) (a' := ?_) #[true, true, true, true, true, true, true, true, true, true, true, true, false, false, false, false, false, false, false, false, false, false, false, false, false, false] rfl rfl (any_of HT_.out (by kernel_rfl)) (fun _ _ _ h => h) (Or.inr ⟨by rfl, rfl⟩) ?_ ?_
        rotate_left
        ·simp only [Act.put, List.setIfInBounds_toArray, List.set_cons_zero, List.set_cons_succ, i64_w, i32_w]
         rfl
        refine pure_ (i := 12) (N := some 25) (v := undef) (a' := ?_) #[true, true, true, true, true, true, true, true, true, true, true, true, true, false, false, false, false, false, false, false, false, false, false, false, false, false] rfl rfl (any_of HT_.out (by kernel_rfl)) (fun _ _ _ h => h) (Or.inr ⟨by rfl, rfl⟩) ?_ ?_
        rotate_left
        ·simp only [Act.put, List.setIfInBounds_toArray, List.set_cons_zero, List.set_cons_succ, i64_w, i32_w]
         rfl
        refine pure_ (i := 13) (N := some 26) (v := undef) (a' := ?_) #[true, true, true, true, true, true, true, true, true, true, true, true, true, true, false, false, false, false, false, false, false, false, false, false, false, false] rfl rfl (any_of HT_.out (by kernel_rfl)) (fun _ _ _ h => h) (Or.inr ⟨by rfl, rfl⟩) ?_ ?_
        rotate_left
        ·simp only [Act.put, List.setIfInBounds_toArray, List.set_cons_zero, List.set_cons_succ, i64_w, i32_w]
         rfl
        refine pure_ (i := 14) (N := some 27) (v := undef) (a' := ?_) #[true, true, true, true, true, true, true, true, true, true, true, true, true, true, true, false, false, false, false, false, false, false, false, false, false, false] rfl rfl (any_of HT_.out (by kernel_rfl)) (fun _ _ _ h => h) (Or.inr ⟨by rfl, rfl⟩) ?_ ?_
        rotate_left
        ·simp only [Act.put, List.setIfInBounds_toArray, List.set_cons_zero, List.set_cons_succ, i64_w, i32_w]
         rfl
        refine pure_ (i := 15) (N := some 28) (v := undef) (a' := ?_) #[true, true, true, true, true, true, true, true, true, true, true, true, true, true, true, true, false, false, false, false, false, false, false, false, false, false] rfl rfl (any_of HT_.out (by kernel_rfl)) (fun _ _ _ h => h) (Or.inr ⟨by rfl, rfl⟩) ?_ ?_
        rotate_left
        ·simp only [Act.put, List.setIfInBounds_toArray, List.set_cons_zero, List.set_cons_succ, i64_w, i32_w]
         rfl
        refine pure_ (i := 16) (N := some 29) (v := undef) (a' := ?_) #[true, true, true, true, true, true, true, true, true, true, true, true, true, true, true, true, true, false, false, false, false, false, false, false, false, false] rfl rfl (any_of HT_.out (by kernel_rfl)) (fun _ _ _ h => h) (Or.inr ⟨by rfl, rfl⟩) ?_ ?_
        rotate_left
        ·simp only [Act.put, List.setIfInBounds_toArray, List.set_cons_zero, List.set_cons_succ, i64_w, i32_w]
         rfl
        refine pure_ (i := 17) (N := some 30) (v := undef) (a' := ?_) #[true, true, true, true, true, true, true, true, true, true, true, true, true, true, true, true, true, true, false, false, false, false, false, false, false, false] rfl rfl (any_of HT_.out (by kernel_rfl)) (fun _ _ _ h => h) (Or.inr ⟨by rfl, rfl⟩) ?_ ?_
        rotate_left
        ·simp only [Act.put, List.setIfInBounds_toArray, List.set_cons_zero, List.set_cons_succ, i64_w, i32_w]
         rfl
        refine pure_ (i := 18) (N := some 31) (v := undef) (a' := ?_) #[true, true, true, true, true, true, true, true, true, true, true, true, true, true, true, true, true, true, true, false, false, false, false, false, false, false] rfl rfl (any_of HT_.out (by kernel_rfl)) (fun _ _ _ h => h) (Or.inr ⟨by rfl, rfl⟩) ?_ ?_
        rotate_left
        ·simp only [Act.put, List.setIfInBounds_toArray, List.set_cons_zero, List.set_cons_succ, i64_w, i32_w]
         rfl
        refine pure_ (i := 19) (N := some 32) (v := undef) (a' := ?_) #[true, true, true, true, true, true, true, true, true, true, true, true, true, true, true, true, true, true, true, true, false, false, false, false, false, false] rfl rfl (any_of HT_.out (by kernel_rfl)) (fun _ _ _ h => h) (Or.inr ⟨by rfl, rfl⟩) ?_ ?_
        rotate_left
        ·simp only [Act.put, List.setIfInBounds_toArray, List.set_cons_zero, List.set_cons_succ, i64_w, i32_w]
         rfl
        refine pure_ (i := 20) (N := some 33) (v := undef) (a' := ?_) #[true, true, true, true, true, true, true, true, true, true, true, true, true, true, true, true, true, true, true, true, true, false, false, false, false, false] rfl rfl (any_of HT_.out (by kernel_rfl)) (fun _ _ _ h => h) (Or.inr ⟨by rfl, rfl⟩) ?_ ?_
        rotate_left
        ·simp only [Act.put, List.setIfInBounds_toArray, List.set_cons_zero, List.set_cons_succ, i64_w, i32_w]
         rfl
        refine pure_ (i := 21) (N := some 34) (v := undef) (a' := ?_) #[true, true, true, true, true, true, true, true, true, true, true, true, true, true, true, true, true, true, true, true, true, true, false, false, false, false] rfl rfl (any_of HT_.out (by kernel_rfl)) (fun _ _ _ h => h) (Or.inr ⟨by rfl, rfl⟩) ?_ ?_
        rotate_left
        ·simp only [Act.put, List.setIfInBounds_toArray, List.set_cons_zero, List.set_cons_succ, i64_w, i32_w]
         rfl
        refine pure_ (i := 22) (N := some 35) (v := undef) (a' := ?_) #[true, true, true, true, true, true, true, true, true, true, true, true, true, true, true, true, true, true, true, true, true, true, true, false, false, false] rfl rfl (any_of HT_.out (by kernel_rfl)) (fun _ _ _ h => h) (Or.inr ⟨by rfl, rfl⟩) ?_ ?_
        rotate_left
        ·simp only [Act.put, List.setIfInBounds_toArray, List.set_cons_zero, List.set_cons_succ, i64_w, i32_w]
         rfl
        refine pure_ (i := 23) (N := some 36) (v := undef) (a' := ?_) #[true, true, true, true, true, true, true, true, true, true, true, true, true, true, true, true, true, true, true, true, true, true, true, true, false, false] rfl rfl (any_of HT_.out (by kernel_rfl)) (fun _ _ _ h => h) (Or.inr ⟨by rfl, rfl⟩) ?_ ?_
        rotate_left
        ·simp only [Act.put, List.setIfInBounds_toArray, List.set_cons_zero, List.set_cons_succ, i64_w, i32_w]
         rfl
        refine pure_ (i := 24) (N := some 37) (v := undef) (a' := ?_) #[true, true, true, true, true, true, true, true, true, true, true, true, true, true, true, true, true, true, true, true, true, true, true, true, true, false] rfl rfl (any_of HT_.out (by kernel_rfl)) (fun _ _ _ h => h) (Or.inr ⟨by rfl, rfl⟩) ?_ ?_
        rotate_left
        ·simp only [Act.put, List.setIfInBounds_toArray, List.set_cons_zero, List.set_cons_succ, i64_w, i32_w]
         rfl
        refine pure_ (i := 25) (N := some 38) (v := ?_) (a' := ?_) #[true, true, true, true, true, true, true, true, true, true, true, true, true, true, true, true, true, true, true, true, true, true, true, true, true, true] rfl rfl (any_of HT_.out (by kernel_rfl)) (fun _ _ _ h => h) (Or.inl ⟨by rfl, ?_⟩) ?_ ?_
        rotate_left
        ·intro w'
         go_simp
         with_reducible rfl
        rotate_left
        ·simp only [Act.put, List.setIfInBounds_toArray, List.set_cons_zero, List.set_cons_succ, i64_w, i32_w]
         rfl
        refine done_ (done_of HT_.out (by kernel_rfl)) ?_
        try go_wp2
        go_ret
        exact ⟨by first | rfl | (simp [errW_none, errW_some] <;> rfl) | (simp [*, errW_none, errW_some] <;> rfl), pS HB.out⟩
       ·rw [if_neg c9] at H
        have c9b0 : decide (a0_0 < ((rd_T64 l0_1 x8_1).f1)) = false := decide_eq_false c9
        clear c9
        by_cases c16 : x8_1 > 0
        ·rw [if_pos c16] at H
         have c16b0 : decide (0 < x8_1) = true := decide_eq_true c16
         clear c16
         obtain ⟨ji17, hji17⟩ : ∃ j_ : Int, (wrap64 (x8_1 - 1)) = j_ := ⟨_, rfl⟩
         replace H : (if 0 ≤ (ji17) then (if (ji17) < (l0_1.length : Int) then (if ((rd_T64 l0_1 (ji17)).f0) ≥ ((rd_T64 l0_1 x8_1).f0) then (some false) else (impl_SynVoterOk.l0 k1 l0_1 (l0_1.length : Int) (wrap64 (x8_1 + 1)) a0_0 l0_1)) else (none)) else (none)) = some r := by first | (rw [hji17] at H; exact H) | (simp only [hji17] at H ⊢; exact H)
         (try rw [hji17] at A7)
         have hji17w : (IntKind.i64.wrap (x8_1 - 1)) = ji17 := (i64_w _).trans hji17
         by_cases c18 : 0 ≤ (ji17)
         ·rw [if_pos c18] at H
          have c18b0 : decide (0 ≤ (ji17)) = true := decide_eq_true c18
          clear c18
          by_cases c19 : (ji17) < (l0_1.length : Int)
          ·rw [if_pos c19] at H
           have c19b0 : decide ((ji17) < (l0_1.length : Int)) = true := decide_eq_true c19
           clear c19
           by_cases c20 : ((rd_T64 l0_1 (ji17)).f0) ≥ ((rd_T64 l0_1 x8_1).f0)
           ·rw [if_pos c20] at H
            have c20b0 : decide (((rd_T64 l0_1 x8_1).f0) ≤ ((rd_T64 l0_1 (ji17)).f0)) = true := decide_eq_true c20
            clear c20
            obtain rfl := Option.some.inj H
            have p691 : 0 ≤ (x8_1 : Int) := of_decide_eq_true bA
            have q691 : x8_1 < (l0_1.length : Int) := of_decide_eq_true bA
            obtain ⟨ad691, e691, hx691_0, hx691_1, hx691_2, hx691_3, hx691_4, hx691_5, hx691_6, hx691_7, hx691_8, hx691_9, hx691_10, hx691_11⟩ := at_T64 HR0_1.out x8_1 p691 q691
            cases e691
            replace hx691_0 := (HB.out.cell (World.block_lt_of_cell? w _ hx691_0)).trans hx691_0
            replace hx691_1 := (HB.out.cell (World.block_lt_of_cell? w _ hx691_1)).trans hx691_1
            replace hx691_2 := (HB.out.cell (World.block_lt_of_cell? w _ hx691_2)).trans hx691_2
            replace hx691_3 := (HB.out.cell (World.block_lt_of_cell? w _ hx691_3)).trans hx691_3
            replace hx691_4 := (HB.out.cell (World.block_lt_of_cell? w _ hx691_4)).trans hx691_4
            replace hx691_5 := (HB.out.cell (World.block_lt_of_cell? w _ hx691_5)).trans hx691_5
            replace hx691_6 := (HB.out.cell (World.block_lt_of_cell? w _ hx691_6)).trans hx691_6
            replace hx691_7 := (HB.out.cell (World.block_lt_of_cell? w _ hx691_7)).trans hx691_7
            replace hx691_8 := (HB.out.cell (World.block_lt_of_cell? w _ hx691_8)).trans hx691_8
            replace hx691_9 := (HB.out.cell (World.block_lt_of_cell? w _ hx691_9)).trans hx691_9
            replace hx691_10 := (HB.out.cell (World.block_lt_of_cell? w _ hx691_10)).trans hx691_10
            replace hx691_11 := (HB.out.cell (World.block_lt_of_cell? w _ hx691_11)).trans hx691_11
            replace p691 := eq_true p691
            replace q691 := eq_true q691
            try go_wp2_with (first | ((with_reducible refine gate_dst (N := 4) rfl ?_); (try (refine gate_guard (by rfl) ?_; dsimp only)); refine box_event ?hg (N := 4) ?hd (cs := #[.int .i64 0, .int .i64 0, .int .i64 0, .int .i64 0, .int .i64 0, .int .i64 0, .int .i64 0, .int .i64 0, .int .i64 0, .int .i64 0, .int .i64 0, .int .i64 0]) (t := 64) ?hr ?_; (case hd => rfl); (case hg => rfl); (case hr => first | (go_simp; done) | (go_simp; rfl)); intro gb692 hg w21 hbox hb; have n0_ := Aside0.mk (blk_below (pK BK690.out) hb); have n1_ := Aside0.mk (below_step (pS HB.out) hb); have n2_ := Aside0.mk (hbox); have n3_ := Aside0.mk ((by rw [hg]; exact (below_size (pS HB.out)) : w.heap.size ≤ gb692)); have n4_ := Aside0.mk ((by rw [hg]; exact (below_size (pS HB.out)) : w.heap.size ≤ gb692)); have n5_ := Aside0.mk ((by rw [hg]; exact Nat.ne_of_lt (blk_lt (pK BK690.out)) : gb690 ≠ gb692)); have n6_ := Aside0.mk ((by rw [hg]; exact Nat.ne_of_gt (blk_lt (pK BK690.out)) : gb692 ≠ gb690)); clear BK690; clear HB; have BK690 := n0_; have HB := n1_; have BK692 := n2_; have GW692 := n3_; have GE692 := n4_; have NB690_692 := n5_; have NB692_690 := n6_; clear n0_ n1_ n2_ n3_ n4_ n5_ n6_; clear hb hbox hg; have hnb22 := NB692_690.out; have hnc22 := NB690_692.out; have hcz23_0 : w21.cell? ⟨gb692, 0, none⟩ = some (.int .i64 0) := (blk_cell BK692.out 0).trans rfl; have hcz23_1 : w21.cell? ⟨gb692, 1, none⟩ = some (.int .i64 0) := (blk_cell BK692.out 1).trans rfl; have hcz23_2 : w21.cell? ⟨gb692, 2, none⟩ = some (.int .i64 0) := (blk_cell BK692.out 2).trans rfl; have hcz23_3 : w21.cell? ⟨gb692, 3, none⟩ = some (.int .i64 0) := (blk_cell BK692.out 3).trans rfl; have hcz23_4 : w21.cell? ⟨gb692, 4, none⟩ = some (.int .i64 0) := (blk_cell BK692.out 4).trans rfl; have hcz23_5 : w21.cell? ⟨gb692, 5, none⟩ = some (.int .i64 0) := (blk_cell BK692.out 5).trans rfl; have hcz23_6 : w21.cell? ⟨gb692, 6, none⟩ = some (.int .i64 0) := (blk_cell BK692.out 6).trans rfl; have hcz23_7 : w21.cell? ⟨gb692, 7, none⟩ = some (.int .i64 0) := (blk_cell BK692.out 7).trans rfl; have hcz23_8 : w21.cell? ⟨gb692, 8, none⟩ = some (.int .i64 0) := (blk_cell BK692.out 8).trans rfl; have hcz23_9 : w21.cell? ⟨gb692, 9, none⟩ = some (.int .i64 0) := (blk_cell BK692.out 9).trans rfl; have hcz23_10 : w21.cell? ⟨gb692, 10, none⟩ = some (.int .i64 0) := (blk_cell BK692.out 10).trans rfl; have hcz23_11 : w21.cell? ⟨gb692, 11, none⟩ = some (.int .i64 0) := (blk_cell BK692.out 11).trans rfl; have hfz23_0 := blk_frozen BK692.out 0; have hfz23_1 := blk_frozen BK692.out 1; have hfz23_2 := blk_frozen BK692.out 2; have hfz23_3 := blk_frozen BK692.out 3; have hfz23_4 := blk_frozen BK692.out 4; have hfz23_5 := blk_frozen BK692.out 5; have hfz23_6 := blk_frozen BK692.out 6; have hfz23_7 := blk_frozen BK692.out 7; have hfz23_8 := blk_frozen BK692.out 8; have hfz23_9 := blk_frozen BK692.out 9; have hfz23_10 := blk_frozen BK692.out 10; have hfz23_11 := blk_frozen BK692.out 11))
            have n0_ : Aside0 (((((((((((((w21.setCell ⟨gb692, 0, none⟩ (.int .i64 ((rd_T64 l0_1 x8_1).f0))).setCell ⟨gb692, 1, none⟩ (.int .i64 ((rd_T64 l0_1 x8_1).f1))).setCell ⟨gb692, 2, none⟩ (.int .i64 ((rd_T64 l0_1 x8_1).f2.f0))).setCell ⟨gb692, 3, none⟩ (.int .i64 ((rd_T64 l0_1 x8_1).f2.f1))).setCell ⟨gb692, 4, none⟩ (.int .i64 ((rd_T64 l0_1 x8_1).f2.f2))).setCell ⟨gb692, 5, none⟩ (.int .i64 ((rd_T64 l0_1 x8_1).f2.f3))).setCell ⟨gb692, 6, none⟩ (.int .i64 ((rd_T64 l0_1 x8_1).f2.f4))).setCell ⟨gb692, 7, none⟩ (.int .i64 ((rd_T64 l0_1 x8_1).f2.f5))).setCell ⟨gb692, 8, none⟩ (.int .i64 ((rd_T64 l0_1 x8_1).f2.f6))).setCell ⟨gb692, 9, none⟩ (.int .i64 ((rd_T64 l0_1 x8_1).f2.f7))).setCell ⟨gb692, 10, none⟩ (.int .i64 ((rd_T64 l0_1 x8_1).f2.f8))).setCell ⟨gb692, 11, none⟩ (.int .i64 ((rd_T64 l0_1 x8_1).f2.f9))).heap[gb690]? = some (.cells #[.int .i64 a0_0, .slice (some ad691) l0_1.length c0_1] 52 (0, 0))) := ⟨by (with_reducible repeat (first | refine blk_drewN ?_ _ | refine blk_drew ?_ | refine blk_alloc ?_ _)); refine blk_far ?_ NB690_692.out _; (with_reducible repeat (first | refine blk_drewN ?_ _ | refine blk_drew ?_ | refine blk_alloc ?_ _)); refine blk_far ?_ NB690_692.out _; (with_reducible repeat (first | refine blk_drewN ?_ _ | refine blk_drew ?_ | refine blk_alloc ?_ _)); refine blk_far ?_ NB690_692.out _; (with_reducible repeat (first | refine blk_drewN ?_ _ | refine blk_drew ?_ | refine blk_alloc ?_ _)); refine blk_far ?_ NB690_692.out _; (with_reducible repeat (first | refine blk_drewN ?_ _ | refine blk_drew ?_ | refine blk_alloc ?_ _)); refine blk_far ?_ NB690_692.out _; (with_reducible repeat (first | refine blk_drewN ?_ _ | refine blk_drew ?_ | refine blk_alloc ?_ _)); refine blk_far ?_ NB690_692.out _; (with_reducible repeat (first | refine blk_drewN ?_ _ | refine blk_drew ?_ | refine blk_alloc ?_ _)); refine blk_far ?_ NB690_692.out _; (with_reducible repeat (first | refine blk_drewN ?_ _ | refine blk_drew ?_ | refine blk_alloc ?_ _)); refine blk_far ?_ NB690_692.out _; (with_reducible repeat (first | refine blk_drewN ?_ _ | refine blk_drew ?_ | refine blk_alloc ?_ _)); refine blk_far ?_ NB690_692.out _; (with_reducible repeat (first | refine blk_drewN ?_ _ | refine blk_drew ?_ | refine blk_alloc ?_ _)); refine blk_far ?_ NB690_692.out _; (with_reducible repeat (first | refine blk_drewN ?_ _ | refine blk_drew ?_ | refine blk_alloc ?_ _)); refine blk_far ?_ NB690_692.out _; (with_reducible repeat (first | refine blk_drewN ?_ _ | refine blk_drew ?_ | refine blk_alloc ?_ _)); refine blk_far ?_ NB690_692.out _; (with_reducible repeat (first | refine blk_drewN ?_ _ | refine blk_drew ?_ | refine blk_alloc ?_ _)); exact BK690.out⟩
            have n1_ : Aside0 (((((((((((((w21.setCell ⟨gb692, 0, none⟩ (.int .i64 ((rd_T64 l0_1 x8_1).f0))).setCell ⟨gb692, 1, none⟩ (.int .i64 ((rd_T64 l0_1 x8_1).f1))).setCell ⟨gb692, 2, none⟩ (.int .i64 ((rd_T64 l0_1 x8_1).f2.f0))).setCell ⟨gb692, 3, none⟩ (.int .i64 ((rd_T64 l0_1 x8_1).f2.f1))).setCell ⟨gb692, 4, none⟩ (.int .i64 ((rd_T64 l0_1 x8_1).f2.f2))).setCell ⟨gb692, 5, none⟩ (.int .i64 ((rd_T64 l0_1 x8_1).f2.f3))).setCell ⟨gb692, 6, none⟩ (.int .i64 ((rd_T64 l0_1 x8_1).f2.f4))).setCell ⟨gb692, 7, none⟩ (.int .i64 ((rd_T64 l0_1 x8_1).f2.f5))).setCell ⟨gb692, 8, none⟩ (.int .i64 ((rd_T64 l0_1 x8_1).f2.f6))).setCell ⟨gb692, 9, none⟩ (.int .i64 ((rd_T64 l0_1 x8_1).f2.f7))).setCell ⟨gb692, 10, none⟩ (.int .i64 ((rd_T64 l0_1 x8_1).f2.f8))).setCell ⟨gb692, 11, none⟩ (.int .i64 ((rd_T64 l0_1 x8_1).f2.f9))).heap[gb692]? = some (.cells #[.int .i64 ((rd_T64 l0_1 x8_1).f0), .int .i64 ((rd_T64 l0_1 x8_1).f1), .int .i64 ((rd_T64 l0_1 x8_1).f2.f0), .int .i64 ((rd_T64 l0_1 x8_1).f2.f1), .int .i64 ((rd_T64 l0_1 x8_1).f2.f2), .int .i64 ((rd_T64 l0_1 x8_1).f2.f3), .int .i64 ((rd_T64 l0_1 x8_1).f2.f4), .int .i64 ((rd_T64 l0_1 x8_1).f2.f5), .int .i64 ((rd_T64 l0_1 x8_1).f2.f6), .int .i64 ((rd_T64 l0_1 x8_1).f2.f7), .int .i64 ((rd_T64 l0_1 x8_1).f2.f8), .int .i64 ((rd_T64 l0_1 x8_1).f2.f9)] 64 (0, 0))) := ⟨by (with_reducible repeat (first | refine blk_drewN ?_ _ | refine blk_drew ?_ | refine blk_alloc ?_ _)); refine blk_put (cs := #[.int .i64 ((rd_T64 l0_1 x8_1).f0), .int .i64 ((rd_T64 l0_1 x8_1).f1), .int .i64 ((rd_T64 l0_1 x8_1).f2.f0), .int .i64 ((rd_T64 l0_1 x8_1).f2.f1), .int .i64 ((rd_T64 l0_1 x8_1).f2.f2), .int .i64 ((rd_T64 l0_1 x8_1).f2.f3), .int .i64 ((rd_T64 l0_1 x8_1).f2.f4), .int .i64 ((rd_T64 l0_1 x8_1).f2.f5), .int .i64 ((rd_T64 l0_1 x8_1).f2.f6), .int .i64 ((rd_T64 l0_1 x8_1).f2.f7), .int .i64 ((rd_T64 l0_1 x8_1).f2.f8), .int .i64 0]) ?_ 11 _ rfl; (with_reducible repeat (first | refine blk_drewN ?_ _ | refine blk_drew ?_ | refine blk_alloc ?_ _)); refine blk_put (cs := #[.int .i64 ((rd_T64 l0_1 x8_1).f0), .int .i64 ((rd_T64 l0_1 x8_1).f1), .int .i64 ((rd_T64 l0_1 x8_1).f2.f0), .int .i64 ((rd_T64 l0_1 x8_1).f2.f1), .int .i64 ((rd_T64 l0_1 x8_1).f2.f2), .int .i64 ((rd_T64 l0_1 x8_1).f2.f3), .int .i64 ((rd_T64 l0_1 x8_1).f2.f4), .int .i64 ((rd_T64 l0_1 x8_1).f2.f5), .int .i64 ((rd_T64 l0_1 x8_1).f2.f6), .int .i64 ((rd_T64 l0_1 x8_1).f2.f7), .int .i64 0, .int .i64 0]) ?_ 10 _ rfl; (with_reducible repeat (first | refine blk_drewN ?_ _ | refine blk_drew ?_ | refine blk_alloc ?_ _)); refine blk_put (cs := #[.int .i64 ((rd_T64 l0_1 x8_1).f0), .int .i64 ((rd_T64 l0_1 x8_1).f1), .int .i64 ((rd_T64 l0_1 x8_1).f2.f0), .int .i64 ((rd_T64 l0_1 x8_1).f2.f1), .int .i64 ((rd_T64 l0_1 x8_1).f2.f2), .int .i64 ((rd_T64 l0_1 x8_1).f2.f3), .int .i64 ((rd_T64 l0_1 x8_1).f2.f4), .int .i64 ((rd_T64 l0_1 x8_1).f2.f5), .int .i64 ((rd_T64 l0_1 x8_1).f2.f6), .int .i64 0, .int .i64 0, .int .i64 0]) ?_ 9 _ rfl; (with_reducible repeat (first | refine blk_drewN ?_ _ | refine blk_drew ?_ | refine blk_alloc ?_ _)); refine blk_put (cs := #[.int .i64 ((rd_T64 l0_1 x8_1).f0), .int .i64 ((rd_T64 l0_1 x8_1).f1), .int .i64 ((rd_T64 l0_1 x8_1).f2.f0), .int .i64 ((rd_T64 l0_1 x8_1).f2.f1), .int .i64 ((rd_T64 l0_1 x8_1).f2.f2), .int .i64 ((rd_T64 l0_1 x8_1).f2.f3), .int .i64 ((rd_T64 l0_1 x8_1).f2.f4), .int .i64 ((rd_T64 l0_1 x8_1).f2.f5), .int .i64 0, .int .i64 0, .int .i64 0, .int .i64 0]) ?_ 8 _ rfl; (with_reducible repeat (first | refine blk_drewN ?_ _ | refine blk_drew ?_ | refine blk_alloc ?_ _)); refine blk_put (cs := #[.int .i64 ((rd_T64 l0_1 x8_1).f0), .int .i64 ((rd_T64 l0_1 x8_1).f1), .int .i64 ((rd_T64 l0_1 x8_1).f2.f0), .int .i64 ((rd_T64 l0_1 x8_1).f2.f1), .int .i64 ((rd_T64 l0_1 x8_1).f2.f2), .int .i64 ((rd_T64 l0_1 x8_1).f2.f3), .int .i64 ((rd_T64 l0_1 x8_1).f2.f4), .int .i64 0, .int .i64 0, .int .i64 0, .int .i64 0, .int .i64 0]) ?_ 7 _ rfl; (with_reducible repeat (first | refine blk_drewN ?_ _ | refine blk_drew ?_ | refine blk_alloc ?_ _)); refine blk_put (cs := #[.int .i64 ((rd_T64 l0_1 x8_1).f0), .int .i64 ((rd_T64 l0_1 x8_1).f1), .int .i64 ((rd_T64 l0_1 x8_1).f2.f0), .int .i64 ((rd_T64 l0_1 x8_1).f2.f1), .int .i64 ((rd_T64 l0_1 x8_1).f2.f2), .int .i64 ((rd_T64 l0_1 x8_1).f2.f3), .int .i64 0, .int .i64 0, .int .i64 0, .int .i64 0, .int .i64 0, .int .i64 0]) ?_ 6 _ rfl; (with_reducible repeat (first | refine blk_drewN ?_ _ | refine blk_drew ?_ | refine blk_alloc ?_ _)); refine blk_put (cs := #[.int .i64 ((rd_T64 l0_1 x8_1).f0), .int .i64 ((rd_T64 l0_1 x8_1).f1), .int .i64 ((rd_T64 l0_1 x8_1).f2.f0), .int .i64 ((rd_T64 l0_1 x8_1).f2.f1), .int .i64 ((rd_T64 l0_1 x8_1).f2.f2), .int .i64 0, .int .i64 0, .int .i64 0, .int .i64 0, .int .i64 0, .int .i64 0, .int .i64 0]) ?_ 5 _ rfl; (with_reducible repeat (first | refine blk_drewN ?_ _ | refine blk_drew ?_ | refine blk_alloc ?_ _)); refine blk_put (cs := #[.int .i64 ((rd_T64 l0_1 x8_1).f0), .int .i64 ((rd_T64 l0_1 x8_1).f1), .int .i64 ((rd_T64 l0_1 x8_1).f2.f0), .int .i64 ((rd_T64 l0_1 x8_1).f2.f1), .int .i64 0, .int .i64 0, .int .i64 0, .int .i64 0, .int .i64 0, .int .i64 0, .int .i64 0, .int .i64 0]) ?_ 4 _ rfl; (with_reducible repeat (first | refine blk_drewN ?_ _ | refine blk_drew ?_ | refine blk_alloc ?_ _)); refine blk_put (cs := #[.int .i64 ((rd_T64 l0_1 x8_1).f0), .int .i64 ((rd_T64 l0_1 x8_1).f1), .int .i64 ((rd_T64 l0_1 x8_1).f2.f0), .int .i64 0, .int .i64 0, .int .i64 0, .int .i64 0, .int .i64 0, .int .i64 0, .int .i64 0, .int .i64 0, .int .i64 0]) ?_ 3 _ rfl; (with_reducible repeat (first | refine blk_drewN ?_ _ | refine blk_drew ?_ | refine blk_alloc ?_ _)); refine blk_put (cs := #[.int .i64 ((rd_T64 l0_1 x8_1).f0), .int .i64 ((rd_T64 l0_1 x8_1).f1), .int .i64 0, .int .i64 0, .int .i64 0, .int .i64 0, .int .i64 0, .int .i64 0, .int .i64 0, .int .i64 0, .int .i64 0, .int .i64 0]) ?_ 2 _ rfl; (with_reducible repeat (first | refine blk_drewN ?_ _ | refine blk_drew ?_ | refine blk_alloc ?_ _)); refine blk_put (cs := #[.int .i64 ((rd_T64 l0_1 x8_1).f0), .int .i64 0, .int .i64 0, .int .i64 0, .int .i64 0, .int .i64 0, .int .i64 0, .int .i64 0, .int .i64 0, .int .i64 0, .int .i64 0, .int .i64 0]) ?_ 1 _ rfl; (with_reducible repeat (first | refine blk_drewN ?_ _ | refine blk_drew ?_ | refine blk_alloc ?_ _)); refine blk_put (cs := #[.int .i64 0, .int .i64 0, .int .i64 0, .int .i64 0, .int .i64 0, .int .i64 0, .int .i64 0, .int .i64 0, .int .i64 0, .int .i64 0, .int .i64 0, .int .i64 0]) ?_ 0 _ rfl; (with_reducible repeat (first | refine blk_drewN ?_ _ | refine blk_drew ?_ | refine blk_alloc ?_ _)); exact BK692.out⟩
            have n2_ : Aside0 (Below w.heap.size w ((((((((((((w21.setCell ⟨gb692, 0, none⟩ (.int .i64 ((rd_T64 l0_1 x8_1).f0))).setCell ⟨gb692, 1, none⟩ (.int .i64 ((rd_T64 l0_1 x8_1).f1))).setCell ⟨gb692, 2, none⟩ (.int .i64 ((rd_T64 l0_1 x8_1).f2.f0))).setCell ⟨gb692, 3, none⟩ (.int .i64 ((rd_T64 l0_1 x8_1).f2.f1))).setCell ⟨gb692, 4, none⟩ (.int .i64 ((rd_T64 l0_1 x8_1).f2.f2))).setCell ⟨gb692, 5, none⟩ (.int .i64 ((rd_T64 l0_1 x8_1).f2.f3))).setCell ⟨gb692, 6, none⟩ (.int .i64 ((rd_T64 l0_1 x8_1).f2.f4))).setCell ⟨gb692, 7, none⟩ (.int .i64 ((rd_T64 l0_1 x8_1).f2.f5))).setCell ⟨gb692, 8, none⟩ (.int .i64 ((rd_T64 l0_1 x8_1).f2.f6))).setCell ⟨gb692, 9, none⟩ (.int .i64 ((rd_T64 l0_1 x8_1).f2.f7))).setCell ⟨gb692, 10, none⟩ (.int .i64 ((rd_T64 l0_1 x8_1).f2.f8))).setCell ⟨gb692, 11, none⟩ (.int .i64 ((rd_T64 l0_1 x8_1).f2.f9)))) := ⟨pS HB.out⟩
            (try clear BK690)
            (try clear BK692)
            (try clear HB)
            generalize ((((((((((((w21.setCell ⟨gb692, 0, none⟩ (.int .i64 ((rd_T64 l0_1 x8_1).f0))).setCell ⟨gb692, 1, none⟩ (.int .i64 ((rd_T64 l0_1 x8_1).f1))).setCell ⟨gb692, 2, none⟩ (.int .i64 ((rd_T64 l0_1 x8_1).f2.f0))).setCell ⟨gb692, 3, none⟩ (.int .i64 ((rd_T64 l0_1 x8_1).f2.f1))).setCell ⟨gb692, 4, none⟩ (.int .i64 ((rd_T64 l0_1 x8_1).f2.f2))).setCell ⟨gb692, 5, none⟩ (.int .i64 ((rd_T64 l0_1 x8_1).f2.f3))).setCell ⟨gb692, 6, none⟩ (.int .i64 ((rd_T64 l0_1 x8_1).f2.f4))).setCell ⟨gb692, 7, none⟩ (.int .i64 ((rd_T64 l0_1 x8_1).f2.f5))).setCell ⟨gb692, 8, none⟩ (.int .i64 ((rd_T64 l0_1 x8_1).f2.f6))).setCell ⟨gb692, 9, none⟩ (.int .i64 ((rd_T64 l0_1 x8_1).f2.f7))).setCell ⟨gb692, 10, none⟩ (.int .i64 ((rd_T64 l0_1 x8_1).f2.f8))).setCell ⟨gb692, 11, none⟩ (.int .i64 ((rd_T64 l0_1 x8_1).f2.f9))) = w24 at n0_ n1_ n2_ ⊢
            have BK690 := n0_
            have BK692 := n1_
            have HB := n2_
            clear n0_ n1_ n2_
            have n0_ := Aside0.mk (blk_drew BK690.out)
            have n1_ := Aside0.mk (blk_drew BK692.out)
            have n2_ := Aside0.mk (below_drew1 HB.out)
            clear BK690
            clear BK692
            clear HB
            have BK690 := n0_
            have BK692 := n1_
            have HB := n2_
            clear n0_ n1_ n2_
            have p694 : 0 ≤ ((ji17) : Int) := of_decide_eq_true bA
            have q694 : (ji17) < (l0_1.length : Int) := of_decide_eq_true bA
            obtain ⟨ad694, e694, hx694_0, hx694_1, hx694_2, hx694_3, hx694_4, hx694_5, hx694_6, hx694_7, hx694_8, hx694_9, hx694_10, hx694_11⟩ := at_T64 HR0_1.out (ji17) p694 q694
            have hw694_11 := hx694_11
            have hw694_10 := hx694_10
            have hw694_9 := hx694_9
            have hw694_8 := hx694_8
            have hw694_7 := hx694_7
            have hw694_6 := hx694_6
            have hw694_5 := hx694_5
            have hw694_4 := hx694_4
            have hw694_3 := hx694_3
            have hw694_2 := hx694_2
            have hw694_1 := hx694_1
            have hw694_0 := hx694_0
            obtain rfl : ad691 = ad694 := (by injection e694)
            replace hx694_0 := (HB.out.cell (World.block_lt_of_cell? w _ hx694_0)).trans hx694_0
            replace hx694_1 := (HB.out.cell (World.block_lt_of_cell? w _ hx694_1)).trans hx694_1
            replace hx694_2 := (HB.out.cell (World.block_lt_of_cell? w _ hx694_2)).trans hx694_2
            replace hx694_3 := (HB.out.cell (World.block_lt_of_cell? w _ hx694_3)).trans hx694_3
            replace hx694_4 := (HB.out.cell (World.block_lt_of_cell? w _ hx694_4)).trans hx694_4
            replace hx694_5 := (HB.out.cell (World.block_lt_of_cell? w _ hx694_5)).trans hx694_5
            replace hx694_6 := (HB.out.cell (World.block_lt_of_cell? w _ hx694_6)).trans hx694_6
            replace hx694_7 := (HB.out.cell (World.block_lt_of_cell? w _ hx694_7)).trans hx694_7
            replace hx694_8 := (HB.out.cell (World.block_lt_of_cell? w _ hx694_8)).trans hx694_8
            replace hx694_9 := (HB.out.cell (World.block_lt_of_cell? w _ hx694_9)).trans hx694_9
            replace hx694_10 := (HB.out.cell (World.block_lt_of_cell? w _ hx694_10)).trans hx694_10
            replace hx694_11 := (HB.out.cell (World.block_lt_of_cell? w _ hx694_11)).trans hx694_11
            replace p694 := eq_true p694
            replace q694 := eq_true q694
            refine start_ (n := 26) (S := fun w' => w'.cell? ⟨gb692, 0, none⟩ = some (.int .i64 ((rd_T64 l0_1 x8_1).f0)) ∧ w'.cell? ⟨gb692, 1, none⟩ = some (.int .i64 ((rd_T64 l0_1 x8_1).f1)) ∧ w'.cell? ⟨gb692, 2, none⟩ = some (.int .i64 ((rd_T64 l0_1 x8_1).f2.f0)) ∧ w'.cell? ⟨gb692, 3, none⟩ = some (.int .i64 ((rd_T64 l0_1 x8_1).f2.f1)) ∧ w'.cell? ⟨gb692, 4, none⟩ = some (.int .i64 ((rd_T64 l0_1 x8_1).f2.f2)) ∧ w'.cell? ⟨gb692, 5, none⟩ = some (.int .i64 ((rd_T64 l0_1 x8_1).f2.f3)) ∧ w'.cell? ⟨gb692, 6, none⟩ = some (.int .i64 ((rd_T64 l0_1 x8_1).f2.f4)) ∧ w'.cell? ⟨gb692, 7, none⟩ = some (.int .i64 ((rd_T64 l0_1 x8_1).f2.f5)) ∧ w'.cell? ⟨gb692, 8, none⟩ = some (.int .i64 ((rd_T64 l0_1 x8_1).f2.f6)) ∧ w'.cell? ⟨gb692, 9, none⟩ = some (.int .i64 ((rd_T64 l0_1 x8_1).f2.f7)) ∧ w'.cell? ⟨gb692, 10, none⟩ = some (.int .i64 ((rd_T64 l0_1 x8_1).f2.f8)) ∧ w'.cell? ⟨gb692, 11, none⟩ = some (.int .i64 ((rd_T64 l0_1 x8_1).f2.f9)) ∧ w'.cell? ⟨gb690, 0, none⟩ = some (.int .i64 a0_0) ∧ w'.cell? ⟨gb690, 1, none⟩ = some (.slice (some ad691) l0_1.length c0_1) ∧ w'.cell? (ad691.add (((ji17)).toNat * 12)) = some (.int .i64 ((rd_T64 l0_1 (ji17)).f0)) ∧ w'.cell? ⟨(ad691.add (((ji17)).toNat * 12)).block, (ad691.add (((ji17)).toNat * 12)).off + 1, none⟩ = some (.int .i64 ((rd_T64 l0_1 (ji17)).f1)) ∧ w'.cell? ⟨(ad691.add (((ji17)).toNat * 12)).block, (ad691.add (((ji17)).toNat * 12)).off + 2, none⟩ = some (.int .i64 ((rd_T64 l0_1 (ji17)).f2.f0)) ∧ w'.cell? ⟨(ad691.add (((ji17)).toNat * 12)).block, (ad691.add (((ji17)).toNat * 12)).off + 3, none⟩ = some (.int .i64 ((rd_T64 l0_1 (ji17)).f2.f1)) ∧ w'.cell? ⟨(ad691.add (((ji17)).toNat * 12)).block, (ad691.add (((ji17)).toNat * 12)).off + 4, none⟩ = some (.int .i64 ((rd_T64 l0_1 (ji17)).f2.f2)) ∧ w'.cell? ⟨(ad691.add (((ji17)).toNat * 12)).block, (ad691.add (((ji17)).toNat * 12)).off + 5, none⟩ = some (.int .i64 ((rd_T64 l0_1 (ji17)).f2.f3)) ∧ w'.cell? ⟨(ad691.add (((ji17)).toNat * 12)).block, (ad691.add (((ji17)).toNat * 12)).off + 6, none⟩ = some (.int .i64 ((rd_T64 l0_1 (ji17)).f2.f4)) ∧ w'.cell? ⟨(ad691.add (((ji17)).toNat * 12)).block, (ad691.add (((ji17)).toNat * 12)).off + 7, none⟩ = some (.int .i64 ((rd_T64 l0_1 (ji17)).f2.f5)) ∧ w'.cell? ⟨(ad691.add (((ji17)).toNat * 12)).block, (ad691.add (((ji17)).toNat * 12)).off + 8, none⟩ = some (.int .i64 ((rd_T64 l0_1 (ji17)).f2.f6)) ∧ w'.cell? ⟨(ad691.add (((ji17)).toNat * 12)).block, (ad691.add (((ji17)).toNat * 12)).off + 9, none⟩ = some (.int .i64 ((rd_T64 l0_1 (ji17)).f2.f7)) ∧ w'.cell? ⟨(ad691.add (((ji17)).toNat * 12)).block, (ad691.add (((ji17)).toNat * 12)).off + 10, none⟩ = some (.int .i64 ((rd_T64 l0_1 (ji17)).f2.f8)) ∧ w'.cell? ⟨(ad691.add (((ji17)).toNat * 12)).block, (ad691.add (((ji17)).toNat * 12)).off + 11, none⟩ = some (.int .i64 ((rd_T64 l0_1 (ji17)).f2.f9))) (ds := []) #[false, false, false, false, false, false, false, false, false, false, false, false, false, false, false, false, false, false, false, false, false, false, false, false, false, false] (by kernel_rfl) rfl rfl ⟨(blk_cell BK692.out 0).trans rfl, (blk_cell BK692.out 1).trans rfl, (blk_cell BK692.out 2).trans rfl, (blk_cell BK692.out 3).trans rfl, (blk_cell BK692.out 4).trans rfl, (blk_cell BK692.out 5).trans rfl, (blk_cell BK692.out 6).trans rfl, (blk_cell BK692.out 7).trans rfl, (blk_cell BK692.out 8).trans rfl, (blk_cell BK692.out 9).trans rfl, (blk_cell BK692.out 10).trans rfl, (blk_cell BK692.out 11).trans rfl, (blk_cell BK690.out 0).trans rfl, (blk_cell BK690.out 1).trans rfl, ((HB.out.cell (World.block_lt_of_cell? w _ hw694_0)).trans hw694_0), ((HB.out.cell (World.block_lt_of_cell? w _ hw694_1)).trans hw694_1), ((HB.out.cell (World.block_lt_of_cell? w _ hw694_2)).trans hw694_2), ((HB.out.cell (World.block_lt_of_cell? w _ hw694_3)).trans hw694_3), ((HB.out.cell (World.block_lt_of_cell? w _ hw694_4)).trans hw694_4), ((HB.out.cell (World.block_lt_of_cell? w _ hw694_5)).trans hw694_5), ((HB.out.cell (World.block_lt_of_cell? w _ hw694_6)).trans hw694_6), ((HB.out.cell (World.block_lt_of_cell? w _ hw694_7)).trans hw694_7), ((HB.out.cell (World.block_lt_of_cell? w _ hw694_8)).trans hw694_8), ((HB.out.cell (World.block_lt_of_cell? w _ hw694_9)).trans hw694_9), ((HB.out.cell (World.block_lt_of_cell? w _ hw694_10)).trans hw694_10), ((HB.out.cell (World.block_lt_of_cell? w _ hw694_11)).trans hw694_11)⟩ (fun hHeld => ?_); refine with_tabW impl_SynVoterOk.tab4 impl_SynVoterOk.bits4 (fun HT_ HW_ => ?_)
            generalize w24.drew = w25 at BK690 BK692 HB hx694_0 hx694_1 hx694_10 hx694_11 hx694_2 hx694_3 hx694_4 hx694_5 hx694_6 hx694_7 hx694_8 hx694_9 hHeld ⊢
            refine take_ (i := 0) (N := some 13) (v := ?_) (a' := ?_) #[true, false, false, false, false, false, false, false, false, false, false, false, false, false, false, false, false, false, false, false, false, false, false, false, false, false] rfl rfl (take_ofW HT_.out HW_.out (by kernel_rfl)) (fun _ _ _ h => h) (Or.inl ⟨by rfl, ?_⟩) hHeld ?_ ?_
            rotate_left
            ·rintro w' ⟨s0, s1, s2, s3, s4, s5, s6, s7, s8, s9, s10, s11, s12, s13, s14, s15, s16, s17, s18, s19, s20, s21, s22, s23, s24, s25⟩
             go_simp
             with_reducible rfl
            rotate_left
            ·simp only [Act.put, List.setIfInBounds_toArray, List.set_cons_zero, List.set_cons_succ, i64_w, i32_w]
             rfl
            refine one_ (i := 1) (N := some 14) #[true, true, false, false, false, false, false, false, false, false, false, false, false, false, false, false, false, false, false, false, false, false, false, false, false, false] rfl rfl (one_of HT_.out (by kernel_rfl)) (by decide) (fun K hK => ?_)
            refine goes_ Try.func88 (by kernel_rfl) rfl #[.agg #[.int .i64 ((rd_T64 l0_1 x8_1).f0), .int .i64 ((rd_T64 l0_1 x8_1).f1), .int .i64 ((rd_T64 l0_1 x8_1).f2.f0), .int .i64 ((rd_T64 l0_1 x8_1).f2.f1), .int .i64 ((rd_T64 l0_1 x8_1).f2.f2), .int .i64 ((rd_T64 l0_1 x8_1).f2.f3), .int .i64 ((rd_T64 l0_1 x8_1).f2.f4), .int .i64 ((rd_T64 l0_1 x8_1).f2.f5), .int .i64 ((rd_T64 l0_1 x8_1).f2.f6), .int .i64 ((rd_T64 l0_1 x8_1).f2.f7), .int .i64 ((rd_T64 l0_1 x8_1).f2.f8), .int .i64 ((rd_T64 l0_1 x8_1).f2.f9)]] (by rfl) rfl rfl bM ?_
            with_reducible refine (impl_paperOk.calls k1 ((rd_T64 l0_1 x8_1).f0) ((rd_T64 l0_1 x8_1).f1) ((rd_T64 l0_1 x8_1).f2.f0) ((rd_T64 l0_1 x8_1).f2.f1) ((rd_T64 l0_1 x8_1).f2.f2) ((rd_T64 l0_1 x8_1).f2.f3) ((rd_T64 l0_1 x8_1).f2.f4) ((rd_T64 l0_1 x8_1).f2.f5) ((rd_T64 l0_1 x8_1).f2.f6) ((rd_T64 l0_1 x8_1).f2.f7) ((rd_T64 l0_1 x8_1).f2.f8) ((rd_T64 l0_1 x8_1).f2.f9) true _ A7.out).mono ?_
            rintro e w26 ⟨rfl, hb⟩
            refine ⟨_, rfl, ?_⟩
            have n0_ := Aside0.mk (blk_below (pK BK690.out) hb)
            have n1_ := Aside0.mk (blk_below (pK BK692.out) hb)
            have n2_ := Aside0.mk (below_step (pS HB.out) hb)
            clear BK690
            clear BK692
            clear HB
            have BK690 := n0_
            have BK692 := n1_
            have HB := n2_
            clear n0_ n1_ n2_
            (try clear hb)
            (try clear hb2)
            (try clear hk)
            (try clear hi)
            refine hK.out _ _ ⟨(blk_cell BK692.out 0).trans rfl, (blk_cell BK692.out 1).trans rfl, (blk_cell BK692.out 2).trans rfl, (blk_cell BK692.out 3).trans rfl, (blk_cell BK692.out 4).trans rfl, (blk_cell BK692.out 5).trans rfl, (blk_cell BK692.out 6).trans rfl, (blk_cell BK692.out 7).trans rfl, (blk_cell BK692.out 8).trans rfl, (blk_cell BK692.out 9).trans rfl, (blk_cell BK692.out 10).trans rfl, (blk_cell BK692.out 11).trans rfl, (blk_cell BK690.out 0).trans rfl, (blk_cell BK690.out 1).trans rfl, ((HB.out.cell (World.block_lt_of_cell? w _ hw694_0)).trans hw694_0), ((HB.out.cell (World.block_lt_of_cell? w _ hw694_1)).trans hw694_1), ((HB.out.cell (World.block_lt_of_cell? w _ hw694_2)).trans hw694_2), ((HB.out.cell (World.block_lt_of_cell? w _ hw694_3)).trans hw694_3), ((HB.out.cell (World.block_lt_of_cell? w _ hw694_4)).trans hw694_4), ((HB.out.cell (World.block_lt_of_cell? w _ hw694_5)).trans hw694_5), ((HB.out.cell (World.block_lt_of_cell? w _ hw694_6)).trans hw694_6), ((HB.out.cell (World.block_lt_of_cell? w _ hw694_7)).trans hw694_7), ((HB.out.cell (World.block_lt_of_cell? w _ hw694_8)).trans hw694_8), ((HB.out.cell (World.block_lt_of_cell? w _ hw694_9)).trans hw694_9), ((HB.out.cell (World.block_lt_of_cell? w _ hw694_10)).trans hw694_10), ((HB.out.cell (World.block_lt_of_cell? w _ hw694_11)).trans hw694_11)⟩ (fun hHeld => ?_)
            clear hK K
            refine norm_ (a' := ?_) ?_ ?_
            rotate_left
            ·show Act.put _ (some 14) _ = _
             simp only [Act.put, List.setIfInBounds_toArray, List.set_cons_zero, List.set_cons_succ, i64_w, i32_w]
             rfl
            refine pure_ (i := 2) (N := some 15) (v := ?_) (a' := ?_) #[true, true, true, false, false, false, false, false, false, false, false, false, false, false, false, false, false, false, false, false, false, false, false, false, false, false] rfl rfl (any_of HT_.out (by kernel_rfl)) (fun _ _ _ h => h) (Or.inl ⟨by rfl, ?_⟩) ?_ ?_
            rotate_left
            ·intro w'
             go_simp
             with_reducible rfl
            rotate_left
            ·simp only [Act.put, List.setIfInBounds_toArray, List.set_cons_zero, List.set_cons_succ, i64_w, i32_w]
             rfl
            refine pure_ (i := 3) (N := some 16) (v := ?_) (a' := ?_) #[true, true, true, true, false, false, false, false, false, false, false, false, false, false, false, false, false, false, false, false, false, false, false, false, false, false] rfl rfl (any_of HT_.out (by kernel_rfl)) (fun _ _ _ h => h) (Or.inl ⟨by rfl, ?_⟩) ?_ ?_
            rotate_left
            ·intro w'
             go_simp
             with_reducible rfl
            rotate_left
            ·simp only [Act.put, List.setIfInBounds_toArray, List.set_cons_zero, List.set_cons_succ, i64_w, i32_w]
             rfl
            refine pure_ (i := 4) (N := some 17) (v := ?_) (a' := ?_) #[true, true, true, true, true, false, false, false, false, false, false, false, false, false, false, false, false, false, false, false, false, false, false, false, false, false] rfl rfl (any_of HT_.out (by kernel_rfl)) (fun _ _ _ h => h) (Or.inl ⟨by rfl, ?_⟩) ?_ ?_
            rotate_left
            ·intro w'
             go_simp
             with_reducible rfl
            rotate_left
            ·simp only [Act.put, List.setIfInBounds_toArray, List.set_cons_zero, List.set_cons_succ, i64_w, i32_w]
             rfl
            refine pure_ (i := 6) (N := some 19) (v := ?_) (a' := ?_) #[true, true, true, true, true, false, true, false, false, false, false, false, false, false, false, false, false, false, false, false, false, false, false, false, false, false] rfl rfl (any_of HT_.out (by kernel_rfl)) (fun _ _ _ h => h) (Or.inl ⟨by rfl, ?_⟩) ?_ ?_
            rotate_left
            ·intro w'
             go_simp
             with_reducible rfl
            rotate_left
            ·simp only [Act.put, List.setIfInBounds_toArray, List.set_cons_zero, List.set_cons_succ, i64_w, i32_w]
             rfl
            refine take_ (i := 5) (N := some 18) (v := ?_) (a' := ?_) #[true, true, true, true, true, true, true, false, false, false, false, false, false, false, false, false, false, false, false, false, false, false, false, false, false, false] rfl rfl (take_ofW HT_.out HW_.out (by kernel_rfl)) (fun _ _ _ h => h) (Or.inl ⟨by rfl, ?_⟩) hHeld ?_ ?_
            rotate_left
            ·rintro w' ⟨s0, s1, s2, s3, s4, s5, s6, s7, s8, s9, s10, s11, s12, s13, s14, s15, s16, s17, s18, s19, s20, s21, s22, s23, s24, s25⟩
             go_simp
             with_reducible rfl
            rotate_left
            ·simp only [Act.put, List.setIfInBounds_toArray, List.set_cons_zero, List.set_cons_succ, i64_w, i32_w]
             rfl
            refine take_ (i := 7) (N := some 20) (v := ?_) (a' := ?_) #[true, true, true, true, true, true, true, true, false, false, false, false, false, false, false, false, false, false, false, false, false, false, false, false, false, false] rfl rfl (take_ofW HT_.out HW_.out (by kernel_rfl)) (fun _ _ _ h => h) (Or.inl ⟨by rfl, ?_⟩) hHeld ?_ ?_
            rotate_left
            ·rintro w' ⟨s0, s1, s2, s3, s4, s5, s6, s7, s8, s9, s10, s11, s12, s13, s14, s15, s16, s17, s18, s19, s20, s21, s22, s23, s24, s25⟩
             go_simp
             with_reducible rfl
            rotate_left
            ·simp only [Act.put, List.setIfInBounds_toArray, List.set_cons_zero, List.set_cons_succ, i64_w, i32_w]
             rfl
            refine pure_ (i := 8) (N := some 21) (v := ?_) (a' := ?_) #[true, true, true, true, true, true, true, true, true, false, false, false, false, false, false, false, false, false, false, false, false, false, false, false, false, false] rfl rfl (any_of HT_.out (by kernel_rfl)) (fun _ _ _ h => h) (Or.inl ⟨by rfl, ?_⟩) ?_ ?_
            rotate_left
            ·intro w'
             go_simp
             with_reducible rfl
            rotate_left
            ·simp only [Act.put, List.setIfInBounds_toArray, List.set_cons_zero, List.set_cons_succ, i64_w, i32_w]
             rfl
            refine pure_ (i := 9) (N := some 22) (v := ?_) (a' := ?_) #[true, true, true, true, true, true, true, true, true, true, false, false, false, false, false, false, false, false, false, false, false, false, false, false, false, false] rfl rfl (any_of HT_.out (by kernel_rfl)) (fun _ _ _ h => h) (Or.inl ⟨by rfl, ?_⟩) ?_ ?_
            rotate_left
            ·intro w'
             go_simp
             with_reducible rfl
            rotate_left
            ·simp only [Act.put, List.setIfInBounds_toArray, List.set_cons_zero, List.set_cons_succ, i64_w, i32_w]
             rfl
            refine pure_ (i := 10) (N := some 23) (v := ?_) (a' := ?_) #[true, true, true, true, true, true, true, true, true, true, true, false, false, false, false, false, false, false, false, false, false, false, false, false, false, false] rfl rfl (any_of HT_.out (by kernel_rfl)) (fun _ _ _ h => h) (Or.inl ⟨by rfl, ?_⟩) ?_ ?_
            rotate_left
            ·intro w'
             go_simp
             with_reducible rfl
            rotate_left
            ·simp only [Act.put, List.setIfInBounds_toArray, List.set_cons_zero, List.set_cons_succ, i64_w, i32_w]
             rfl
            refine pure_ (i := 11) (N := some 24) (v := ?_) (a' := ?_) #[true, true, true, true, true, true, true, true, true, true, true, true, false, false, false, false, false, false, false, false, false, false, false, false, false, false] rfl rfl (any_of HT_.out (by kernel_rfl)) (fun _ _ _ h => h) (Or.inl ⟨by rfl, ?_⟩) ?_ ?_
            rotate_left
            ·intro w'
             go_simp
             with_reducible rfl
            rotate_left
            ·simp only [Act.put, List.setIfInBounds_toArray, List.set_cons_zero, List.set_cons_succ, i64_w, i32_w]
             rfl
            refine pure_ (i := 12) (N := some 25) (v := ?_) (a' := ?_) #[true, true, true, true, true, true, true, true, true, true, true, true, true, false, false, false, false, false, false, false, false, false, false, false, false, false] rfl rfl (any_of HT_.out (by kernel_rfl)) (fun _ _ _ h => h) (Or.inl ⟨by rfl, ?_⟩) ?_ ?_
            rotate_left
            ·intro w'
             go_simp
             with_reducible rfl
            rotate_left
            ·simp only [Act.put, List.setIfInBounds_toArray, List.set_cons_zero, List.set_cons_succ, i64_w, i32_w]
             rfl
            refine pure_ (i := 13) (N := some 26) (v := ?_) (a' := ?_) #[true, true, true, true, true, true, true, true, true, true, true, true, true, true, false, false, false, false, false, false, false, false, false, false, false, false] rfl rfl (any_of HT_.out (by kernel_rfl)) (fun _ _ _ h => h) (Or.inl ⟨by rfl, ?_⟩) ?_ ?_
            rotate_left
            ·intro w'
             go_simp
             with_reducible rfl
            rotate_left
            ·simp only [Act.put, List.setIfInBounds_toArray, List.set_cons_zero, List.set_cons_succ, i64_w, i32_w]
             rfl
            refine pure_ (i := 14) (N := some 27) (v := ?_) (a' := ?_) #[true, true, true, true, true, true, true, true, true, true, true, true, true, true, true, false, false, false, false, false, false, false, false, false, false, false] rfl rfl (any_of HT_.out (by kernel_rfl)) (fun _ _ _ h => h) (Or.inl ⟨by rfl, ?_⟩) ?_ ?_
            rotate_left
            ·intro w'
             go_simp
             with_reducible rfl
            rotate_left
            ·simp only [Act.put, List.setIfInBounds_toArray, List.set_cons_zero, List.set_cons_succ, i64_w, i32_w]
             rfl
            refine pure_ (i := 16) (N := some 29) (v := ?_) (a' := ?_) #[true, true, true, true, true, true, true, true, true, true, true, true, true, true, true, false, true, false, false, false, false, false, false, false, false, false] rfl rfl (any_of HT_.out (by kernel_rfl)) (fun _ _ _ h => h) (Or.inl ⟨by rfl, ?_⟩) ?_ ?_
            rotate_left
            ·intro w'
             go_simp
             with_reducible rfl
            rotate_left
            ·simp only [Act.put, List.setIfInBounds_toArray, List.set_cons_zero, List.set_cons_succ, i64_w, i32_w]
             rfl
            refine pure_ (i := 17) (N := some 30) (v := ?_) (a' := ?_) #[true, true, true, true, true, true, true, true, true, true, true, true, true, true, true, false, true, true, false, false, false, false, false, false, false, false] rfl rfl (any_of HT_.out (by kernel_rfl)) (fun _ _ _ h => h) (Or.inl ⟨by rfl, ?_⟩) ?_ ?_
            rotate_left
            ·intro w'
             go_simp
             with_reducible rfl
            rotate_left
            ·simp only [Act.put, List.setIfInBounds_toArray, List.set_cons_zero, List.set_cons_succ, i64_w, i32_w]
             rfl
            refine pure_ (i := 21) (N := some 34) (v := ?_) (a' := ?_) #[true, true, true, true, true, true, true, true, true, true, true, true, true, true, true, false, true, true, false, false, false, true, false, false, false, false] rfl rfl (any_of HT_.out (by kernel_rfl)) (fun _ _ _ h => h) (Or.inl ⟨by rfl, ?_⟩) ?_ ?_
            rotate_left
            ·intro w'
             go_simp
             with_reducible rfl
            rotate_left
            ·simp only [Act.put, List.setIfInBounds_toArray, List.set_cons_zero, List.set_cons_succ, i64_w, i32_w]
             rfl
            refine take_ (i := 15) (N := some 28) (v := ?_) (a' := ?_) #[true, true, true, true, true, true, true, true, true, true, true, true, true, true, true, true, true, true, false, false, false, true, false, false, false, false] rfl rfl (take_ofW HT_.out HW_.out (by kernel_rfl)) (fun _ _ _ h => h) (Or.inl ⟨by rfl, ?_⟩) hHeld ?_ ?_
            rotate_left
            ·rintro w' ⟨s0, s1, s2, s3, s4, s5, s6, s7, s8, s9, s10, s11, s12, s13, s14, s15, s16, s17, s18, s19, s20, s21, s22, s23, s24, s25⟩
             go_simp
             with_reducible rfl
            rotate_left
            ·simp only [Act.put, List.setIfInBounds_toArray, List.set_cons_zero, List.set_cons_succ, i64_w, i32_w]
             rfl
            refine pure_ (i := 18) (N := some 31) (v := ?_) (a' := ?_) #[true, true, true, true, true, true, true, true, true, true, true, true, true, true, true, true, true, true, true, false, false, true, false, false, false, false] rfl rfl (any_of HT_.out (by kernel_rfl)) (fun _ _ _ h => h) (Or.inl ⟨by rfl, ?_⟩) ?_ ?_
            rotate_left
            ·intro w'
             go_simp
             with_reducible rfl
            rotate_left
            ·simp only [Act.put, List.setIfInBounds_toArray, List.set_cons_zero, List.set_cons_succ, i64_w, i32_w]
             rfl
            refine pure_ (i := 19) (N := some 32) (v := ?_) (a' := ?_) #[true, true, true, true, true, true, true, true, true, true, true, true, true, true, true, true, true, true, true, true, false, true, false, false, false, false] rfl rfl (any_of HT_.out (by kernel_rfl)) (fun _ _ _ h => h) (Or.inl ⟨by rfl, ?_⟩) ?_ ?_
            rotate_left
            ·intro w'
             go_simp
             with_reducible rfl
            rotate_left
            ·simp only [Act.put, List.setIfInBounds_toArray, List.set_cons_zero, List.set_cons_succ, i64_w, i32_w]
             rfl
            refine take_ (i := 20) (N := some 33) (v := ?_) (a' := ?_) #[true, true, true, true, true, true, true, true, true, true, true, true, true, true, true, true, true, true, true, true, true, true, false, false, false, false] rfl rfl (take_ofW HT_.out HW_.out (by kernel_rfl)) (fun _ _ _ h => h) (Or.inl ⟨by rfl, ?_⟩) hHeld ?_ ?_
            rotate_left
            ·rintro w' ⟨s0, s1, s2, s3, s4, s5, s6, s7, s8, s9, s10, s11, s12, s13, s14, s15, s16, s17, s18, s19, s20, s21, s22, s23, s24, s25⟩
             go_simp
             with_reducible rfl
            rotate_left
            ·simp only [Act.put, List.setIfInBounds_toArray, List.set_cons_zero, List.set_cons_succ, i64_w, i32_w]
             rfl
            refine take_ (i := 22) (N := some 35) (v := ?_) (a' := ?_) #[true, true, true, true, true, true, true, true, true, true, true, true, true, true, true, true, true, true, true, true, true, true, true, false, false, false] rfl rfl (take_ofW HT_.out HW_.out (by kernel_rfl)) (fun _ _ _ h => h) (Or.inl ⟨by rfl, ?_⟩) hHeld ?_ ?_
            rotate_left
            ·rintro w' ⟨s0, s1, s2, s3, s4, s5, s6, s7, s8, s9, s10, s11, s12, s13, s14, s15, s16, s17, s18, s19, s20, s21, s22, s23, s24, s25⟩
             go_simp
             with_reducible rfl
            rotate_left
            ·simp only [Act.put, List.setIfInBounds_toArray, List.set_cons_zero, List.set_cons_succ, i64_w, i32_w]
             rfl
            refine pure_ (i := 23) (N := some 36) (v := ?_) (a' := ?_) #[true, true, true, true, true, true, true, true, true, true, true, true, true, true, true, true, true, true, true, true, true, true, true, true, false, false] rfl rfl (any_of HT_.out (by kernel_rfl)) (fun _ _ _ h => h) (Or.inl ⟨by rfl, ?_⟩) ?_ ?_
            rotate_left
            ·intro w'
             go_simp
             with_reducible rfl
            rotate_left
            ·simp only [Act.put, List.setIfInBounds_toArray, List.set_cons_zero, List.set_cons_succ, i64_w, i32_w]
             rfl
            refine pure_ (i := 24) (N := some 37) (v := ?_) (a' := ?_) #[true, true, true, true, true, true, true, true, true, true, true, true, true, true, true, true, true, true, true, true, true, true, true, true, true, false] rfl rfl (any_of HT_.out (by kernel_rfl)) (fun _ _ _ h => h) (Or.inl ⟨by rfl, ?_⟩) ?_ ?_
            rotate_left
            ·intro w'
             go_simp
             with_reducible rfl
            rotate_left
            ·simp only [Act.put, List.setIfInBounds_toArray, List.set_cons_zero, List.set_cons_succ, i64_w, i32_w]
             rfl
            refine pure_ (i := 25) (N := some 38) (v := ?_) (a' := ?_) #[true, true, true, true, true, true, true, true, true, true, true, true, true, true, true, true, true, true, true, true, true, true, true, true, true, true] rfl rfl (any_of HT_.out (by kernel_rfl)) (fun _ _ _ h => h) (Or.inl ⟨by rfl, ?_⟩) ?_ ?_
            rotate_left
            ·intro w'
             go_simp
             with_reducible rfl
            rotate_left
            ·simp only [Act.put, List.setIfInBounds_toArray, List.set_cons_zero, List.set_cons_succ, i64_w, i32_w]
             rfl
            refine done_ (done_of HT_.out (by kernel_rfl)) ?_
            try go_wp2
            go_ret
            exact ⟨by first | rfl | (simp [errW_none, errW_some] <;> rfl) | (simp only [← hji17]; first | rfl | (simp [errW_none, errW_some] <;> rfl)) | (simp [*, errW_none, errW_some] <;> rfl), pS HB.out⟩
           ·rw [if_neg c20] at H
            have c20b0 : decide (((rd_T64 l0_1 x8_1).f0) ≤ ((rd_T64 l0_1 (ji17)).f0)) = false := decide_eq_false c20
            clear c20
            have H' := Aside0.mk H
            clear H
            have p691 : 0 ≤ (x8_1 : Int) := of_decide_eq_true bA
            have q691 : x8_1 < (l0_1.length : Int) := of_decide_eq_true bA
            obtain ⟨ad691, e691, hx691_0, hx691_1, hx691_2, hx691_3, hx691_4, hx691_5, hx691_6, hx691_7, hx691_8, hx691_9, hx691_10, hx691_11⟩ := at_T64 HR0_1.out x8_1 p691 q691
            cases e691
            replace hx691_0 := (HB.out.cell (World.block_lt_of_cell? w _ hx691_0)).trans hx691_0
            replace hx691_1 := (HB.out.cell (World.block_lt_of_cell? w _ hx691_1)).trans hx691_1
            replace hx691_2 := (HB.out.cell (World.block_lt_of_cell? w _ hx691_2)).trans hx691_2
            replace hx691_3 := (HB.out.cell (World.block_lt_of_cell? w _ hx691_3)).trans hx691_3
            replace hx691_4 := (HB.out.cell (World.block_lt_of_cell? w _ hx691_4)).trans hx691_4
            replace hx691_5 := (HB.out.cell (World.block_lt_of_cell? w _ hx691_5)).trans hx691_5
            replace hx691_6 := (HB.out.cell (World.block_lt_of_cell? w _ hx691_6)).trans hx691_6
            replace hx691_7 := (HB.out.cell (World.block_lt_of_cell? w _ hx691_7)).trans hx691_7
            replace hx691_8 := (HB.out.cell (World.block_lt_of_cell? w _ hx691_8)).trans hx691_8
            replace hx691_9 := (HB.out.cell (World.block_lt_of_cell? w _ hx691_9)).trans hx691_9
            replace hx691_10 := (HB.out.cell (World.block_lt_of_cell? w _ hx691_10)).trans hx691_10
            replace hx691_11 := (HB.out.cell (World.block_lt_of_cell? w _ hx691_11)).trans hx691_11
            replace p691 := eq_true p691
            replace q691 := eq_true q691
            try go_wp2_with (first | ((with_reducible refine gate_dst (N := 4) rfl ?_); (try (refine gate_guard (by rfl) ?_; dsimp only)); refine box_event ?hg (N := 4) ?hd (cs := #[.int .i64 0, .int .i64 0, .int .i64 0, .int .i64 0, .int .i64 0, .int .i64 0, .int .i64 0, .int .i64 0, .int .i64 0, .int .i64 0, .int .i64 0, .int .i64 0]) (t := 64) ?hr ?_; (case hd => rfl); (case hg => rfl); (case hr => first | (go_simp; done) | (go_simp; rfl)); intro gb692 hg w27 hbox hb; have n0_ := Aside0.mk (blk_below (pK BK690.out) hb); have n1_ := Aside0.mk (below_step (pS HB.out) hb); have n2_ := Aside0.mk (hbox); have n3_ := Aside0.mk ((by rw [hg]; exact (below_size (pS HB.out)) : w.heap.size ≤ gb692)); have n4_ := Aside0.mk ((by rw [hg]; exact (below_size (pS HB.out)) : w.heap.size ≤ gb692)); have n5_ := Aside0.mk ((by rw [hg]; exact Nat.ne_of_lt (blk_lt (pK BK690.out)) : gb690 ≠ gb692)); have n6_ := Aside0.mk ((by rw [hg]; exact Nat.ne_of_gt (blk_lt (pK BK690.out)) : gb692 ≠ gb690)); clear BK690; clear HB; have BK690 := n0_; have HB := n1_; have BK692 := n2_; have GW692 := n3_; have GE692 := n4_; have NB690_692 := n5_; have NB692_690 := n6_; clear n0_ n1_ n2_ n3_ n4_ n5_ n6_; clear hb hbox hg; have hnb28 := NB692_690.out; have hnc28 := NB690_692.out; have hcz29_0 : w27.cell? ⟨gb692, 0, none⟩ = some (.int .i64 0) := (blk_cell BK692.out 0).trans rfl; have hcz29_1 : w27.cell? ⟨gb692, 1, none⟩ = some (.int .i64 0) := (blk_cell BK692.out 1).trans rfl; have hcz29_2 : w27.cell? ⟨gb692, 2, none⟩ = some (.int .i64 0) := (blk_cell BK692.out 2).trans rfl; have hcz29_3 : w27.cell? ⟨gb692, 3, none⟩ = some (.int .i64 0) := (blk_cell BK692.out 3).trans rfl; have hcz29_4 : w27.cell? ⟨gb692, 4, none⟩ = some (.int .i64 0) := (blk_cell BK692.out 4).trans rfl; have hcz29_5 : w27.cell? ⟨gb692, 5, none⟩ = some (.int .i64 0) := (blk_cell BK692.out 5).trans rfl; have hcz29_6 : w27.cell? ⟨gb692, 6, none⟩ = some (.int .i64 0) := (blk_cell BK692.out 6).trans rfl; have hcz29_7 : w27.cell? ⟨gb692, 7, none⟩ = some (.int .i64 0) := (blk_cell BK692.out 7).trans rfl; have hcz29_8 : w27.cell? ⟨gb692, 8, none⟩ = some (.int .i64 0) := (blk_cell BK692.out 8).trans rfl; have hcz29_9 : w27.cell? ⟨gb692, 9, none⟩ = some (.int .i64 0) := (blk_cell BK692.out 9).trans rfl; have hcz29_10 : w27.cell? ⟨gb692, 10, none⟩ = some (.int .i64 0) := (blk_cell BK692.out 10).trans rfl; have hcz29_11 : w27.cell? ⟨gb692, 11, none⟩ = some (.int .i64 0) := (blk_cell BK692.out 11).trans rfl; have hfz29_0 := blk_frozen BK692.out 0; have hfz29_1 := blk_frozen BK692.out 1; have hfz29_2 := blk_frozen BK692.out 2; have hfz29_3 := blk_frozen BK692.out 3; have hfz29_4 := blk_frozen BK692.out 4; have hfz29_5 := blk_frozen BK692.out 5; have hfz29_6 := blk_frozen BK692.out 6; have hfz29_7 := blk_frozen BK692.out 7; have hfz29_8 := blk_frozen BK692.out 8; have hfz29_9 := blk_frozen BK692.out 9; have hfz29_10 := blk_frozen BK692.out 10; have hfz29_11 := blk_frozen BK692.out 11))
            have n0_ : Aside0 (((((((((((((w27.setCell ⟨gb692, 0, none⟩ (.int .i64 ((rd_T64 l0_1 x8_1).f0))).setCell ⟨gb692, 1, none⟩ (.int .i64 ((rd_T64 l0_1 x8_1).f1))).setCell ⟨gb692, 2, none⟩ (.int .i64 ((rd_T64 l0_1 x8_1).f2.f0))).setCell ⟨gb692, 3, none⟩ (.int .i64 ((rd_T64 l0_1 x8_1).f2.f1))).setCell ⟨gb692, 4, none⟩ (.int .i64 ((rd_T64 l0_1 x8_1).f2.f2))).setCell ⟨gb692, 5, none⟩ (.int .i64 ((rd_T64 l0_1 x8_1).f2.f3))).setCell ⟨gb692, 6, none⟩ (.int .i64 ((rd_T64 l0_1 x8_1).f2.f4))).setCell ⟨gb692, 7, none⟩ (.int .i64 ((rd_T64 l0_1 x8_1).f2.f5))).setCell ⟨gb692, 8, none⟩ (.int .i64 ((rd_T64 l0_1 x8_1).f2.f6))).setCell ⟨gb692, 9, none⟩ (.int .i64 ((rd_T64 l0_1 x8_1).f2.f7))).setCell ⟨gb692, 10, none⟩ (.int .i64 ((rd_T64 l0_1 x8_1).f2.f8))).setCell ⟨gb692, 11, none⟩ (.int .i64 ((rd_T64 l0_1 x8_1).f2.f9))).heap[gb690]? = some (.cells #[.int .i64 a0_0, .slice (some ad691) l0_1.length c0_1] 52 (0, 0))) := ⟨by (with_reducible repeat (first | refine blk_drewN ?_ _ | refine blk_drew ?_ | refine blk_alloc ?_ _)); refine blk_far ?_ NB690_692.out _; (with_reducible repeat (first | refine blk_drewN ?_ _ | refine blk_drew ?_ | refine blk_alloc ?_ _)); refine blk_far ?_ NB690_692.out _; (with_reducible repeat (first | refine blk_drewN ?_ _ | refine blk_drew ?_ | refine blk_alloc ?_ _)); refine blk_far ?_ NB690_692.out _; (with_reducible repeat (first | refine blk_drewN ?_ _ | refine blk_drew ?_ | refine blk_alloc ?_ _)); refine blk_far ?_ NB690_692.out _; (with_reducible repeat (first | refine blk_drewN ?_ _ | refine blk_drew ?_ | refine blk_alloc ?_ _)); refine blk_far ?_ NB690_692.out _; (with_reducible repeat (first | refine blk_drewN ?_ _ | refine blk_drew ?_ | refine blk_alloc ?_ _)); refine blk_far ?_ NB690_692.out _; (with_reducible repeat (first | refine blk_drewN ?_ _ | refine blk_drew ?_ | refine blk_alloc ?_ _)); refine blk_far ?_ NB690_692.out _; (with_reducible repeat (first | refine blk_drewN ?_ _ | refine blk_drew ?_ | refine blk_alloc ?_ _)); refine blk_far ?_ NB690_692.out _; (with_reducible repeat (first | refine blk_drewN ?_ _ | refine blk_drew ?_ | refine blk_alloc ?_ _)); refine blk_far ?_ NB690_692.out _; (with_reducible repeat (first | refine blk_drewN ?_ _ | refine blk_drew ?_ | refine blk_alloc ?_ _)); refine blk_far ?_ NB690_692.out _; (with_reducible repeat (first | refine blk_drewN ?_ _ | refine blk_drew ?_ | refine blk_alloc ?_ _)); refine blk_far ?_ NB690_692.out _; (with_reducible repeat (first | refine blk_drewN ?_ _ | refine blk_drew ?_ | refine blk_alloc ?_ _)); refine blk_far ?_ NB690_692.out _; (with_reducible repeat (first | refine blk_drewN ?_ _ | refine blk_drew ?_ | refine blk_alloc ?_ _)); exact BK690.out⟩
            have n1_ : Aside0 (((((((((((((w27.setCell ⟨gb692, 0, none⟩ (.int .i64 ((rd_T64 l0_1 x8_1).f0))).setCell ⟨gb692, 1, none⟩ (.int .i64 ((rd_T64 l0_1 x8_1).f1))).setCell ⟨gb692, 2, none⟩ (.int .i64 ((rd_T64 l0_1 x8_1).f2.f0))).setCell ⟨gb692, 3, none⟩ (.int .i64 ((rd_T64 l0_1 x8_1).f2.f1))).setCell ⟨gb692, 4, none⟩ (.int .i64 ((rd_T64 l0_1 x8_1).f2.f2))).setCell ⟨gb692, 5, none⟩ (.int .i64 ((rd_T64 l0_1 x8_1).f2.f3))).setCell ⟨gb692, 6, none⟩ (.int .i64 ((rd_T64 l0_1 x8_1).f2.f4))).setCell ⟨gb692, 7, none⟩ (.int .i64 ((rd_T64 l0_1 x8_1).f2.f5))).setCell ⟨gb692, 8, none⟩ (.int .i64 ((rd_T64 l0_1 x8_1).f2.f6))).setCell ⟨gb692, 9, none⟩ (.int .i64 ((rd_T64 l0_1 x8_1).f2.f7))).setCell ⟨gb692, 10, none⟩ (.int .i64 ((rd_T64 l0_1 x8_1).f2.f8))).setCell ⟨gb692, 11, none⟩ (.int .i64 ((rd_T64 l0_1 x8_1).f2.f9))).heap[gb692]? = some (.cells #[.int .i64 ((rd_T64 l0_1 x8_1).f0), .int .i64 ((rd_T64 l0_1 x8_1).f1), .int .i64 ((rd_T64 l0_1 x8_1).f2.f0), .int .i64 ((rd_T64 l0_1 x8_1).f2.f1), .int .i64 ((rd_T64 l0_1 x8_1).f2.f2), .int .i64 ((rd_T64 l0_1 x8_1).f2.f3), .int .i64 ((rd_T64 l0_1 x8_1).f2.f4), .int .i64 ((rd_T64 l0_1 x8_1).f2.f5), .int .i64 ((rd_T64 l0_1 x8_1).f2.f6), .int .i64 ((rd_T64 l0_1 x8_1).f2.f7), .int .i64 ((rd_T64 l0_1 x8_1).f2.f8), .int .i64 ((rd_T64 l0_1 x8_1).f2.f9)] 64 (0, 0))) := ⟨by (with_reducible repeat (first | refine blk_drewN ?_ _ | refine blk_drew ?_ | refine blk_alloc ?_ _)); refine blk_put (cs := #[.int .i64 ((rd_T64 l0_1 x8_1).f0), .int .i64 ((rd_T64 l0_1 x8_1).f1), .int .i64 ((rd_T64 l0_1 x8_1).f2.f0), .int .i64 ((rd_T64 l0_1 x8_1).f2.f1), .int .i64 ((rd_T64 l0_1 x8_1).f2.f2), .int .i64 ((rd_T64 l0_1 x8_1).f2.f3), .int .i64 ((rd_T64 l0_1 x8_1).f2.f4), .int .i64 ((rd_T64 l0_1 x8_1).f2.f5), .int .i64 ((rd_T64 l0_1 x8_1).f2.f6), .int .i64 ((rd_T64 l0_1 x8_1).f2.f7), .int .i64 ((rd_T64 l0_1 x8_1).f2.f8), .int .i64 0]) ?_ 11 _ rfl; (with_reducible repeat (first | refine blk_drewN ?_ _ | refine blk_drew ?_ | refine blk_alloc ?_ _)); refine blk_put (cs := #[.int .i64 ((rd_T64 l0_1 x8_1).f0), .int .i64 ((rd_T64 l0_1 x8_1).f1), .int .i64 ((rd_T64 l0_1 x8_1).f2.f0), .int .i64 ((rd_T64 l0_1 x8_1).f2.f1), .int .i64 ((rd_T64 l0_1 x8_1).f2.f2), .int .i64 ((rd_T64 l0_1 x8_1).f2.f3), .int .i64 ((rd_T64 l0_1 x8_1).f2.f4), .int .i64 ((rd_T64 l0_1 x8_1).f2.f5), .int .i64 ((rd_T64 l0_1 x8_1).f2.f6), .int .i64 ((rd_T64 l0_1 x8_1).f2.f7), .int .i64 0, .int .i64 0]) ?_ 10 _ rfl; (with_reducible repeat (first | refine blk_drewN ?_ _ | refine blk_drew ?_ | refine blk_alloc ?_ _)); refine blk_put (cs := #[.int .i64 ((rd_T64 l0_1 x8_1).f0), .int .i64 ((rd_T64 l0_1 x8_1).f1), .int .i64 ((rd_T64 l0_1 x8_1).f2.f0), .int .i64 ((rd_T64 l0_1 x8_1).f2.f1), .int .i64 ((rd_T64 l0_1 x8_1).f2.f2), .int .i64 ((rd_T64 l0_1 x8_1).f2.f3), .int .i64 ((rd_T64 l0_1 x8_1).f2.f4), .int .i64 ((rd_T64 l0_1 x8_1).f2.f5), .int .i64 ((rd_T64 l0_1 x8_1).f2.f6), .int .i64 0, .int .i64 0, .int .i64 0]) ?_ 9 _ rfl; (with_reducible repeat (first | refine blk_drewN ?_ _ | refine blk_drew ?_ | refine blk_alloc ?_ _)); refine blk_put (cs := #[.int .i64 ((rd_T64 l0_1 x8_1).f0), .int .i64 ((rd_T64 l0_1 x8_1).f1), .int .i64 ((rd_T64 l0_1 x8_1).f2.f0), .int .i64 ((rd_T64 l0_1 x8_1).f2.f1), .int .i64 ((rd_T64 l0_1 x8_1).f2.f2), .int .i64 ((rd_T64 l0_1 x8_1).f2.f3), .int .i64 ((rd_T64 l0_1 x8_1).f2.f4), .int .i64 ((rd_T64 l0_1 x8_1).f2.f5), .int .i64 0, .int .i64 0, .int .i64 0, .int .i64 0]) ?_ 8 _ rfl; (with_reducible repeat (first | refine blk_drewN ?_ _ | refine blk_drew ?_ | refine blk_alloc ?_ _)); refine blk_put (cs := #[.int .i64 ((rd_T64 l0_1 x8_1).f0), .int .i64 ((rd_T64 l0_1 x8_1).f1), .int .i64 ((rd_T64 l0_1 x8_1).f2.f0), .int .i64 ((rd_T64 l0_1 x8_1).f2.f1), .int .i64 ((rd_T64 l0_1 x8_1).f2.f2), .int .i64 ((rd_T64 l0_1 x8_1).f2.f3), .int .i64 ((rd_T64 l0_1 x8_1).f2.f4), .int .i64 0, .int .i64 0, .int .i64 0, .int .i64 0, .int .i64 0]) ?_ 7 _ rfl; (with_reducible repeat (first | refine blk_drewN ?_ _ | refine blk_drew ?_ | refine blk_alloc ?_ _)); refine blk_put (cs := #[.int .i64 ((rd_T64 l0_1 x8_1).f0), .int .i64 ((rd_T64 l0_1 x8_1).f1), .int .i64 ((rd_T64 l0_1 x8_1).f2.f0), .int .i64 ((rd_T64 l0_1 x8_1).f2.f1), .int .i64 ((rd_T64 l0_1 x8_1).f2.f2), .int .i64 ((rd_T64 l0_1 x8_1).f2.f3), .int .i64 0, .int .i64 0, .int .i64 0, .int .i64 0, .int .i64 0, .int .i64 0]) ?_ 6 _ rfl; (with_reducible repeat (first | refine blk_drewN ?_ _ | refine blk_drew ?_ | refine blk_alloc ?_ _)); refine blk_put (cs := #[.int .i64 ((rd_T64 l0_1 x8_1).f0), .int .i64 ((rd_T64 l0_1 x8_1).f1), .int .i64 ((rd_T64 l0_1 x8_1).f2.f0), .int .i64 ((rd_T64 l0_1 x8_1).f2.f1), .int .i64 ((rd_T64 l0_1 x8_1).f2.f2), .int .i64 0, .int .i64 0, .int .i64 0, .int .i64 0, .int .i64 0, .int .i64 0, .int .i64 0]) ?_ 5 _ rfl; (with_reducible repeat (first | refine blk_drewN ?_ _ | refine blk_drew ?_ | refine blk_alloc ?_ _)); refine blk_put (cs := #[.int .i64 ((rd_T64 l0_1 x8_1).f0), .int .i64 ((rd_T64 l0_1 x8_1).f1), .int .i64 ((rd_T64 l0_1 x8_1).f2.f0), .int .i64 ((rd_T64 l0_1 x8_1).f2.f1), .int .i64 0, .int .i64 0, .int .i64 0, .int .i64 0, .int .i64 0, .int .i64 0, .int .i64 0, .int .i64 0]) ?_ 4 _ rfl; (with_reducible repeat (first | refine blk_drewN ?_ _ | refine blk_drew ?_ | refine blk_alloc ?_ _)); refine blk_put (cs := #[.int .i64 ((rd_T64 l0_1 x8_1).f0), .int .i64 ((rd_T64 l0_1 x8_1).f1), .int .i64 ((rd_T64 l0_1 x8_1).f2.f0), .int .i64 0, .int .i64 0, .int .i64 0, .int .i64 0, .int .i64 0, .int .i64 0, .int .i64 0, .int .i64 0, .int .i64 0]) ?_ 3 _ rfl; (with_reducible repeat (first | refine blk_drewN ?_ _ | refine blk_drew ?_ | refine blk_alloc ?_ _)); refine blk_put (cs := #[.int .i64 ((rd_T64 l0_1 x8_1).f0), .int .i64 ((rd_T64 l0_1 x8_1).f1), .int .i64 0, .int .i64 0, .int .i64 0, .int .i64 0, .int .i64 0, .int .i64 0, .int .i64 0, .int .i64 0, .int .i64 0, .int .i64 0]) ?_ 2 _ rfl; (with_reducible repeat (first | refine blk_drewN ?_ _ | refine blk_drew ?_ | refine blk_alloc ?_ _)); refine blk_put (cs := #[.int .i64 ((rd_T64 l0_1 x8_1).f0), .int .i64 0, .int .i64 0, .int .i64 0, .int .i64 0, .int .i64 0, .int .i64 0, .int .i64 0, .int .i64 0, .int .i64 0, .int .i64 0, .int .i64 0]) ?_ 1 _ rfl; (with_reducible repeat (first | refine blk_drewN ?_ _ | refine blk_drew ?_ | refine blk_alloc ?_ _)); refine blk_put (cs := #[.int .i64 0, .int .i64 0, .int .i64 0, .int .i64 0, .int .i64 0, .int .i64 0, .int .i64 0, .int .i64 0, .int .i64 0, .int .i64 0, .int .i64 0, .int .i64 0]) ?_ 0 _ rfl; (with_reducible repeat (first | refine blk_drewN ?_ _ | refine blk_drew ?_ | refine blk_alloc ?_ _)); exact BK692.out⟩
            have n2_ : Aside0 (Below w.heap.size w ((((((((((((w27.setCell ⟨gb692, 0, none⟩ (.int .i64 ((rd_T64 l0_1 x8_1).f0))).setCell ⟨gb692, 1, none⟩ (.int .i64 ((rd_T64 l0_1 x8_1).f1))).setCell ⟨gb692, 2, none⟩ (.int .i64 ((rd_T64 l0_1 x8_1).f2.f0))).setCell ⟨gb692, 3, none⟩ (.int .i64 ((rd_T64 l0_1 x8_1).f2.f1))).setCell ⟨gb692, 4, none⟩ (.int .i64 ((rd_T64 l0_1 x8_1).f2.f2))).setCell ⟨gb692, 5, none⟩ (.int .i64 ((rd_T64 l0_1 x8_1).f2.f3))).setCell ⟨gb692, 6, none⟩ (.int .i64 ((rd_T64 l0_1 x8_1).f2.f4))).setCell ⟨gb692, 7, none⟩ (.int .i64 ((rd_T64 l0_1 x8_1).f2.f5))).setCell ⟨gb692, 8, none⟩ (.int .i64 ((rd_T64 l0_1 x8_1).f2.f6))).setCell ⟨gb692, 9, none⟩ (.int .i64 ((rd_T64 l0_1 x8_1).f2.f7))).setCell ⟨gb692, 10, none⟩ (.int .i64 ((rd_T64 l0_1 x8_1).f2.f8))).setCell ⟨gb692, 11, none⟩ (.int .i64 ((rd_T64 l0_1 x8_1).f2.f9)))) := ⟨pS HB.out⟩
            (try clear BK690)
            (try clear BK692)
            (try clear HB)
            generalize ((((((((((((w27.setCell ⟨gb692, 0, none⟩ (.int .i64 ((rd_T64 l0_1 x8_1).f0))).setCell ⟨gb692, 1, none⟩ (.int .i64 ((rd_T64 l0_1 x8_1).f1))).setCell ⟨gb692, 2, none⟩ (.int .i64 ((rd_T64 l0_1 x8_1).f2.f0))).setCell ⟨gb692, 3, none⟩ (.int .i64 ((rd_T64 l0_1 x8_1).f2.f1))).setCell ⟨gb692, 4, none⟩ (.int .i64 ((rd_T64 l0_1 x8_1).f2.f2))).setCell ⟨gb692, 5, none⟩ (.int .i64 ((rd_T64 l0_1 x8_1).f2.f3))).setCell ⟨gb692, 6, none⟩ (.int .i64 ((rd_T64 l0_1 x8_1).f2.f4))).setCell ⟨gb692, 7, none⟩ (.int .i64 ((rd_T64 l0_1 x8_1).f2.f5))).setCell ⟨gb692, 8, none⟩ (.int .i64 ((rd_T64 l0_1 x8_1).f2.f6))).setCell ⟨gb692, 9, none⟩ (.int .i64 ((rd_T64 l0_1 x8_1).f2.f7))).setCell ⟨gb692, 10, none⟩ (.int .i64 ((rd_T64 l0_1 x8_1).f2.f8))).setCell ⟨gb692, 11, none⟩ (.int .i64 ((rd_T64 l0_1 x8_1).f2.f9))) = w30 at n0_ n1_ n2_ ⊢
            have BK690 := n0_
            have BK692 := n1_
            have HB := n2_
            clear n0_ n1_ n2_
            have n0_ := Aside0.mk (blk_drew BK690.out)
            have n1_ := Aside0.mk (blk_drew BK692.out)
            have n2_ := Aside0.mk (below_drew1 HB.out)
            clear BK690
            clear BK692
            clear HB
            have BK690 := n0_
            have BK692 := n1_
            have HB := n2_
            clear n0_ n1_ n2_
            have p694 : 0 ≤ ((ji17) : Int) := of_decide_eq_true bA
            have q694 : (ji17) < (l0_1.length : Int) := of_decide_eq_true bA
            obtain ⟨ad694, e694, hx694_0, hx694_1, hx694_2, hx694_3, hx694_4, hx694_5, hx694_6, hx694_7, hx694_8, hx694_9, hx694_10, hx694_11⟩ := at_T64 HR0_1.out (ji17) p694 q694
            have hw694_11 := hx694_11
            have hw694_10 := hx694_10
            have hw694_9 := hx694_9
            have hw694_8 := hx694_8
            have hw694_7 := hx694_7
            have hw694_6 := hx694_6
            have hw694_5 := hx694_5
            have hw694_4 := hx694_4
            have hw694_3 := hx694_3
            have hw694_2 := hx694_2
            have hw694_1 := hx694_1
            have hw694_0 := hx694_0
            obtain rfl : ad691 = ad694 := (by injection e694)
            replace hx694_0 := (HB.out.cell (World.block_lt_of_cell? w _ hx694_0)).trans hx694_0
            replace hx694_1 := (HB.out.cell (World.block_lt_of_cell? w _ hx694_1)).trans hx694_1
            replace hx694_2 := (HB.out.cell (World.block_lt_of_cell? w _ hx694_2)).trans hx694_2
            replace hx694_3 := (HB.out.cell (World.block_lt_of_cell? w _ hx694_3)).trans hx694_3
            replace hx694_4 := (HB.out.cell (World.block_lt_of_cell? w _ hx694_4)).trans hx694_4
            replace hx694_5 := (HB.out.cell (World.block_lt_of_cell? w _ hx694_5)).trans hx694_5
            replace hx694_6 := (HB.out.cell (World.block_lt_of_cell? w _ hx694_6)).trans hx694_6
            replace hx694_7 := (HB.out.cell (World.block_lt_of_cell? w _ hx694_7)).trans hx694_7
            replace hx694_8 := (HB.out.cell (World.block_lt_of_cell? w _ hx694_8)).trans hx694_8
            replace hx694_9 := (HB.out.cell (World.block_lt_of_cell? w _ hx694_9)).trans hx694_9
            replace hx694_10 := (HB.out.cell (World.block_lt_of_cell? w _ hx694_10)).trans hx694_10
            replace hx694_11 := (HB.out.cell (World.block_lt_of_cell? w _ hx694_11)).trans hx694_11
            replace p694 := eq_true p694
            replace q694 := eq_true q694
            refine start_ (n := 26) (S := fun w' => w'.cell? ⟨gb692, 0, none⟩ = some (.int .i64 ((rd_T64 l0_1 x8_1).f0)) ∧ w'.cell? ⟨gb692, 1, none⟩ = some (.int .i64 ((rd_T64 l0_1 x8_1).f1)) ∧ w'.cell? ⟨gb692, 2, none⟩ = some (.int .i64 ((rd_T64 l0_1 x8_1).f2.f0)) ∧ w'.cell? ⟨gb692, 3, none⟩ = some (.int .i64 ((rd_T64 l0_1 x8_1).f2.f1)) ∧ w'.cell? ⟨gb692, 4, none⟩ = some (.int .i64 ((rd_T64 l0_1 x8_1).f2.f2)) ∧ w'.cell? ⟨gb692, 5, none⟩ = some (.int .i64 ((rd_T64 l0_1 x8_1).f2.f3)) ∧ w'.cell? ⟨gb692, 6, none⟩ = some (.int .i64 ((rd_T64 l0_1 x8_1).f2.f4)) ∧ w'.cell? ⟨gb692, 7, none⟩ = some (.int .i64 ((rd_T64 l0_1 x8_1).f2.f5)) ∧ w'.cell? ⟨gb692, 8, none⟩ = some (.int .i64 ((rd_T64 l0_1 x8_1).f2.f6)) ∧ w'.cell? ⟨gb692, 9, none⟩ = some (.int .i64 ((rd_T64 l0_1 x8_1).f2.f7)) ∧ w'.cell? ⟨gb692, 10, none⟩ = some (.int .i64 ((rd_T64 l0_1 x8_1).f2.f8)) ∧ w'.cell? ⟨gb692, 11, none⟩ = some (.int .i64 ((rd_T64 l0_1 x8_1).f2.f9)) ∧ w'.cell? ⟨gb690, 0, none⟩ = some (.int .i64 a0_0) ∧ w'.cell? ⟨gb690, 1, none⟩ = some (.slice (some ad691) l0_1.length c0_1) ∧ w'.cell? (ad691.add (((ji17)).toNat * 12)) = some (.int .i64 ((rd_T64 l0_1 (ji17)).f0)) ∧ w'.cell? ⟨(ad691.add (((ji17)).toNat * 12)).block, (ad691.add (((ji17)).toNat * 12)).off + 1, none⟩ = some (.int .i64 ((rd_T64 l0_1 (ji17)).f1)) ∧ w'.cell? ⟨(ad691.add (((ji17)).toNat * 12)).block, (ad691.add (((ji17)).toNat * 12)).off + 2, none⟩ = some (.int .i64 ((rd_T64 l0_1 (ji17)).f2.f0)) ∧ w'.cell? ⟨(ad691.add (((ji17)).toNat * 12)).block, (ad691.add (((ji17)).toNat * 12)).off + 3, none⟩ = some (.int .i64 ((rd_T64 l0_1 (ji17)).f2.f1)) ∧ w'.cell? ⟨(ad691.add (((ji17)).toNat * 12)).block, (ad691.add (((ji17)).toNat * 12)).off + 4, none⟩ = some (.int .i64 ((rd_T64 l0_1 (ji17)).f2.f2)) ∧ w'.cell? ⟨(ad691.add (((ji17)).toNat * 12)).block, (ad691.add (((ji17)).toNat * 12)).off + 5, none⟩ = some (.int .i64 ((rd_T64 l0_1 (ji17)).f2.f3)) ∧ w'.cell? ⟨(ad691.add (((ji17)).toNat * 12)).block, (ad691.add (((ji17)).toNat * 12)).off + 6, none⟩ = some (.int .i64 ((rd_T64 l0_1 (ji17)).f2.f4)) ∧ w'.cell? ⟨(ad691.add (((ji17)).toNat * 12)).block, (ad691.add (((ji17)).toNat * 12)).off + 7, none⟩ = some (.int .i64 ((rd_T64 l0_1 (ji17)).f2.f5)) ∧ w'.cell? ⟨(ad691.add (((ji17)).toNat * 12)).block, (ad691.add (((ji17)).toNat * 12)).off + 8, none⟩ = some (.int .i64 ((rd_T64 l0_1 (ji17)).f2.f6)) ∧ w'.cell? ⟨(ad691.add (((ji17)).toNat * 12)).block, (ad691.add (((ji17)).toNat * 12)).off + 9, none⟩ = some (.int .i64 ((rd_T64 l0_1 (ji17)).f2.f7)) ∧ w'.cell? ⟨(ad691.add (((ji17)).toNat * 12)).block, (ad691.add (((ji17)).toNat * 12)).off + 10, none⟩ = some (.int .i64 ((rd_T64 l0_1 (ji17)).f2.f8)) ∧ w'.cell? ⟨(ad691.add (((ji17)).toNat * 12)).block, (ad691.add (((ji17)).toNat * 12)).off + 11, none⟩ = some (.int .i64 ((rd_T64 l0_1 (ji17)).f2.f9))) (ds := []) #[false, false, false, false, false, false, false, false, false, false, false, false, false, false, false, false, false, false, false, false, false, false, false, false, false, false] (by kernel_rfl) rfl rfl ⟨(blk_cell BK692.out 0).trans rfl, (blk_cell BK692.out 1).trans rfl, (blk_cell BK692.out 2).trans rfl, (blk_cell BK692.out 3).trans rfl, (blk_cell BK692.out 4).trans rfl, (blk_cell BK692.out 5).trans rfl, (blk_cell BK692.out 6).trans rfl, (blk_cell BK692.out 7).trans rfl, (blk_cell BK692.out 8).trans rfl, (blk_cell BK692.out 9).trans rfl, (blk_cell BK692.out 10).trans rfl, (blk_cell BK692.out 11).trans rfl, (blk_cell BK690.out 0).trans rfl, (blk_cell BK690.out 1).trans rfl, ((HB.out.cell (World.block_lt_of_cell? w _ hw694_0)).trans hw694_0), ((HB.out.cell (World.block_lt_of_cell? w _ hw694_1)).trans hw694_1), ((HB.out.cell (World.block_lt_of_cell? w _ hw694_2)).trans hw694_2), ((HB.out.cell (World.block_lt_of_cell? w _ hw694_3)).trans hw694_3), ((HB.out.cell (World.block_lt_of_cell? w _ hw694_4)).trans hw694_4), ((HB.out.cell (World.block_lt_of_cell? w _ hw694_5)).trans hw694_5), ((HB.out.cell (World.block_lt_of_cell? w _ hw694_6)).trans hw694_6), ((HB.out.cell (World.block_lt_of_cell? w _ hw694_7)).trans hw694_7), ((HB.out.cell (World.block_lt_of_cell? w _ hw694_8)).trans hw694_8), ((HB.out.cell (World.block_lt_of_cell? w _ hw694_9)).trans hw694_9), ((HB.out.cell (World.block_lt_of_cell? w _ hw694_10)).trans hw694_10), ((HB.out.cell (World.block_lt_of_cell? w _ hw694_11)).trans hw694_11)⟩ (fun hHeld => ?_); refine with_tabW impl_SynVoterOk.tab4 impl_SynVoterOk.bits4 (fun HT_ HW_ => ?_)
            generalize w30.drew = w31 at BK690 BK692 HB hx694_0 hx694_1 hx694_10 hx694_11 hx694_2 hx694_3 hx694_4 hx694_5 hx694_6 hx694_7 hx694_8 hx694_9 hHeld ⊢
            refine take_ (i := 0) (N := some 13) (v := ?_) (a' := ?_) #[true, false, false, false, false, false, false, false, false, false, false, false, false, false, false, false, false, false, false, false, false, false, false, false, false, false] rfl rfl (take_ofW HT_.out HW_.out (by kernel_rfl)) (fun _ _ _ h => h) (Or.inl ⟨by rfl, ?_⟩) hHeld ?_ ?_
            rotate_left
            ·rintro w' ⟨s0, s1, s2, s3, s4, s5, s6, s7, s8, s9, s10, s11, s12, s13, s14, s15, s16, s17, s18, s19, s20, s21, s22, s23, s24, s25⟩
             go_simp
             with_reducible rfl
            rotate_left
            ·simp only [Act.put, List.setIfInBounds_toArray, List.set_cons_zero, List.set_cons_succ, i64_w, i32_w]
             rfl
            refine one_ (i := 1) (N := some 14) #[true, true, false, false, false, false, false, false, false, false, false, false, false, false, false, false, false, false, false, false, false, false, false, false, false, false] rfl rfl (one_of HT_.out (by kernel_rfl)) (by decide) (fun K hK => ?_)
            refine goes_ Try.func88 (by kernel_rfl) rfl #[.agg #[.int .i64 ((rd_T64 l0_1 x8_1).f0), .int .i64 ((rd_T64 l0_1 x8_1).f1), .int .i64 ((rd_T64 l0_1 x8_1).f2.f0), .int .i64 ((rd_T64 l0_1 x8_1).f2.f1), .int .i64 ((rd_T64 l0_1 x8_1).f2.f2), .int .i64 ((rd_T64 l0_1 x8_1).f2.f3), .int .i64 ((rd_T64 l0_1 x8_1).f2.f4), .int .i64 ((rd_T64 l0_1 x8_1).f2.f5), .int .i64 ((rd_T64 l0_1 x8_1).f2.f6), .int .i64 ((rd_T64 l0_1 x8_1).f2.f7), .int .i64 ((rd_T64 l0_1 x8_1).f2.f8), .int .i64 ((rd_T64 l0_1 x8_1).f2.f9)]] (by rfl) rfl rfl bM ?_
            with_reducible refine (impl_paperOk.calls k1 ((rd_T64 l0_1 x8_1).f0) ((rd_T64 l0_1 x8_1).f1) ((rd_T64 l0_1 x8_1).f2.f0) ((rd_T64 l0_1 x8_1).f2.f1) ((rd_T64 l0_1 x8_1).f2.f2) ((rd_T64 l0_1 x8_1).f2.f3) ((rd_T64 l0_1 x8_1).f2.f4) ((rd_T64 l0_1 x8_1).f2.f5) ((rd_T64 l0_1 x8_1).f2.f6) ((rd_T64 l0_1 x8_1).f2.f7) ((rd_T64 l0_1 x8_1).f2.f8) ((rd_T64 l0_1 x8_1).f2.f9) true _ A7.out).mono ?_
            rintro e w32 ⟨rfl, hb⟩
            refine ⟨_, rfl, ?_⟩
            have n0_ := Aside0.mk (blk_below (pK BK690.out) hb)
            have n1_ := Aside0.mk (blk_below (pK BK692.out) hb)
            have n2_ := Aside0.mk (below_step (pS HB.out) hb)
            clear BK690
            clear BK692
            clear HB
            have BK690 := n0_
            have BK692 := n1_
            have HB := n2_
            clear n0_ n1_ n2_
            (try clear hb)
            (try clear hb2)
            (try clear hk)
            (try clear hi)
            refine hK.out _ _ ⟨(blk_cell BK692.out 0).trans rfl, (blk_cell BK692.out 1).trans rfl, (blk_cell BK692.out 2).trans rfl, (blk_cell BK692.out 3).trans rfl, (blk_cell BK692.out 4).trans rfl, (blk_cell BK692.out 5).trans rfl, (blk_cell BK692.out 6).trans rfl, (blk_cell BK692.out 7).trans rfl, (blk_cell BK692.out 8).trans rfl, (blk_cell BK692.out 9).trans rfl, (blk_cell BK692.out 10).trans rfl, (blk_cell BK692.out 11).trans rfl, (blk_cell BK690.out 0).trans rfl, (blk_cell BK690.out 1).trans rfl, ((HB.out.cell (World.block_lt_of_cell? w _ hw694_0)).trans hw694_0), ((HB.out.cell (World.block_lt_of_cell? w _ hw694_1)).trans hw694_1), ((HB.out.cell (World.block_lt_of_cell? w _ hw694_2)).trans hw694_2), ((HB.out.cell (World.block_lt_of_cell? w _ hw694_3)).trans hw694_3), ((HB.out.cell (World.block_lt_of_cell? w _ hw694_4)).trans hw694_4), ((HB.out.cell (World.block_lt_of_cell? w _ hw694_5)).trans hw694_5), ((HB.out.cell (World.block_lt_of_cell? w _ hw694_6)).trans hw694_6), ((HB.out.cell (World.block_lt_of_cell? w _ hw694_7)).trans hw694_7), ((HB.out.cell (World.block_lt_of_cell? w _ hw694_8)).trans hw694_8), ((HB.out.cell (World.block_lt_of_cell? w _ hw694_9)).trans hw694_9), ((HB.out.cell (World.block_lt_of_cell? w _ hw694_10)).trans hw694_10), ((HB.out.cell (World.block_lt_of_cell? w _ hw694_11)).trans hw694_11)⟩ (fun hHeld => ?_)
            clear hK K
            refine norm_ (a' := ?_) ?_ ?_
            rotate_left
            ·show Act.put _ (some 14) _ = _
             simp only [Act.put, List.setIfInBounds_toArray, List.set_cons_zero, List.set_cons_succ, i64_w, i32_w]
             rfl
            refine pure_ (i := 2) (N := some 15) (v := ?_) (a' := ?_) #[true, true, true, false, false, false, false, false, false, false, false, false, false, false, false, false, false, false, false, false, false, false, false, false, false, false] rfl rfl (any_of HT_.out (by kernel_rfl)) (fun _ _ _ h => h) (Or.inl ⟨by rfl, ?_⟩) ?_ ?_
            rotate_left
            ·intro w'
             go_simp
             with_reducible rfl
            rotate_left
            ·simp only [Act.put, List.setIfInBounds_toArray, List.set_cons_zero, List.set_cons_succ, i64_w, i32_w]
             rfl
            refine pure_ (i := 3) (N := some 16) (v := ?_) (a' := ?_) #[true, true, true, true, false, false, false, false, false, false, false, false, false, false, false, false, false, false, false, false, false, false, false, false, false, false] rfl rfl (any_of HT_.out (by kernel_rfl)) (fun _ _ _ h => h) (Or.inl ⟨by rfl, ?_⟩) ?_ ?_
            rotate_left
            ·intro w'
             go_simp
             with_reducible rfl
            rotate_left
            ·simp only [Act.put, List.setIfInBounds_toArray, List.set_cons_zero, List.set_cons_succ, i64_w, i32_w]
             rfl
            refine pure_ (i := 4) (N := some 17) (v := ?_) (a' := ?_) #[true, true, true, true, true, false, false, false, false, false, false, false, false, false, false, false, false, false, false, false, false, false, false, false, false, false] rfl rfl (any_of HT_.out (by kernel_rfl)) (fun _ _ _ h => h) (Or.inl ⟨by rfl, ?_⟩) ?_ ?_
            rotate_left
            ·intro w'
             go_simp
             with_reducible rfl
            rotate_left
            ·simp only [Act.put, List.setIfInBounds_toArray, List.set_cons_zero, List.set_cons_succ, i64_w, i32_w]
             rfl
            refine pure_ (i := 6) (N := some 19) (v := ?_) (a' := ?_) #[true, true, true, true, true, false, true, false, false, false, false, false, false, false, false, false, false, false, false, false, false, false, false, false, false, false] rfl rfl (any_of HT_.out (by kernel_rfl)) (fun _ _ _ h => h) (Or.inl ⟨by rfl, ?_⟩) ?_ ?_
            rotate_left
            ·intro w'
             go_simp
             with_reducible rfl
            rotate_left
            ·simp only [Act.put, List.setIfInBounds_toArray, List.set_cons_zero, List.set_cons_succ, i64_w, i32_w]
             rfl
            refine take_ (i := 5) (N := some 18) (v := ?_) (a' := ?_) #[true, true, true, true, true, true, true, false, false, false, false, false, false, false, false, false, false, false, false, false, false, false, false, false, false, false] rfl rfl (take_ofW HT_.out HW_.out (by kernel_rfl)) (fun _ _ _ h => h) (Or.inl ⟨by rfl, ?_⟩) hHeld ?_ ?_
            rotate_left
            ·rintro w' ⟨s0, s1, s2, s3, s4, s5, s6, s7, s8, s9, s10, s11, s12, s13, s14, s15, s16, s17, s18, s19, s20, s21, s22, s23, s24, s25⟩
             go_simp
             with_reducible rfl
            rotate_left
            ·simp only [Act.put, List.setIfInBounds_toArray, List.set_cons_zero, List.set_cons_succ, i64_w, i32_w]
             rfl
            refine take_ (i := 7) (N := some 20) (v := ?_) (a' := ?_) #[true, true, true, true, true, true, true, true, false, false, false, false, false, false, false, false, false, false, false, false, false, false, false, false, false, false] rfl rfl (take_ofW HT_.out HW_.out (by kernel_rfl)) (fun _ _ _ h => h) (Or.inl ⟨by rfl, ?_⟩) hHeld ?_ ?_
            rotate_left
            ·rintro w' ⟨s0, s1, s2, s3, s4, s5, s6, s7, s8, s9, s10, s11, s12, s13, s14, s15, s16, s17, s18, s19, s20, s21, s22, s23, s24, s25⟩
             go_simp
             with_reducible rfl
            rotate_left
            ·simp only [Act.put, List.setIfInBounds_toArray, List.set_cons_zero, List.set_cons_succ, i64_w, i32_w]
             rfl
            refine pure_ (i := 8) (N := some 21) (v := ?_) (a' := ?_) #[true, true, true, true, true, true, true, true, true, false, false, false, false, false, false, false, false, false, false, false, false, false, false, false, false, false] rfl rfl (any_of HT_.out (by kernel_rfl)) (fun _ _ _ h => h) (Or.inl ⟨by rfl, ?_⟩) ?_ ?_
            rotate_left
            ·intro w'
             go_simp
             with_reducible rfl
            rotate_left
            ·simp only [Act.put, List.setIfInBounds_toArray, List.set_cons_zero, List.set_cons_succ, i64_w, i32_w]
             rfl
            refine pure_ (i := 9) (N := some 22) (v := ?_) (a' := ?_) #[true, true, true, true, true, true, true, true, true, true, false, false, false, false, false, false, false, false, false, false, false, false, false, false, false, false] rfl rfl (any_of HT_.out (by kernel_rfl)) (fun _ _ _ h => h) (Or.inl ⟨by rfl, ?_⟩) ?_ ?_
            rotate_left
            ·intro w'
             go_simp
             with_reducible rfl
            rotate_left
            ·simp only [Act.put, List.setIfInBounds_toArray, List.set_cons_zero, List.set_cons_succ, i64_w, i32_w]
             rfl
            refine pure_ (i := 10) (N := some 23) (v := ?_) (a' := ?_) #[true, true, true, true, true, true, true, true, true, true, true, false, false, false, false, false, false, false, false, false, false, false, false, false, false, false] rfl rfl (any_of HT_.out (by kernel_rfl)) (fun _ _ _ h => h) (Or.inl ⟨by rfl, ?_⟩) ?_ ?_
            rotate_left
            ·intro w'
             go_simp
             with_reducible rfl
            rotate_left
            ·simp only [Act.put, List.setIfInBounds_toArray, List.set_cons_zero, List.set_cons_succ, i64_w, i32_w]
             rfl
            refine pure_ (i := 11) (N := some 24) (v := ?_) (a' := ?_) #[true, true, true, true, true, true, true, true, true, true, true, true, false, false, false, false, false, false, false, false, false, false, false, false, false, false] rfl rfl (any_of HT_.out (by kernel_rfl)) (fun _ _ _ h => h) (Or.inl ⟨by rfl, ?_⟩) ?_ ?_
            rotate_left
            ·intro w'
             go_simp
             with_reducible rfl
            rotate_left
            ·simp only [Act.put, List.setIfInBounds_toArray, List.set_cons_zero, List.set_cons_succ, i64_w, i32_w]
             rfl
            refine pure_ (i := 12) (N := some 25) (v := ?_) (a' := ?_) #[true, true, true, true, true, true, true, true, true, true, true, true, true, false, false, false, false, false, false, false, false, false, false, false, false, false] rfl rfl (any_of HT_.out (by kernel_rfl)) (fun _ _ _ h => h) (Or.inl ⟨by rfl, ?_⟩) ?_ ?_
            rotate_left
            ·intro w'
             go_simp
             with_reducible rfl
            rotate_left
            ·simp only [Act.put, List.setIfInBounds_toArray, List.set_cons_zero, List.set_cons_succ, i64_w, i32_w]
             rfl
            refine pure_ (i := 13) (N := some 26) (v := ?_) (a' := ?_) #[true, true, true, true, true, true, true, true, true, true, true, true, true, true, false, false, false, false, false, false, false, false, false, false, false, false] rfl rfl (any_of HT_.out (by kernel_rfl)) (fun _ _ _ h => h) (Or.inl ⟨by rfl, ?_⟩) ?_ ?_
            rotate_left
            ·intro w'
             go_simp
             with_reducible rfl
            rotate_left
            ·simp only [Act.put, List.setIfInBounds_toArray, List.set_cons_zero, List.set_cons_succ, i64_w, i32_w]
             rfl
            refine pure_ (i := 14) (N := some 27) (v := ?_) (a' := ?_) #[true, true, true, true, true, true, true, true, true, true, true, true, true, true, true, false, false, false, false, false, false, false, false, false, false, false] rfl rfl (any_of HT_.out (by kernel_rfl)) (fun _ _ _ h => h) (Or.inl ⟨by rfl, ?_⟩) ?_ ?_
            rotate_left
            ·intro w'
             go_simp
             with_reducible rfl
            rotate_left
            ·simp only [Act.put, List.setIfInBounds_toArray, List.set_cons_zero, List.set_cons_succ, i64_w, i32_w]
             rfl
            refine pure_ (i := 16) (N := some 29) (v := ?_) (a' := ?_) #[true, true, true, true, true, true, true, true, true, true, true, true, true, true, true, false, true, false, false, false, false, false, false, false, false, false] rfl rfl (any_of HT_.out (by kernel_rfl)) (fun _ _ _ h => h) (Or.inl ⟨by rfl, ?_⟩) ?_ ?_
            rotate_left
            ·intro w'
             go_simp
             with_reducible rfl
            rotate_left
            ·simp only [Act.put, List.setIfInBounds_toArray, List.set_cons_zero, List.set_cons_succ, i64_w, i32_w]
             rfl
            refine pure_ (i := 17) (N := some 30) (v := ?_) (a' := ?_) #[true, true, true, true, true, true, true, true, true, true, true, true, true, true, true, false, true, true, false, false, false, false, false, false, false, false] rfl rfl (any_of HT_.out (by kernel_rfl)) (fun _ _ _ h => h) (Or.inl ⟨by rfl, ?_⟩) ?_ ?_
            rotate_left
            ·intro w'
             go_simp
             with_reducible rfl
            rotate_left
            ·simp only [Act.put, List.setIfInBounds_toArray, List.set_cons_zero, List.set_cons_succ, i64_w, i32_w]
             rfl
            refine pure_ (i := 21) (N := some 34) (v := ?_) (a' := ?_) #[true, true, true, true, true, true, true, true, true, true, true, true, true, true, true, false, true, true, false, false, false, true, false, false, false, false] rfl rfl (any_of HT_.out (by kernel_rfl)) (fun _ _ _ h => h) (Or.inl ⟨by rfl, ?_⟩) ?_ ?_
            rotate_left
            ·intro w'
             go_simp
             with_reducible rfl
            rotate_left
            ·simp only [Act.put, List.setIfInBounds_toArray, List.set_cons_zero, List.set_cons_succ, i64_w, i32_w]
             rfl
            refine take_ (i := 15) (N := some 28) (v := ?_) (a' := ?_) #[true, true, true, true, true, true, true, true, true, true, true, true, true, true, true, true, true, true, false, false, false, true, false, false, false, false] rfl rfl (take_ofW HT_.out HW_.out (by kernel_rfl)) (fun _ _ _ h => h) (Or.inl ⟨by rfl, ?_⟩) hHeld ?_ ?_
            rotate_left
            ·rintro w' ⟨s0, s1, s2, s3, s4, s5, s6, s7, s8, s9, s10, s11, s12, s13, s14, s15, s16, s17, s18, s19, s20, s21, s22, s23, s24, s25⟩
             go_simp
             with_reducible rfl
            rotate_left
            ·simp only [Act.put, List.setIfInBounds_toArray, List.set_cons_zero, List.set_cons_succ, i64_w, i32_w]
             rfl
            refine pure_ (i := 18) (N := some 31) (v := ?_) (a' := ?_) #[true, true, true, true, true, true, true, true, true, true, true, true, true, true, true, true, true, true, true, false, false, true, false, false, false, false] rfl rfl (any_of HT_.out (by kernel_rfl)) (fun _ _ _ h => h) (Or.inl ⟨by rfl, ?_⟩) ?_ ?_
            rotate_left
            ·intro w'
             go_simp
             with_reducible rfl
            rotate_left
            ·simp only [Act.put, List.setIfInBounds_toArray, List.set_cons_zero, List.set_cons_succ, i64_w, i32_w]
             rfl
            refine pure_ (i := 19) (N := some 32) (v := ?_) (a' := ?_) #[true, true, true, true, true, true, true, true, true, true, true, true, true, true, true, true, true, true, true, true, false, true, false, false, false, false] rfl rfl (any_of HT_.out (by kernel_rfl)) (fun _ _ _ h => h) (Or.inl ⟨by rfl, ?_⟩) ?_ ?_
            rotate_left
            ·intro w'
             go_simp
             with_reducible rfl
            rotate_left
            ·simp only [Act.put, List.setIfInBounds_toArray, List.set_cons_zero, List.set_cons_succ, i64_w, i32_w]
             rfl
            refine take_ (i := 20) (N := some 33) (v := ?_) (a' := ?_) #[true, true, true, true, true, true, true, true, true, true, true, true, true, true, true, true, true, true, true, true, true, true, false, false, false, false] rfl rfl (take_ofW HT_.out HW_.out (by kernel_rfl)) (fun _ _ _ h => h) (Or.inl ⟨by rfl, ?_⟩) hHeld ?_ ?_
            rotate_left
            ·rintro w' ⟨s0, s1, s2, s3, s4, s5, s6, s7, s8, s9, s10, s11, s12, s13, s14, s15, s16, s17, s18, s19, s20, s21, s22, s23, s24, s25⟩
             go_simp
             with_reducible rfl
            rotate_left
            ·simp only [Act.put, List.setIfInBounds_toArray, List.set_cons_zero, List.set_cons_succ, i64_w, i32_w]
             rfl
            refine take_ (i := 22) (N := some 35) (v := ?_) (a' := ?_) #[true, true, true, true, true, true, true, true, true, true, true, true, true, true, true, true, true, true, true, true, true, true, true, false, false, false] rfl rfl (take_ofW HT_.out HW_.out (by kernel_rfl)) (fun _ _ _ h => h) (Or.inl ⟨by rfl, ?_⟩) hHeld ?_ ?_
            rotate_left
            ·rintro w' ⟨s0, s1, s2, s3, s4, s5, s6, s7, s8, s9, s10, s11, s12, s13, s14, s15, s16, s17, s18, s19, s20, s21, s22, s23, s24, s25⟩
             go_simp
             with_reducible rfl
            rotate_left
            ·simp only [Act.put, List.setIfInBounds_toArray, List.set_cons_zero, List.set_cons_succ, i64_w, i32_w]
             rfl
            refine pure_ (i := 23) (N := some 36) (v := ?_) (a' := ?_) #[true, true, true, true, true, true, true, true, true, true, true, true, true, true, true, true, true, true, true, true, true, true, true, true, false, false] rfl rfl (any_of HT_.out (by kernel_rfl)) (fun _ _ _ h => h) (Or.inl ⟨by rfl, ?_⟩) ?_ ?_
            rotate_left
            ·intro w'
             go_simp
             with_reducible rfl
            rotate_left
            ·simp only [Act.put, List.setIfInBounds_toArray, List.set_cons_zero, List.set_cons_succ, i64_w, i32_w]
             rfl
            refine pure_ (i := 24) (N := some 37) (v := ?_) (a' := ?_) #[true, true, true, true, true, true, true, true, true, true, true, true, true, true, true, true, true, true, true, true, true, true, true, true, true, false] rfl rfl (any_of HT_.out (by kernel_rfl)) (fun _ _ _ h => h) (Or.inl ⟨by rfl, ?_⟩) ?_ ?_
            rotate_left
            ·intro w'
             go_simp
             with_reducible rfl
            rotate_left
            ·simp only [Act.put, List.setIfInBounds_toArray, List.set_cons_zero, List.set_cons_succ, i64_w, i32_w]
             rfl
            refine pure_ (i := 25) (N := some 38) (v := ?_) (a' := ?_) #[true, true, true, true, true, true, true, true, true, true, true, true, true, true, true, true, true, true, true, true, true, true, true, true, true, true] rfl rfl (any_of HT_.out (by kernel_rfl)) (fun _ _ _ h => h) (Or.inl ⟨by rfl, ?_⟩) ?_ ?_
            rotate_left
            ·intro w'
             go_simp
             with_reducible rfl
            rotate_left
            ·simp only [Act.put, List.setIfInBounds_toArray, List.set_cons_zero, List.set_cons_succ, i64_w, i32_w]
             rfl
            refine done_ (done_of HT_.out (by kernel_rfl)) ?_
            try go_wp2
            go_roundg k1
            case measure => have := HK1.out; omega
            case rel => exact ⟨(wrap64 (x8_1 + 1)), (by first | rfl | (simp; done) | (simp [*]; done)), H', ⟨by have := HK1.out; omega⟩, ⟨pK BK690.out⟩, ⟨pS HB.out⟩⟩
          ·rw [if_neg c19] at H
           exact absurd H (by simp)
         ·rw [if_neg c18] at H
          exact absurd H (by simp)
        ·rw [if_neg c16] at H
         have c16b0 : decide (0 < x8_1) = false := decide_eq_false c16
         clear c16
         have H' := Aside0.mk H
         clear H
         have p691 : 0 ≤ (x8_1 : Int) := of_decide_eq_true bA
         have q691 : x8_1 < (l0_1.length : Int) := of_decide_eq_true bA
         obtain ⟨ad691, e691, hx691_0, hx691_1, hx691_2, hx691_3, hx691_4, hx691_5, hx691_6, hx691_7, hx691_8, hx691_9, hx691_10, hx691_11⟩ := at_T64 HR0_1.out x8_1 p691 q691
         cases e691
         replace hx691_0 := (HB.out.cell (World.block_lt_of_cell? w _ hx691_0)).trans hx691_0
         replace hx691_1 := (HB.out.cell (World.block_lt_of_cell? w _ hx691_1)).trans hx691_1
         replace hx691_2 := (HB.out.cell (World.block_lt_of_cell? w _ hx691_2)).trans hx691_2
         replace hx691_3 := (HB.out.cell (World.block_lt_of_cell? w _ hx691_3)).trans hx691_3
         replace hx691_4 := (HB.out.cell (World.block_lt_of_cell? w _ hx691_4)).trans hx691_4
         replace hx691_5 := (HB.out.cell (World.block_lt_of_cell? w _ hx691_5)).trans hx691_5
         replace hx691_6 := (HB.out.cell (World.block_lt_of_cell? w _ hx691_6)).trans hx691_6
         replace hx691_7 := (HB.out.cell (World.block_lt_of_cell? w _ hx691_7)).trans hx691_7
         replace hx691_8 := (HB.out.cell (World.block_lt_of_cell? w _ hx691_8)).trans hx691_8
         replace hx691_9 := (HB.out.cell (World.block_lt_of_cell? w _ hx691_9)).trans hx691_9
         replace hx691_10 := (HB.out.cell (World.block_lt_of_cell? w _ hx691_10)).trans hx691_10
         replace hx691_11 := (HB.out.cell (World.block_lt_of_cell? w _ hx691_11)).trans hx691_11
         replace p691 := eq_true p691
         replace q691 := eq_true q691
         try go_wp2_with (first | ((with_reducible refine gate_dst (N := 4) rfl ?_); (try (refine gate_guard (by rfl) ?_; dsimp only)); refine box_event ?hg (N := 4) ?hd (cs := #[.int .i64 0, .int .i64 0, .int .i64 0, .int .i64 0, .int .i64 0, .int .i64 0, .int .i64 0, .int .i64 0, .int .i64 0, .int .i64 0, .int .i64 0, .int .i64 0]) (t := 64) ?hr ?_; (case hd => rfl); (case hg => rfl); (case hr => first | (go_simp; done) | (go_simp; rfl)); intro gb692 hg w33 hbox hb; have n0_ := Aside0.mk (blk_below (pK BK690.out) hb); have n1_ := Aside0.mk (below_step (pS HB.out) hb); have n2_ := Aside0.mk (hbox); have n3_ := Aside0.mk ((by rw [hg]; exact (below_size (pS HB.out)) : w.heap.size ≤ gb692)); have n4_ := Aside0.mk ((by rw [hg]; exact (below_size (pS HB.out)) : w.heap.size ≤ gb692)); have n5_ := Aside0.mk ((by rw [hg]; exact Nat.ne_of_lt (blk_lt (pK BK690.out)) : gb690 ≠ gb692)); have n6_ := Aside0.mk ((by rw [hg]; exact Nat.ne_of_gt (blk_lt (pK BK690.out)) : gb692 ≠ gb690)); clear BK690; clear HB; have BK690 := n0_; have HB := n1_; have BK692 := n2_; have GW692 := n3_; have GE692 := n4_; have NB690_692 := n5_; have NB692_690 := n6_; clear n0_ n1_ n2_ n3_ n4_ n5_ n6_; clear hb hbox hg; have hnb34 := NB692_690.out; have hnc34 := NB690_692.out; have hcz35_0 : w33.cell? ⟨gb692, 0, none⟩ = some (.int .i64 0) := (blk_cell BK692.out 0).trans rfl; have hcz35_1 : w33.cell? ⟨gb692, 1, none⟩ = some (.int .i64 0) := (blk_cell BK692.out 1).trans rfl; have hcz35_2 : w33.cell? ⟨gb692, 2, none⟩ = some (.int .i64 0) := (blk_cell BK692.out 2).trans rfl; have hcz35_3 : w33.cell? ⟨gb692, 3, none⟩ = some (.int .i64 0) := (blk_cell BK692.out 3).trans rfl; have hcz35_4 : w33.cell? ⟨gb692, 4, none⟩ = some (.int .i64 0) := (blk_cell BK692.out 4).trans rfl; have hcz35_5 : w33.cell? ⟨gb692, 5, none⟩ = some (.int .i64 0) := (blk_cell BK692.out 5).trans rfl; have hcz35_6 : w33.cell? ⟨gb692, 6, none⟩ = some (.int .i64 0) := (blk_cell BK692.out 6).trans rfl; have hcz35_7 : w33.cell? ⟨gb692, 7, none⟩ = some (.int .i64 0) := (blk_cell BK692.out 7).trans rfl; have hcz35_8 : w33.cell? ⟨gb692, 8, none⟩ = some (.int .i64 0) := (blk_cell BK692.out 8).trans rfl; have hcz35_9 : w33.cell? ⟨gb692, 9, none⟩ = some (.int .i64 0) := (blk_cell BK692.out 9).trans rfl; have hcz35_10 : w33.cell? ⟨gb692, 10, none⟩ = some (.int .i64 0) := (blk_cell BK692.out 10).trans rfl; have hcz35_11 : w33.cell? ⟨gb692, 11, none⟩ = some (.int .i64 0) := (blk_cell BK692.out 11).trans rfl; have hfz35_0 := blk_frozen BK692.out 0; have hfz35_1 := blk_frozen BK692.out 1; have hfz35_2 := blk_frozen BK692.out 2; have hfz35_3 := blk_frozen BK692.out 3; have hfz35_4 := blk_frozen BK692.out 4; have hfz35_5 := blk_frozen BK692.out 5; have hfz35_6 := blk_frozen BK692.out 6; have hfz35_7 := blk_frozen BK692.out 7; have hfz35_8 := blk_frozen BK692.out 8; have hfz35_9 := blk_frozen BK692.out 9; have hfz35_10 := blk_frozen BK692.out 10; have hfz35_11 := blk_frozen BK692.out 11))
         have n0_ : Aside0 (((((((((((((w33.setCell ⟨gb692, 0, none⟩ (.int .i64 ((rd_T64 l0_1 x8_1).f0))).setCell ⟨gb692, 1, none⟩ (.int .i64 ((rd_T64 l0_1 x8_1).f1))).setCell ⟨gb692, 2, none⟩ (.int .i64 ((rd_T64 l0_1 x8_1).f2.f0))).setCell ⟨gb692, 3, none⟩ (.int .i64 ((rd_T64 l0_1 x8_1).f2.f1))).setCell ⟨gb692, 4, none⟩ (.int .i64 ((rd_T64 l0_1 x8_1).f2.f2))).setCell ⟨gb692, 5, none⟩ (.int .i64 ((rd_T64 l0_1 x8_1).f2.f3))).setCell ⟨gb692, 6, none⟩ (.int .i64 ((rd_T64 l0_1 x8_1).f2.f4))).setCell ⟨gb692, 7, none⟩ (.int .i64 ((rd_T64 l0_1 x8_1).f2.f5))).setCell ⟨gb692, 8, none⟩ (.int .i64 ((rd_T64 l0_1 x8_1).f2.f6))).setCell ⟨gb692, 9, none⟩ (.int .i64 ((rd_T64 l0_1 x8_1).f2.f7))).setCell ⟨gb692, 10, none⟩ (.int .i64 ((rd_T64 l0_1 x8_1).f2.f8))).setCell ⟨gb692, 11, none⟩ (.int .i64 ((rd_T64 l0_1 x8_1).f2.f9))).heap[gb690]? = some (.cells #[.int .i64 a0_0, .slice (some ad691) l0_1.length c0_1] 52 (0, 0))) := ⟨by (with_reducible repeat (first | refine blk_drewN ?_ _ | refine blk_drew ?_ | refine blk_alloc ?_ _)); refine blk_far ?_ NB690_692.out _; (with_reducible repeat (first | refine blk_drewN ?_ _ | refine blk_drew ?_ | refine blk_alloc ?_ _)); refine blk_far ?_ NB690_692.out _; (with_reducible repeat (first | refine blk_drewN ?_ _ | refine blk_drew ?_ | refine blk_alloc ?_ _)); refine blk_far ?_ NB690_692.out _; (with_reducible repeat (first | refine blk_drewN ?_ _ | refine blk_drew ?_ | refine blk_alloc ?_ _)); refine blk_far ?_ NB690_692.out _; (with_reducible repeat (first | refine blk_drewN ?_ _ | refine blk_drew ?_ | refine blk_alloc ?_ _)); refine blk_far ?_ NB690_692.out _; (with_reducible repeat (first | refine blk_drewN ?_ _ | refine blk_drew ?_ | refine blk_alloc ?_ _)); refine blk_far ?_ NB690_692.out _; (with_reducible repeat (first | refine blk_drewN ?_ _ | refine blk_drew ?_ | refine blk_alloc ?_ _)); refine blk_far ?_ NB690_692.out _; (with_reducible repeat (first | refine blk_drewN ?_ _ | refine blk_drew ?_ | refine blk_alloc ?_ _)); refine blk_far ?_ NB690_692.out _; (with_reducible repeat (first | refine blk_drewN ?_ _ | refine blk_drew ?_ | refine blk_alloc ?_ _)); refine blk_far ?_ NB690_692.out _; (with_reducible repeat (first | refine blk_drewN ?_ _ | refine blk_drew ?_ | refine blk_alloc ?_ _)); refine blk_far ?_ NB690_692.out _; (with_reducible repeat (first | refine blk_drewN ?_ _ | refine blk_drew ?_ | refine blk_alloc ?_ _)); refine blk_far ?_ NB690_692.out _; (with_reducible repeat (first | refine blk_drewN ?_ _ | refine blk_drew ?_ | refine blk_alloc ?_ _)); refine blk_far ?_ NB690_692.out _; (with_reducible repeat (first | refine blk_drewN ?_ _ | refine blk_drew ?_ | refine blk_alloc ?_ _)); exact BK690.out⟩
         have n1_ : Aside0 (((((((((((((w33.setCell ⟨gb692, 0, none⟩ (.int .i64 ((rd_T64 l0_1 x8_1).f0))).setCell ⟨gb692, 1, none⟩ (.int .i64 ((rd_T64 l0_1 x8_1).f1))).setCell ⟨gb692, 2, none⟩ (.int .i64 ((rd_T64 l0_1 x8_1).f2.f0))).setCell ⟨gb692, 3, none⟩ (.int .i64 ((rd_T64 l0_1 x8_1).f2.f1))).setCell ⟨gb692, 4, none⟩ (.int .i64 ((rd_T64 l0_1 x8_1).f2.f2))).setCell ⟨gb692, 5, none⟩ (.int .i64 ((rd_T64 l0_1 x8_1).f2.f3))).setCell ⟨gb692, 6, none⟩ (.int .i64 ((rd_T64 l0_1 x8_1).f2.f4))).setCell ⟨gb692, 7, none⟩ (.int .i64 ((rd_T64 l0_1 x8_1).f2.f5))).setCell ⟨gb692, 8, none⟩ (.int .i64 ((rd_T64 l0_1 x8_1).f2.f6))).setCell ⟨gb692, 9, none⟩ (.int .i64 ((rd_T64 l0_1 x8_1).f2.f7))).setCell ⟨gb692, 10, none⟩ (.int .i64 ((rd_T64 l0_1 x8_1).f2.f8))).setCell ⟨gb692, 11, none⟩ (.int .i64 ((rd_T64 l0_1 x8_1).f2.f9))).heap[gb692]? = some (.cells #[.int .i64 ((rd_T64 l0_1 x8_1).f0), .int .i64 ((rd_T64 l0_1 x8_1).f1), .int .i64 ((rd_T64 l0_1 x8_1).f2.f0), .int .i64 ((rd_T64 l0_1 x8_1).f2.f1), .int .i64 ((rd_T64 l0_1 x8_1).f2.f2), .int .i64 ((rd_T64 l0_1 x8_1).f2.f3), .int .i64 ((rd_T64 l0_1 x8_1).f2.f4), .int .i64 ((rd_T64 l0_1 x8_1).f2.f5), .int .i64 ((rd_T64 l0_1 x8_1).f2.f6), .int .i64 ((rd_T64 l0_1 x8_1).f2.f7), .int .i64 ((rd_T64 l0_1 x8_1).f2.f8), .int .i64 ((rd_T64 l0_1 x8_1).f2.f9)] 64 (0, 0))) := ⟨by (with_reducible repeat (first | refine blk_drewN ?_ _ | refine blk_drew ?_ | refine blk_alloc ?_ _)); refine blk_put (cs := #[.int .i64 ((rd_T64 l0_1 x8_1).f0), .int .i64 ((rd_T64 l0_1 x8_1).f1), .int .i64 ((rd_T64 l0_1 x8_1).f2.f0), .int .i64 ((rd_T64 l0_1 x8_1).f2.f1), .int .i64 ((rd_T64 l0_1 x8_1).f2.f2), .int .i64 ((rd_T64 l0_1 x8_1).f2.f3), .int .i64 ((rd_T64 l0_1 x8_1).f2.f4), .int .i64 ((rd_T64 l0_1 x8_1).f2.f5), .int .i64 ((rd_T64 l0_1 x8_1).f2.f6), .int .i64 ((rd_T64 l0_1 x8_1).f2.f7), .int .i64 ((rd_T64 l0_1 x8_1).f2.f8), .int .i64 0]) ?_ 11 _ rfl; (with_reducible repeat (first | refine blk_drewN ?_ _ | refine blk_drew ?_ | refine blk_alloc ?_ _)); refine blk_put (cs := #[.int .i64 ((rd_T64 l0_1 x8_1).f0), .int .i64 ((rd_T64 l0_1 x8_1).f1), .int .i64 ((rd_T64 l0_1 x8_1).f2.f0), .int .i64 ((rd_T64 l0_1 x8_1).f2.f1), .int .i64 ((rd_T64 l0_1 x8_1).f2.f2), .int .i64 ((rd_T64 l0_1 x8_1).f2.f3), .int .i64 ((rd_T64 l0_1 x8_1).f2.f4), .int .i64 ((rd_T64 l0_1 x8_1).f2.f5), .int .i64 ((rd_T64 l0_1 x8_1).f2.f6), .int .i64 ((rd_T64 l0_1 x8_1).f2.f7), .int .i64 0, .int .i64 0]) ?_ 10 _ rfl; (with_reducible repeat (first | refine blk_drewN ?_ _ | refine blk_drew ?_ | refine blk_alloc ?_ _)); refine blk_put (cs := #[.int .i64 ((rd_T64 l0_1 x8_1).f0), .int .i64 ((rd_T64 l0_1 x8_1).f1), .int .i64 ((rd_T64 l0_1 x8_1).f2.f0), .int .i64 ((rd_T64 l0_1 x8_1).f2.f1), .int .i64 ((rd_T64 l0_1 x8_1).f2.f2), .int .i64 ((rd_T64 l0_1 x8_1).f2.f3), .int .i64 ((rd_T64 l0_1 x8_1).f2.f4), .int .i64 ((rd_T64 l0_1 x8_1).f2.f5), .int .i64 ((rd_T64 l0_1 x8_1).f2.f6), .int .i64 0, .int .i64 0, .int .i64 0]) ?_ 9 _ rfl; (with_reducible repeat (first | refine blk_drewN ?_ _ | refine blk_drew ?_ | refine blk_alloc ?_ _)); refine blk_put (cs := #[.int .i64 ((rd_T64 l0_1 x8_1).f0), .int .i64 ((rd_T64 l0_1 x8_1).f1), .int .i64 ((rd_T64 l0_1 x8_1).f2.f0), .int .i64 ((rd_T64 l0_1 x8_1).f2.f1), .int .i64 ((rd_T64 l0_1 x8_1).f2.f2), .int .i64 ((rd_T64 l0_1 x8_1).f2.f3), .int .i64 ((rd_T64 l0_1 x8_1).f2.f4), .int .i64 ((rd_T64 l0_1 x8_1).f2.f5), .int .i64 0, .int .i64 0, .int .i64 0, .int .i64 0]) ?_ 8 _ rfl; (with_reducible repeat (first | refine blk_drewN ?_ _ | refine blk_drew ?_ | refine blk_alloc ?_ _)); refine blk_put (cs := #[.int .i64 ((rd_T64 l0_1 x8_1).f0), .int .i64 ((rd_T64 l0_1 x8_1).f1), .int .i64 ((rd_T64 l0_1 x8_1).f2.f0), .int .i64 ((rd_T64 l0_1 x8_1).f2.f1), .int .i64 ((rd_T64 l0_1 x8_1).f2.f2), .int .i64 ((rd_T64 l0_1 x8_1).f2.f3), .int .i64 ((rd_T64 l0_1 x8_1).f2.f4), .int .i64 0, .int .i64 0, .int .i64 0, .int .i64 0, .int .i64 0]) ?_ 7 _ rfl; (with_reducible repeat (first | refine blk_drewN ?_ _ | refine blk_drew ?_ | refine blk_alloc ?_ _)); refine blk_put (cs := #[.int .i64 ((rd_T64 l0_1 x8_1).f0), .int .i64 ((rd_T64 l0_1 x8_1).f1), .int .i64 ((rd_T64 l0_1 x8_1).f2.f0), .int .i64 ((rd_T64 l0_1 x8_1).f2.f1), .int .i64 ((rd_T64 l0_1 x8_1).f2.f2), .int .i64 ((rd_T64 l0_1 x8_1).f2.f3), .int .i64 0, .int .i64 0, .int .i64 0, .int .i64 0, .int .i64 0, .int .i64 0]) ?_ 6 _ rfl; (with_reducible repeat (first | refine blk_drewN ?_ _ | refine blk_drew ?_ | refine blk_alloc ?_ _)); refine blk_put (cs := #[.int .i64 ((rd_T64 l0_1 x8_1).f0), .int .i64 ((rd_T64 l0_1 x8_1).f1), .int .i64 ((rd_T64 l0_1 x8_1).f2.f0), .int .i64 ((rd_T64 l0_1 x8_1).f2.f1), .int .i64 ((rd_T64 l0_1 x8_1).f2.f2), .int .i64 0, .int .i64 0, .int .i64 0, .int .i64 0, .int .i64 0, .int .i64 0, .int .i64 0]) ?_ 5 _ rfl; (with_reducible repeat (first | refine blk_drewN ?_ _ | refine blk_drew ?_ | refine blk_alloc ?_ _)); refine blk_put (cs := #[.int .i64 ((rd_T64 l0_1 x8_1).f0), .int .i64 ((rd_T64 l0_1 x8_1).f1), .int .i64 ((rd_T64 l0_1 x8_1).f2.f0), .int .i64 ((rd_T64 l0_1 x8_1).f2.f1), .int .i64 0, .int .i64 0, .int .i64 0, .int .i64 0, .int .i64 0, .int .i64 0, .int .i64 0, .int .i64 0]) ?_ 4 _ rfl; (with_reducible repeat (first | refine blk_drewN ?_ _ | refine blk_drew ?_ | refine blk_alloc ?_ _)); refine blk_put (cs := #[.int .i64 ((rd_T64 l0_1 x8_1).f0), .int .i64 ((rd_T64 l0_1 x8_1).f1), .int .i64 ((rd_T64 l0_1 x8_1).f2.f0), .int .i64 0, .int .i64 0, .int .i64 0, .int .i64 0, .int .i64 0, .int .i64 0, .int .i64 0, .int .i64 0, .int .i64 0]) ?_ 3 _ rfl; (with_reducible repeat (first | refine blk_drewN ?_ _ | refine blk_drew ?_ | refine blk_alloc ?_ _)); refine blk_put (cs := #[.int .i64 ((rd_T64 l0_1 x8_1).f0), .int .i64 ((rd_T64 l0_1 x8_1).f1), .int .i64 0, .int .i64 0, .int .i64 0, .int .i64 0, .int .i64 0, .int .i64 0, .int .i64 0, .int .i64 0, .int .i64 0, .int .i64 0]) ?_ 2 _ rfl; (with_reducible repeat (first | refine blk_drewN ?_ _ | refine blk_drew ?_ | refine blk_alloc ?_ _)); refine blk_put (cs := #[.int .i64 ((rd_T64 l0_1 x8_1).f0), .int .i64 0, .int .i64 0, .int .i64 0, .int .i64 0, .int .i64 0, .int .i64 0, .int .i64 0, .int .i64 0, .int .i64 0, .int .i64 0, .int .i64 0]) ?_ 1 _ rfl; (with_reducible repeat (first | refine blk_drewN ?_ _ | refine blk_drew ?_ | refine blk_alloc ?_ _)); refine blk_put (cs := #[.int .i64 0, .int .i64 0, .int .i64 0, .int .i64 0, .int .i64 0, .int .i64 0, .int .i64 0, .int .i64 0, .int .i64 0, .int .i64 0, .int .i64 0, .int .i64 0]) ?_ 0 _ rfl; (with_reducible repeat (first | refine blk_drewN ?_ _ | refine blk_drew ?_ | refine blk_alloc ?_ _)); exact BK692.out⟩
         have n2_ : Aside0 (Below w.heap.size w ((((((((((((w33.setCell ⟨gb692, 0, none⟩ (.int .i64 ((rd_T64 l0_1 x8_1).f0))).setCell ⟨gb692, 1, none⟩ (.int .i64 ((rd_T64 l0_1 x8_1).f1))).setCell ⟨gb692, 2, none⟩ (.int .i64 ((rd_T64 l0_1 x8_1).f2.f0))).setCell ⟨gb692, 3, none⟩ (.int .i64 ((rd_T64 l0_1 x8_1).f2.f1))).setCell ⟨gb692, 4, none⟩ (.int .i64 ((rd_T64 l0_1 x8_1).f2.f2))).setCell ⟨gb692, 5, none⟩ (.int .i64 ((rd_T64 l0_1 x8_1).f2.f3))).setCell ⟨gb692, 6, none⟩ (.int .i64 ((rd_T64 l0_1 x8_1).f2.f4))).setCell ⟨gb692, 7, none⟩ (.int .i64 ((rd_T64 l0_1 x8_1).f2.f5))).setCell ⟨gb692, 8, none⟩ (.int .i64 ((rd_T64 l0_1 x8_1).f2.f6))).setCell ⟨gb692, 9, none⟩ (.int .i64 ((rd_T64 l0_1 x8_1).f2.f7))).setCell ⟨gb692, 10, none⟩ (.int .i64 ((rd_T64 l0_1 x8_1).f2.f8))).setCell ⟨gb692, 11, none⟩ (.int .i64 ((rd_T64 l0_1 x8_1).f2.f9)))) := ⟨pS HB.out⟩
         (try clear BK690)
         (try clear BK692)
         (try clear HB)
         generalize ((((((((((((w33.setCell ⟨gb692, 0, none⟩ (.int .i64 ((rd_T64 l0_1 x8_1).f0))).setCell ⟨gb692, 1, none⟩ (.int .i64 ((rd_T64 l0_1 x8_1).f1))).setCell ⟨gb692, 2, none⟩ (.int .i64 ((rd_T64 l0_1 x8_1).f2.f0))).setCell ⟨gb692, 3, none⟩ (.int .i64 ((rd_T64 l0_1 x8_1).f2.f1))).setCell ⟨gb692, 4, none⟩ (.int .i64 ((rd_T64 l0_1 x8_1).f2.f2))).setCell ⟨gb692, 5, none⟩ (.int .i64 ((rd_T64 l0_1 x8_1).f2.f3))).setCell ⟨gb692, 6, none⟩ (.int .i64 ((rd_T64 l0_1 x8_1).f2.f4))).setCell ⟨gb692, 7, none⟩ (.int .i64 ((rd_T64 l0_1 x8_1).f2.f5))).setCell ⟨gb692, 8, none⟩ (.int .i64 ((rd_T64 l0_1 x8_1).f2.f6))).setCell ⟨gb692, 9, none⟩ (.int .i64 ((rd_T64 l0_1 x8_1).f2.f7))).setCell ⟨gb692, 10, none⟩ (.int .i64 ((rd_T64 l0_1 x8_1).f2.f8))).setCell ⟨gb692, 11, none⟩ (.int .i64 ((rd_T64 l0_1 x8_1).f2.f9))) = w36 at n0_ n1_ n2_ ⊢
         have BK690 := n0_
         have BK692 := n1_
         have HB := n2_
         clear n0_ n1_ n2_
         have n0_ := Aside0.mk (blk_drew BK690.out)
         have n1_ := Aside0.mk (blk_drew BK692.out)
         have n2_ := Aside0.mk (below_drew1 HB.out)
         clear BK690
         clear BK692
         clear HB
         have BK690 := n0_
         have BK692 := n1_
         have HB := n2_
         clear n0_ n1_ n2_
         refine start_ (n := 26) (S := fun w' => w'.cell? ⟨gb692, 0, none⟩ = some (.int .i64 ((rd_T64 l0_1 x8_1).f0)) ∧ w'.cell? ⟨gb692, 1, none⟩ = some (.int .i64 ((rd_T64 l0_1 x8_1).f1)) ∧ w'.cell? ⟨gb692, 2, none⟩ = some (.int .i64 ((rd_T64 l0_1 x8_1).f2.f0)) ∧ w'.cell? ⟨gb692, 3, none⟩ = some (.int .i64 ((rd_T64 l0_1 x8_1).f2.f1)) ∧ w'.cell? ⟨gb692, 4, none⟩ = some (.int .i64 ((rd_T64 l0_1 x8_1).f2.f2)) ∧ w'.cell? ⟨gb692, 5, none⟩ = some (.int .i64 ((rd_T64 l0_1 x8_1).f2.f3)) ∧ w'.cell? ⟨gb692, 6, none⟩ = some (.int .i64 ((rd_T64 l0_1 x8_1).f2.f4)) ∧ w'.cell? ⟨gb692, 7, none⟩ = some (.int .i64 ((rd_T64 l0_1 x8_1).f2.f5)) ∧ w'.cell? ⟨gb692, 8, none⟩ = some (.int .i64 ((rd_T64 l0_1 x8_1).f2.f6)) ∧ w'.cell? ⟨gb692, 9, none⟩ = some (.int .i64 ((rd_T64 l0_1 x8_1).f2.f7)) ∧ w'.cell? ⟨gb692, 10, none⟩ = some (.int .i64 ((rd_T64 l0_1 x8_1).f2.f8)) ∧ w'.cell? ⟨gb692, 11, none⟩ = some (.int .i64 ((rd_T64 l0_1 x8_1).f2.f9)) ∧ w'.cell? ⟨gb690, 0, none⟩ = some (.int .i64 a0_0) ∧ w'.cell? ⟨gb690, 1, none⟩ = some (.slice (some ad691) l0_1.length c0_1)) (ds := []) #[false, false, false, false, false, false, false, false, false, false, false, false, false, false, false, false, false, false, false, false, false, false, false, false, false, false] (by kernel_rfl) rfl rfl ⟨(blk_cell BK692.out 0).trans rfl, (blk_cell BK692.out 1).trans rfl, (blk_cell BK692.out 2).trans rfl, (blk_cell BK692.out 3).trans rfl, (blk_cell BK692.out 4).trans rfl, (blk_cell BK692.out 5).trans rfl, (blk_cell BK692.out 6).trans rfl, (blk_cell BK692.out 7).trans rfl, (blk_cell BK692.out 8).trans rfl, (blk_cell BK692.out 9).trans rfl, (blk_cell BK692.out 10).trans rfl, (blk_cell BK692.out 11).trans rfl, (blk_cell BK690.out 0).trans rfl, (blk_cell BK690.out 1).trans rfl⟩ (fun hHeld => ?_); refine with_tabW impl_SynVoterOk.tab4 impl_SynVoterOk.bits4 (fun HT_ HW_ => ?_)
         generalize w36.drew = w37 at BK690 BK692 HB hHeld ⊢
         refine take_ (i := 0) (N := some 13) (v := ?_) (a' := ?_) #[true, false, false, false, false, false, false, false, false, false, false, false, false, false, false, false, false, false, false, false, false, false, false, false, false, false] rfl rfl (take_ofW HT_.out HW_.out (by kernel_rfl)) (fun _ _ _ h => h) (Or.inl ⟨by rfl, ?_⟩) hHeld ?_ ?_
         rotate_left
         ·rintro w' ⟨s0, s1, s2, s3, s4, s5, s6, s7, s8, s9, s10, s11, s12, s13⟩
          go_simp
          with_reducible rfl
         rotate_left
         ·simp only [Act.put, List.setIfInBounds_toArray, List.set_cons_zero, List.set_cons_succ, i64_w, i32_w]
          rfl
         refine one_ (i := 1) (N := some 14) #[true, true, false, false, false, false, false, false, false, false, false, false, false, false, false, false, false, false, false, false, false, false, false, false, false, false] rfl rfl (one_of HT_.out (by kernel_rfl)) (by decide) (fun K hK => ?_)
         refine goes_ Try.func88 (by kernel_rfl) rfl #[.agg #[.int .i64 ((rd_T64 l0_1 x8_1).f0), .int .i64 ((rd_T64 l0_1 x8_1).f1), .int .i64 ((rd_T64 l0_1 x8_1).f2.f0), .int .i64 ((rd_T64 l0_1 x8_1).f2.f1), .int .i64 ((rd_T64 l0_1 x8_1).f2.f2), .int .i64 ((rd_T64 l0_1 x8_1).f2.f3), .int .i64 ((rd_T64 l0_1 x8_1).f2.f4), .int .i64 ((rd_T64 l0_1 x8_1).f2.f5), .int .i64 ((rd_T64 l0_1 x8_1).f2.f6), .int .i64 ((rd_T64 l0_1 x8_1).f2.f7), .int .i64 ((rd_T64 l0_1 x8_1).f2.f8), .int .i64 ((rd_T64 l0_1 x8_1).f2.f9)]] (by rfl) rfl rfl bM ?_
         with_reducible refine (impl_paperOk.calls k1 ((rd_T64 l0_1 x8_1).f0) ((rd_T64 l0_1 x8_1).f1) ((rd_T64 l0_1 x8_1).f2.f0) ((rd_T64 l0_1 x8_1).f2.f1) ((rd_T64 l0_1 x8_1).f2.f2) ((rd_T64 l0_1 x8_1).f2.f3) ((rd_T64 l0_1 x8_1).f2.f4) ((rd_T64 l0_1 x8_1).f2.f5) ((rd_T64 l0_1 x8_1).f2.f6) ((rd_T64 l0_1 x8_1).f2.f7) ((rd_T64 l0_1 x8_1).f2.f8) ((rd_T64 l0_1 x8_1).f2.f9) true _ A7.out).mono ?_
         rintro e w38 ⟨rfl, hb⟩
         refine ⟨_, rfl, ?_⟩
         have n0_ := Aside0.mk (blk_below (pK BK690.out) hb)
         have n1_ := Aside0.mk (blk_below (pK BK692.out) hb)
         have n2_ := Aside0.mk (below_step (pS HB.out) hb)
         clear BK690
         clear BK692
         clear HB
         have BK690 := n0_
         have BK692 := n1_
         have HB := n2_
         clear n0_ n1_ n2_
         (try clear hb)
         (try clear hb2)
         (try clear hk)
         (try clear hi)
         refine hK.out _ _ ⟨(blk_cell BK692.out 0).trans rfl, (blk_cell BK692.out 1).trans rfl, (blk_cell BK692.out 2).trans rfl, (blk_cell BK692.out 3).trans rfl, (blk_cell BK692.out 4).trans rfl, (blk_cell BK692.out 5).trans rfl, (blk_cell BK692.out 6).trans rfl, (blk_cell BK692.out 7).trans rfl, (blk_cell BK692.out 8).trans rfl, (blk_cell BK692.out 9).trans rfl, (blk_cell BK692.out 10).trans rfl, (blk_cell BK692.out 11).trans rfl, (blk_cell BK690.out 0).trans rfl, (blk_cell BK690.out 1).trans rfl⟩ (fun hHeld => ?_)
         clear hK K
         refine norm_ (a' := ?_) ?_ ?_
         rotate_left
         ·show Act.put _ (some 14) _ = _
          simp only [Act.put, List.setIfInBounds_toArray, List.set_cons_zero, List.set_cons_succ, i64_w, i32_w]
          rfl
         refine pure_ (i := 2) (N := some 15) (v := ?_) (a' := ?_) #[true, true, true, false, false, false, false, false, false, false, false, false, false, false, false, false, false, false, false, false, false, false, false, false, false, false] rfl rfl (any_of HT_.out (by kernel_rfl)) (fun _ _ _ h => h) (Or.inl ⟨by rfl, ?_⟩) ?_ ?_
         rotate_left
         ·intro w'
          go_simp
          with_reducible rfl
         rotate_left
         ·simp only [Act.put, List.setIfInBounds_toArray, List.set_cons_zero, List.set_cons_succ, i64_w, i32_w]
          rfl
         refine pure_ (i := 3) (N := some 16) (v := ?_) (a' := ?_) #[true, true, true, true, false, false, false, false, false, false, false, false, false, false, false, false, false, false, false, false, false, false, false, false, false, false] rfl rfl (any_of HT_.out (by kernel_rfl)) (fun _ _ _ h => h) (Or.inl ⟨by rfl, ?_⟩) ?_ ?_
         rotate_left
         ·intro w'
          go_simp
          with_reducible rfl
         rotate_left
         ·simp only [Act.put, List.setIfInBounds_toArray, List.set_cons_zero, List.set_cons_succ, i64_w, i32_w]
          rfl
         refine pure_ (i := 4) (N := some 17) (v := ?_) (a' := ?_) #[true, true, true, true, true, false, false, false, false, false, false, false, false, false, false, false, false, false, false, false, false, false, false, false, false, false] rfl rfl (any_of HT_.out (by kernel_rfl)) (fun _ _ _ h => h) (Or.inl ⟨by rfl, ?_⟩) ?_ ?_
         rotate_left
         ·intro w'
          go_simp
          with_reducible rfl
         rotate_left
         ·simp only [Act.put, List.setIfInBounds_toArray, List.set_cons_zero, List.set_cons_succ, i64_w, i32_w]
          rfl
         refine pure_ (i := 6) (N := some 19) (v := ?_) (a' := ?_) #[true, true, true, true, true, false, true, false, false, false, false, false, false, false, false, false, false, false, false, false, false, false, false, false, false, false] rfl rfl (any_of HT_.out (by kernel_rfl)) (fun _ _ _ h => h) (Or.inl ⟨by rfl, ?_⟩) ?_ ?_
         rotate_left
         ·intro w'
          go_simp
          with_reducible rfl
         rotate_left
         ·simp only [Act.put, List.setIfInBounds_toArray, List.set_cons_zero, List.set_cons_succ, i64_w, i32_w]
          rfl
         refine take_ (i := 5) (N := some 18) (v := ?_) (a' := ?_) #[true, true, true, true, true, true, true, false, false, false, false, false, false, false, false, false, false, false, false, false, false, false, false, false, false, false] rfl rfl (take_ofW HT_.out HW_.out (by kernel_rfl)) (fun _ _ _ h => h) (Or.inl ⟨by rfl, ?_⟩) hHeld ?_ ?_
         rotate_left
         ·rintro w' ⟨s0, s1, s2, s3, s4, s5, s6, s7, s8, s9, s10, s11, s12, s13⟩
          go_simp
          with_reducible rfl
         rotate_left
         ·simp only [Act.put, List.setIfInBounds_toArray, List.set_cons_zero, List.set_cons_succ, i64_w, i32_w]
          rfl
         refine take_ (i := 7) (N := some 20) (v := ?_) (a' := ?_) #[true, true, true, true, true, true, true, true, false, false, false, false, false, false, false, false, false, false, false, false, false, false, false, false, false, false] rfl rfl (take_ofW HT_.out HW_.out (by kernel_rfl)) (fun _ _ _ h => h) (Or.inl ⟨by rfl, ?_⟩) hHeld ?_ ?_
         rotate_left
         ·rintro w' ⟨s0, s1, s2, s3, s4, s5, s6, s7, s8, s9, s10, s11, s12, s13⟩
          go_simp
          with_reducible rfl
         rotate_left
         ·simp only [Act.put, List.setIfInBounds_toArray, List.set_cons_zero, List.set_cons_succ, i64_w, i32_w]
          rfl
         refine pure_ (i := 8) (N := some 21) (v := ?_) (a' := ?_) #[true, true, true, true, true, true, true, true, true, false, false, false, false, false, false, false, false, false, false, false, false, false, false, false, false, false] rfl rfl (any_of HT_.out (by kernel_rfl)) (fun _ _ _ h => h) (Or.inl ⟨by rfl, ?_⟩) ?_ ?_
         rotate_left
         ·intro w'
          go_simp
          with_reducible rfl
         rotate_left
         ·simp only [Act.put, List.setIfInBounds_toArray, List.set_cons_zero, List.set_cons_succ, i64_w, i32_w]
          rfl
         refine pure_ (i := 9) (N := some 22) (v := ?_) (a' := ?_) #[true, true, true, true, true, true, true, true, true, true, false, false, false, false, false, false, false, false, false, false, false, false, false, false, false, false] rfl rfl (any_of HT_.out (by kernel_rfl)) (fun _ _ _ h => h) (Or.inl ⟨by rfl, ?_⟩) ?_ ?_
         rotate_left
         ·intro w'
          go_simp
          with_reducible rfl
         rotate_left
         ·simp only [Act.put, List.setIfInBounds_toArray, List.set_cons_zero, List.set_cons_succ, i64_w, i32_w]
          rfl
         refine pure_ (i := 10) (N := some 23) (v := ?_) (a' := ?_) #[true, true, true, true, true, true, true, true, true, true, true, false, false, false, false, false, false, false, false, false, false, false, false, false, false, false] rfl rfl (any_of HT_.out (by kernel_rfl)) (fun _ _ _ h => h) (Or.inl ⟨by rfl, ?_⟩) ?_ ?_
         rotate_left
         ·intro w'
          go_simp
          with_reducible rfl
         rotate_left
         ·simp only [Act.put, List.setIfInBounds_toArray, List.set_cons_zero, List.set_cons_succ, i64_w, i32_w]
          rfl
         refine pure_ (i := 11) (N := some 24) (v := ?_) (a' := ?_) #[true, true, true, true, true, true, true, true, true, true, true, true, false, false, false, false, false, false, false, false, false, false, false, false, false, false] rfl rfl (any_of HT_.out (by kernel_rfl)) (fun _ _ _ h => h) (Or.inl ⟨by rfl, ?_⟩) ?_ ?_
         rotate_left
         ·intro w'
          go_simp
          with_reducible rfl
         rotate_left
         ·simp only [Act.put, List.setIfInBounds_toArray, List.set_cons_zero, List.set_cons_succ, i64_w, i32_w]
          rfl
         refine pure_ (i := 12) (N := some 25) (v := ?_) (a' := ?_) #[true, true, true, true, true, true, true, true, true, true, true, true, true, false, false, false, false, false, false, false, false, false, false, false, false, false] rfl rfl (any_of HT_.out (by kernel_rfl)) (fun _ _ _ h => h) (Or.inl ⟨by rfl, ?_⟩) ?_ ?_
         rotate_left
         ·intro w'
          go_simp
          with_reducible rfl
         rotate_left
         ·simp only [Act.put, List.setIfInBounds_toArray, List.set_cons_zero, List.set_cons_succ, i64_w, i32_w]
          rfl
         refine pure_ (i := 13) (N := some 26) (v := ?_) (a' := ?_) #[true, true, true, true, true, true, true, true, true, true, true, true, true, true, false, false, false, false, false, false, false, false, false, false, false, false] rfl rfl (any_of HT_.out (by kernel_rfl)) (fun _ _ _ h => h) (Or.inl ⟨by rfl, ?_⟩) ?_ ?_
         rotate_left
         ·intro w'
          go_simp
          with_reducible rfl
         rotate_left
         ·simp only [Act.put, List.setIfInBounds_toArray, List.set_cons_zero, List.set_cons_succ, i64_w, i32_w]
          rfl
         refine pure_ (i := 14) (N := some 27) (v := undef) (a' := ?_) #[true, true, true, true, true, true, true, true, true, true, true, true, true, true, true, false, false, false, false, false, false, false, false, false, false, false] rfl rfl (any_of HT_.out (by kernel_rfl)) (fun _ _ _ h => h) (Or.inr ⟨by rfl, rfl⟩) ?_ ?_
         rotate_left
         ·simp only [Act.put, List.setIfInBounds_toArray, List.set_cons_zero, List.set_cons_succ, i64_w, i32_w]
          rfl
         refine pure_ (i := 15) (N := some 28) (v := undef) (a' := ?_) #[true, true, true, true, true, true, true, true, true, true, true, true, true, true, true, true, false, false, false, false, false, false, false, false, false, false] rfl rfl (any_of HT_.out (by kernel_rfl)) (fun _ _ _ h => h) (Or.inr ⟨by rfl, rfl⟩) ?_ ?_
         rotate_left
         ·simp only [Act.put, List.setIfInBounds_toArray, List.set_cons_zero, List.set_cons_succ, i64_w, i32_w]
          rfl
         refine pure_ (i := 16) (N := some 29) (v := undef) (a' := ?_) #[true, true, true, true, true, true, true, true, true, true, true, true, true, true, true, true, true, false, false, false, false, false, false, false, false, false] rfl rfl (any_of HT_.out (by kernel_rfl)) (fun _ _ _ h => h) (Or.inr ⟨by rfl, rfl⟩) ?_ ?_
         rotate_left
         ·simp only [Act.put, List.setIfInBounds_toArray, List.set_cons_zero, List.set_cons_succ, i64_w, i32_w]
          rfl
         refine pure_ (i := 17) (N := some 30) (v := undef) (a' := ?_) #[true, true, true, true, true, true, true, true, true, true, true, true, true, true, true, true, true, true, false, false, false, false, false, false, false, false] rfl rfl (any_of HT_.out (by kernel_rfl)) (fun _ _ _ h => h) (Or.inr ⟨by rfl, rfl⟩) ?_ ?_
         rotate_left
         ·simp only [Act.put, List.setIfInBounds_toArray, List.set_cons_zero, List.set_cons_succ, i64_w, i32_w]
          rfl
         refine pure_ (i := 18) (N := some 31) (v := undef) (a' := ?_) #[true, true, true, true, true, true, true, true, true, true, true, true, true, true, true, true, true, true, true, false, false, false, false, false, false, false] rfl rfl (any_of HT_.out (by kernel_rfl)) (fun _ _ _ h => h) (Or.inr ⟨by rfl, rfl⟩) ?_ ?_
         rotate_left
         ·simp only [Act.put, List.setIfInBounds_toArray, List.set_cons_zero, List.set_cons_succ, i64_w, i32_w]
          rfl
         refine pure_ (i := 19) (N := some 32) (v := undef) (a' := ?_) #[true, true, true, true, true, true, true, true, true, true, true, true, true, true, true, true, true, true, true, true, false, false, false, false, false, false] rfl rfl (any_of HT_.out (by kernel_rfl)) (fun _ _ _ h => h) (Or.inr ⟨by rfl, rfl⟩) ?_ ?_
         rotate_left
         ·simp only [Act.put, List.setIfInBounds_toArray, List.set_cons_zero, List.set_cons_succ, i64_w, i32_w]
          rfl
         refine pure_ (i := 20) (N := some 33) (v := undef) (a' := ?_) #[true, true, true, true, true, true, true, true, true, true, true, true, true, true, true, true, true, true, true, true, true, false, false, false, false, false] rfl rfl (any_of HT_.out (by kernel_rfl)) (fun _ _ _ h => h) (Or.inr ⟨by rfl, rfl⟩) ?_ ?_
         rotate_left
         ·simp only [Act.put, List.setIfInBounds_toArray, List.set_cons_zero, List.set_cons_succ, i64_w, i32_w]
          rfl
         refine pure_ (i := 21) (N := some 34) (v := undef) (a' := ?_) #[true, true, true, true, true, true, true, true, true, true, true, true, true, true, true, true, true, true, true, true, true, true, false, false, false, false] rfl rfl (any_of HT_.out (by kernel_rfl)) (fun _ _ _ h => h) (Or.inr ⟨by rfl, rfl⟩) ?_ ?_
         rotate_left
         ·simp only [Act.put, List.setIfInBounds_toArray, List.set_cons_zero, List.set_cons_succ, i64_w, i32_w]
          rfl
         refine pure_ (i := 22) (N := some 35) (v := undef) (a' := ?_) #[true, true, true, true, true, true, true, true, true, true, true, true, true, true, true, true, true, true, true, true, true, true, true, false, false, false] rfl rfl (any_of HT_.out (by kernel_rfl)) (fun _ _ _ h => h) (Or.inr ⟨by rfl, rfl⟩) ?_ ?_
         rotate_left
         ·simp only [Act.put, List.setIfInBounds_toArray, List.set_cons_zero, List.set_cons_succ, i64_w, i32_w]
          rfl
         refine pure_ (i := 23) (N := some 36) (v := undef) (a' := ?_) #[true, true, true, true, true, true, true, true, true, true, true, true, true, true, true, true, true, true, true, true, true, true, true, true, false, false] rfl rfl (any_of HT_.out (by kernel_rfl)) (fun _ _ _ h => h) (Or.inr ⟨by rfl, rfl⟩) ?_ ?_
         rotate_left
         ·simp only [Act.put, List.setIfInBounds_toArray, List.set_cons_zero, List.set_cons_succ, i64_w, i32_w]
          rfl
         refine pure_ (i := 24) (N := some 37) (v := ?_) (a' := ?_) #[true, true, true, true, true, true, true, true, true, true, true, true, true, true, true, true, true, true, true, true, true, true, true, true, true, false] rfl rfl (any_of HT_.out (by kernel_rfl)) (fun _ _ _ h => h) (Or.inl ⟨by rfl, ?_⟩) ?_ ?_
         rotate_left
         ·intro w'
          go_simp
          with_reducible rfl
         rotate_left
         ·simp only [Act.put, List.setIfInBounds_toArray, List.set_cons_zero, List.set_cons_succ, i64_w, i32_w]
          rfl
         refine pure_ (i := 25) (N := some 38) (v := ?_) (a' := ?_) #[true, true, true, true, true, true, true, true, true, true, true, true, true, true, true, true, true, true, true, true, true, true, true, true, true, true] rfl rfl (any_of HT_.out (by kernel_rfl)) (fun _ _ _ h => h) (Or.inl ⟨by rfl, ?_⟩) ?_ ?_
         rotate_left
         ·intro w'
          go_simp
          with_reducible rfl
         rotate_left
         ·simp only [Act.put, List.setIfInBounds_toArray, List.set_cons_zero, List.set_cons_succ, i64_w, i32_w]
          rfl
         refine done_ (done_of HT_.out (by kernel_rfl)) ?_
         try go_wp2
         go_roundg k1
         case measure => have := HK1.out; omega
         case rel => exact ⟨(wrap64 (x8_1 + 1)), (by first | rfl | (simp; done) | (simp [*]; done)), H', ⟨by have := HK1.out; omega⟩, ⟨pK BK690.out⟩, ⟨pS HB.out⟩⟩
      ·replace c8 := Bool.eq_false_iff.mpr c8
       subst c8
       have H1 : (some false) = some r := by rw [if_neg (show ¬ (false = true) by decide)] at H; exact H
       clear H
       have H := H1
       clear H1
       obtain rfl := Option.some.inj H
       have p691 : 0 ≤ (x8_1 : Int) := of_decide_eq_true bA
       have q691 : x8_1 < (l0_1.length : Int) := of_decide_eq_true bA
       obtain ⟨ad691, e691, hx691_0, hx691_1, hx691_2, hx691_3, hx691_4, hx691_5, hx691_6, hx691_7, hx691_8, hx691_9, hx691_10, hx691_11⟩ := at_T64 HR0_1.out x8_1 p691 q691
       cases e691
       replace hx691_0 := (HB.out.cell (World.block_lt_of_cell? w _ hx691_0)).trans hx691_0
       replace hx691_1 := (HB.out.cell (World.block_lt_of_cell? w _ hx691_1)).trans hx691_1
       replace hx691_2 := (HB.out.cell (World.block_lt_of_cell? w _ hx691_2)).trans hx691_2
       replace hx691_3 := (HB.out.cell (World.block_lt_of_cell? w _ hx691_3)).trans hx691_3
       replace hx691_4 := (HB.out.cell (World.block_lt_of_cell? w _ hx691_4)).trans hx691_4
       replace hx691_5 := (HB.out.cell (World.block_lt_of_cell? w _ hx691_5)).trans hx691_5
       replace hx691_6 := (HB.out.cell (World.block_lt_of_cell? w _ hx691_6)).trans hx691_6
       replace hx691_7 := (HB.out.cell (World.block_lt_of_cell? w _ hx691_7)).trans hx691_7
       replace hx691_8 := (HB.out.cell (World.block_lt_of_cell? w _ hx691_8)).trans hx691_8
       replace hx691_9 := (HB.out.cell (World.block_lt_of_cell? w _ hx691_9)).trans hx691_9
       replace hx691_10 := (HB.out.cell (World.block_lt_of_cell? w _ hx691_10)).trans hx691_10
       replace hx691_11 := (HB.out.cell (World.block_lt_of_cell? w _ hx691_11)).trans hx691_11
       replace p691 := eq_true p691
       replace q691 := eq_true q691
       try go_wp2_with (first | ((with_reducible refine gate_dst (N := 4) rfl ?_); (try (refine gate_guard (by rfl) ?_; dsimp only)); refine box_event ?hg (N := 4) ?hd (cs := #[.int .i64 0, .int .i64 0, .int .i64 0, .int .i64 0, .int .i64 0, .int .i64 0, .int .i64 0, .int .i64 0, .int .i64 0, .int .i64 0, .int .i64 0, .int .i64 0]) (t := 64) ?hr ?_; (case hd => rfl); (case hg => rfl); (case hr => first | (go_simp; done) | (go_simp; rfl)); intro gb692 hg w39 hbox hb; have n0_ := Aside0.mk (blk_below (pK BK690.out) hb); have n1_ := Aside0.mk (below_step (pS HB.out) hb); have n2_ := Aside0.mk (hbox); have n3_ := Aside0.mk ((by rw [hg]; exact (below_size (pS HB.out)) : w.heap.size ≤ gb692)); have n4_ := Aside0.mk ((by rw [hg]; exact (below_size (pS HB.out)) : w.heap.size ≤ gb692)); have n5_ := Aside0.mk ((by rw [hg]; exact Nat.ne_of_lt (blk_lt (pK BK690.out)) : gb690 ≠ gb692)); have n6_ := Aside0.mk ((by rw [hg]; exact Nat.ne_of_gt (blk_lt (pK BK690.out)) : gb692 ≠ gb690)); clear BK690; clear HB; have BK690 := n0_; have HB := n1_; have BK692 := n2_; have GW692 := n3_; have GE692 := n4_; have NB690_692 := n5_; have NB692_690 := n6_; clear n0_ n1_ n2_ n3_ n4_ n5_ n6_; clear hb hbox hg; have hnb40 := NB692_690.out; have hnc40 := NB690_692.out; have hcz41_0 : w39.cell? ⟨gb692, 0, none⟩ = some (.int .i64 0) := (blk_cell BK692.out 0).trans rfl; have hcz41_1 : w39.cell? ⟨gb692, 1, none⟩ = some (.int .i64 0) := (blk_cell BK692.out 1).trans rfl; have hcz41_2 : w39.cell? ⟨gb692, 2, none⟩ = some (.int .i64 0) := (blk_cell BK692.out 2).trans rfl; have hcz41_3 : w39.cell? ⟨gb692, 3, none⟩ = some (.int .i64 0) := (blk_cell BK692.out 3).trans rfl; have hcz41_4 : w39.cell? ⟨gb692, 4, none⟩ = some (.int .i64 0) := (blk_cell BK692.out 4).trans rfl; have hcz41_5 : w39.cell? ⟨gb692, 5, none⟩ = some (.int .i64 0) := (blk_cell BK692.out 5).trans rfl; have hcz41_6 : w39.cell? ⟨gb692, 6, none⟩ = some (.int .i64 0) := (blk_cell BK692.out 6).trans rfl; have hcz41_7 : w39.cell? ⟨gb692, 7, none⟩ = some (.int .i64 0) := (blk_cell BK692.out 7).trans rfl; have hcz41_8 : w39.cell? ⟨gb692, 8, none⟩ = some (.int .i64 0) := (blk_cell BK692.out 8).trans rfl; have hcz41_9 : w39.cell? ⟨gb692, 9, none⟩ = some (.int .i64 0) := (blk_cell BK692.out 9).trans rfl; have hcz41_10 : w39.cell? ⟨gb692, 10, none⟩ = some (.int .i64 0) := (blk_cell BK692.out 10).trans rfl; have hcz41_11 : w39.cell? ⟨gb692, 11, none⟩ = some (.int .i64 0) := (blk_cell BK692.out 11).trans rfl; have hfz41_0 := blk_frozen BK692.out 0; have hfz41_1 := blk_frozen BK692.out 1; have hfz41_2 := blk_frozen BK692.out 2; have hfz41_3 := blk_frozen BK692.out 3; have hfz41_4 := blk_frozen BK692.out 4; have hfz41_5 := blk_frozen BK692.out 5; have hfz41_6 := blk_frozen BK692.out 6; have hfz41_7 := blk_frozen BK692.out 7; have hfz41_8 := blk_frozen BK692.out 8; have hfz41_9 := blk_frozen BK692.out 9; have hfz41_10 := blk_frozen BK692.out 10; have hfz41_11 := blk_frozen BK692.out 11))
       have n0_ : Aside0 (((((((((((((w39.setCell ⟨gb692, 0, none⟩ (.int .i64 ((rd_T64 l0_1 x8_1).f0))).setCell ⟨gb692, 1, none⟩ (.int .i64 ((rd_T64 l0_1 x8_1).f1))).setCell ⟨gb692, 2, none⟩ (.int .i64 ((rd_T64 l0_1 x8_1).f2.f0))).setCell ⟨gb692, 3, none⟩ (.int .i64 ((rd_T64 l0_1 x8_1).f2.f1))).setCell ⟨gb692, 4, none⟩ (.int .i64 ((rd_T64 l0_1 x8_1).f2.f2))).setCell ⟨gb692, 5, none⟩ (.int .i64 ((rd_T64 l0_1 x8_1).f2.f3))).setCell ⟨gb692, 6, none⟩ (.int .i64 ((rd_T64 l0_1 x8_1).f2.f4))).setCell ⟨gb692, 7, none⟩ (.int .i64 ((rd_T64 l0_1 x8_1).f2.f5))).setCell ⟨gb692, 8, none⟩ (.int .i64 ((rd_T64 l0_1 x8_1).f2.f6))).setCell ⟨gb692, 9, none⟩ (.int .i64 ((rd_T64 l0_1 x8_1).f2.f7))).setCell ⟨gb692, 10, none⟩ (.int .i64 ((rd_T64 l0_1 x8_1).f2.f8))).setCell ⟨gb692, 11, none⟩ (.int .i64 ((rd_T64 l0_1 x8_1).f2.f9))).heap[gb690]? = some (.cells #[.int .i64 a0_0, .slice (some ad691) l0_1.length c0_1] 52 (0, 0))) := ⟨by (with_reducible repeat (first | refine blk_drewN ?_ _ | refine blk_drew ?_ | refine blk_alloc ?_ _)); refine blk_far ?_ NB690_692.out _; (with_reducible repeat (first | refine blk_drewN ?_ _ | refine blk_drew ?_ | refine blk_alloc ?_ _)); refine blk_far ?_ NB690_692.out _; (with_reducible repeat (first | refine blk_drewN ?_ _ | refine blk_drew ?_ | refine blk_alloc ?_ _)); refine blk_far ?_ NB690_692.out _; (with_reducible repeat (first | refine blk_drewN ?_ _ | refine blk_drew ?_ | refine blk_alloc ?_ _)); refine blk_far ?_ NB690_692.out _; (with_reducible repeat (first | refine blk_drewN ?_ _ | refine blk_drew ?_ | refine blk_alloc ?_ _)); refine blk_far ?_ NB690_692.out _; (with_reducible repeat (first | refine blk_drewN ?_ _ | refine blk_drew ?_ | refine blk_alloc ?_ _)); refine blk_far ?_ NB690_692.out _; (with_reducible repeat (first | refine blk_drewN ?_ _ | refine blk_drew ?_ | refine blk_alloc ?_ _)); refine blk_far ?_ NB690_692.out _; (with_reducible repeat (first | refine blk_drewN ?_ _ | refine blk_drew ?_ | refine blk_alloc ?_ _)); refine blk_far ?_ NB690_692.out _; (with_reducible repeat (first | refine blk_drewN ?_ _ | refine blk_drew ?_ | refine blk_alloc ?_ _)); refine blk_far ?_ NB690_692.out _; (with_reducible repeat (first | refine blk_drewN ?_ _ | refine blk_drew ?_ | refine blk_alloc ?_ _)); refine blk_far ?_ NB690_692.out _; (with_reducible repeat (first | refine blk_drewN ?_ _ | refine blk_drew ?_ | refine blk_alloc ?_ _)); refine blk_far ?_ NB690_692.out _; (with_reducible repeat (first | refine blk_drewN ?_ _ | refine blk_drew ?_ | refine blk_alloc ?_ _)); refine blk_far ?_ NB690_692.out _; (with_reducible repeat (first | refine blk_drewN ?_ _ | refine blk_drew ?_ | refine blk_alloc ?_ _)); exact BK690.out⟩
       have n1_ : Aside0 (((((((((((((w39.setCell ⟨gb692, 0, none⟩ (.int .i64 ((rd_T64 l0_1 x8_1).f0))).setCell ⟨gb692, 1, none⟩ (.int .i64 ((rd_T64 l0_1 x8_1).f1))).setCell ⟨gb692, 2, none⟩ (.int .i64 ((rd_T64 l0_1 x8_1).f2.f0))).setCell ⟨gb692, 3, none⟩ (.int .i64 ((rd_T64 l0_1 x8_1).f2.f1))).setCell ⟨gb692, 4, none⟩ (.int .i64 ((rd_T64 l0_1 x8_1).f2.f2))).setCell ⟨gb692, 5, none⟩ (.int .i64 ((rd_T64 l0_1 x8_1).f2.f3))).setCell ⟨gb692, 6, none⟩ (.int .i64 ((rd_T64 l0_1 x8_1).f2.f4))).setCell ⟨gb692, 7, none⟩ (.int .i64 ((rd_T64 l0_1 x8_1).f2.f5))).setCell ⟨gb692, 8, none⟩ (.int .i64 ((rd_T64 l0_1 x8_1).f2.f6))).setCell ⟨gb692, 9, none⟩ (.int .i64 ((rd_T64 l0_1 x8_1).f2.f7))).setCell ⟨gb692, 10, none⟩ (.int .i64 ((rd_T64 l0_1 x8_1).f2.f8))).setCell ⟨gb692, 11, none⟩ (.int .i64 ((rd_T64 l0_1 x8_1).f2.f9))).heap[gb692]? = some (.cells #[.int .i64 ((rd_T64 l0_1 x8_1).f0), .int .i64 ((rd_T64 l0_1 x8_1).f1), .int .i64 ((rd_T64 l0_1 x8_1).f2.f0), .int .i64 ((rd_T64 l0_1 x8_1).f2.f1), .int .i64 ((rd_T64 l0_1 x8_1).f2.f2), .int .i64 ((rd_T64 l0_1 x8_1).f2.f3), .int .i64 ((rd_T64 l0_1 x8_1).f2.f4), .int .i64 ((rd_T64 l0_1 x8_1).f2.f5), .int .i64 ((rd_T64 l0_1 x8_1).f2.f6), .int .i64 ((rd_T64 l0_1 x8_1).f2.f7), .int .i64 ((rd_T64 l0_1 x8_1).f2.f8), .int .i64 ((rd_T64 l0_1 x8_1).f2.f9)] 64 (0, 0))) := ⟨by (with_reducible repeat (first | refine blk_drewN ?_ _ | refine blk_drew ?_ | refine blk_alloc ?_ _)); refine blk_put (cs := #[.int .i64 ((rd_T64 l0_1 x8_1).f0), .int .i64 ((rd_T64 l0_1 x8_1).f1), .int .i64 ((rd_T64 l0_1 x8_1).f2.f0), .int .i64 ((rd_T64 l0_1 x8_1).f2.f1), .int .i64 ((rd_T64 l0_1 x8_1).f2.f2), .int .i64 ((rd_T64 l0_1 x8_1).f2.f3), .int .i64 ((rd_T64 l0_1 x8_1).f2.f4), .int .i64 ((rd_T64 l0_1 x8_1).f2.f5), .int .i64 ((rd_T64 l0_1 x8_1).f2.f6), .int .i64 ((rd_T64 l0_1 x8_1).f2.f7), .int .i64 ((rd_T64 l0_1 x8_1).f2.f8), .int .i64 0]) ?_ 11 _ rfl; (with_reducible repeat (first | refine blk_drewN ?_ _ | refine blk_drew ?_ | refine blk_alloc ?_ _)); refine blk_put (cs := #[.int .i64 ((rd_T64 l0_1 x8_1).f0), .int .i64 ((rd_T64 l0_1 x8_1).f1), .int .i64 ((rd_T64 l0_1 x8_1).f2.f0), .int .i64 ((rd_T64 l0_1 x8_1).f2.f1), .int .i64 ((rd_T64 l0_1 x8_1).f2.f2), .int .i64 ((rd_T64 l0_1 x8_1).f2.f3), .int .i64 ((rd_T64 l0_1 x8_1).f2.f4), .int .i64 ((rd_T64 l0_1 x8_1).f2.f5), .int .i64 ((rd_T64 l0_1 x8_1).f2.f6), .int .i64 ((rd_T64 l0_1 x8_1).f2.f7), .int .i64 0, .int .i64 0]) ?_ 10 _ rfl; (with_reducible repeat (first | refine blk_drewN ?_ _ | refine blk_drew ?_ | refine blk_alloc ?_ _)); refine blk_put (cs := #[.int .i64 ((rd_T64 l0_1 x8_1).f0), .int .i64 ((rd_T64 l0_1 x8_1).f1), .int .i64 ((rd_T64 l0_1 x8_1).f2.f0), .int .i64 ((rd_T64 l0_1 x8_1).f2.f1), .int .i64 ((rd_T64 l0_1 x8_1).f2.f2), .int .i64 ((rd_T64 l0_1 x8_1).f2.f3), .int .i64 ((rd_T64 l0_1 x8_1).f2.f4), .int .i64 ((rd_T64 l0_1 x8_1).f2.f5), .int .i64 ((rd_T64 l0_1 x8_1).f2.f6), .int .i64 0, .int .i64 0, .int .i64 0]) ?_ 9 _ rfl; (with_reducible repeat (first | refine blk_drewN ?_ _ | refine blk_drew ?_ | refine blk_alloc ?_ _)); refine blk_put (cs := #[.int .i64 ((rd_T64 l0_1 x8_1).f0), .int .i64 ((rd_T64 l0_1 x8_1).f1), .int .i64 ((rd_T64 l0_1 x8_1).f2.f0), .int .i64 ((rd_T64 l0_1 x8_1).f2.f1), .int .i64 ((rd_T64 l0_1 x8_1).f2.f2), .int .i64 ((rd_T64 l0_1 x8_1).f2.f3), .int .i64 ((rd_T64 l0_1 x8_1).f2.f4), .int .i64 ((rd_T64 l0_1 x8_1).f2.f5), .int .i64 0, .int .i64 0, .int .i64 0, .int .i64 0]) ?_ 8 _ rfl; (with_reducible repeat (first | refine blk_drewN ?_ _ | refine blk_drew ?_ | refine blk_alloc ?_ _)); refine blk_put (cs := #[.int .i64 ((rd_T64 l0_1 x8_1).f0), .int .i64 ((rd_T64 l0_1 x8_1).f1), .int .i64 ((rd_T64 l0_1 x8_1).f2.f0), .int .i64 ((rd_T64 l0_1 x8_1).f2.f1), .int .i64 ((rd_T64 l0_1 x8_1).f2.f2), .int .i64 ((rd_T64 l0_1 x8_1).f2.f3), .int .i64 ((rd_T64 l0_1 x8_1).f2.f4), .int .i64 0, .int .i64 0, .int .i64 0, .int .i64 0, .int .i64 0]) ?_ 7 _ rfl; (with_reducible repeat (first | refine blk_drewN ?_ _ | refine blk_drew ?_ | refine blk_alloc ?_ _)); refine blk_put (cs := #[.int .i64 ((rd_T64 l0_1 x8_1).f0), .int .i64 ((rd_T64 l0_1 x8_1).f1), .int .i64 ((rd_T64 l0_1 x8_1).f2.f0), .int .i64 ((rd_T64 l0_1 x8_1).f2.f1), .int .i64 ((rd_T64 l0_1 x8_1).f2.f2), .int .i64 ((rd_T64 l0_1 x8_1).f2.f3), .int .i64 0, .int .i64 0, .int .i64 0, .int .i64 0, .int .i64 0, .int .i64 0]) ?_ 6 _ rfl; (with_reducible repeat (first | refine blk_drewN ?_ _ | refine blk_drew ?_ | refine blk_alloc ?_ _)); refine blk_put (cs := #[.int .i64 ((rd_T64 l0_1 x8_1).f0), .int .i64 ((rd_T64 l0_1 x8_1).f1), .int .i64 ((rd_T64 l0_1 x8_1).f2.f0), .int .i64 ((rd_T64 l0_1 x8_1).f2.f1), .int .i64 ((rd_T64 l0_1 x8_1).f2.f2), .int .i64 0, .int .i64 0, .int .i64 0, .int .i64 0, .int .i64 0, .int .i64 0, .int .i64 0]) ?_ 5 _ rfl; (with_reducible repeat (first | refine blk_drewN ?_ _ | refine blk_drew ?_ | refine blk_alloc ?_ _)); refine blk_put (cs := #[.int .i64 ((rd_T64 l0_1 x8_1).f0), .int .i64 ((rd_T64 l0_1 x8_1).f1), .int .i64 ((rd_T64 l0_1 x8_1).f2.f0), .int .i64 ((rd_T64 l0_1 x8_1).f2.f1), .int .i64 0, .int .i64 0, .int .i64 0, .int .i64 0, .int .i64 0, .int .i64 0, .int .i64 0, .int .i64 0]) ?_ 4 _ rfl; (with_reducible repeat (first | refine blk_drewN ?_ _ | refine blk_drew ?_ | refine blk_alloc ?_ _)); refine blk_put (cs := #[.int .i64 ((rd_T64 l0_1 x8_1).f0), .int .i64 ((rd_T64 l0_1 x8_1).f1), .int .i64 ((rd_T64 l0_1 x8_1).f2.f0), .int .i64 0, .int .i64 0, .int .i64 0, .int .i64 0, .int .i64 0, .int .i64 0, .int .i64 0, .int .i64 0, .int .i64 0]) ?_ 3 _ rfl; (with_reducible repeat (first | refine blk_drewN ?_ _ | refine blk_drew ?_ | refine blk_alloc ?_ _)); refine blk_put (cs := #[.int .i64 ((rd_T64 l0_1 x8_1).f0), .int .i64 ((rd_T64 l0_1 x8_1).f1), .int .i64 0, .int .i64 0, .int .i64 0, .int .i64 0, .int .i64 0, .int .i64 0, .int .i64 0, .int .i64 0, .int .i64 0, .int .i64 0]) ?_ 2 _ rfl; (with_reducible repeat (first | refine blk_drewN ?_ _ | refine blk_drew ?_ | refine blk_alloc ?_ _)); refine blk_put (cs := #[.int .i64 ((rd_T64 l0_1 x8_1).f0), .int .i64 0, .int .i64 0, .int .i64 0, .int .i64 0, .int .i64 0, .int .i64 0, .int .i64 0, .int .i64 0, .int .i64 0, .int .i64 0, .int .i64 0]) ?_ 1 _ rfl; (with_reducible repeat (first | refine blk_drewN ?_ _ | refine blk_drew ?_ | refine blk_alloc ?_ _)); refine blk_put (cs := #[.int .i64 0, .int .i64 0, .int .i64 0, .int .i64 0, .int .i64 0, .int .i64 0, .int .i64 0, .int .i64 0, .int .i64 0, .int .i64 0, .int .i64 0, .int .i64 0]) ?_ 0 _ rfl; (with_reducible repeat (first | refine blk_drewN ?_ _ | refine blk_drew ?_ | refine blk_alloc ?_ _)); exact BK692.out⟩
       have n2_ : Aside0 (Below w.heap.size w ((((((((((((w39.setCell ⟨gb692, 0, none⟩ (.int .i64 ((rd_T64 l0_1 x8_1).f0))).setCell ⟨gb692, 1, none⟩ (.int .i64 ((rd_T64 l0_1 x8_1).f1))).setCell ⟨gb692, 2, none⟩ (.int .i64 ((rd_T64 l0_1 x8_1).f2.f0))).setCell ⟨gb692, 3, none⟩ (.int .i64 ((rd_T64 l0_1 x8_1).f2.f1))).setCell ⟨gb692, 4, none⟩ (.int .i64 ((rd_T64 l0_1 x8_1).f2.f2))).setCell ⟨gb692, 5, none⟩ (.int .i64 ((rd_T64 l0_1 x8_1).f2.f3))).setCell ⟨gb692, 6, none⟩ (.int .i64 ((rd_T64 l0_1 x8_1).f2.f4))).setCell ⟨gb692, 7, none⟩ (.int .i64 ((rd_T64 l0_1 x8_1).f2.f5))).setCell ⟨gb692, 8, none⟩ (.int .i64 ((rd_T64 l0_1 x8_1).f2.f6))).setCell ⟨gb692, 9, none⟩ (.int .i64 ((rd_T64 l0_1 x8_1).f2.f7))).setCell ⟨gb692, 10, none⟩ (.int .i64 ((rd_T64 l0_1 x8_1).f2.f8))).setCell ⟨gb692, 11, none⟩ (.int .i64 ((rd_T64 l0_1 x8_1).f2.f9)))) := ⟨pS HB.out⟩
       (try clear BK690)
       (try clear BK692)
       (try clear HB)
       generalize ((((((((((((w39.setCell ⟨gb692, 0, none⟩ (.int .i64 ((rd_T64 l0_1 x8_1).f0))).setCell ⟨gb692, 1, none⟩ (.int .i64 ((rd_T64 l0_1 x8_1).f1))).setCell ⟨gb692, 2, none⟩ (.int .i64 ((rd_T64 l0_1 x8_1).f2.f0))).setCell ⟨gb692, 3, none⟩ (.int .i64 ((rd_T64 l0_1 x8_1).f2.f1))).setCell ⟨gb692, 4, none⟩ (.int .i64 ((rd_T64 l0_1 x8_1).f2.f2))).setCell ⟨gb692, 5, none⟩ (.int .i64 ((rd_T64 l0_1 x8_1).f2.f3))).setCell ⟨gb692, 6, none⟩ (.int .i64 ((rd_T64 l0_1 x8_1).f2.f4))).setCell ⟨gb692, 7, none⟩ (.int .i64 ((rd_T64 l0_1 x8_1).f2.f5))).setCell ⟨gb692, 8, none⟩ (.int .i64 ((rd_T64 l0_1 x8_1).f2.f6))).setCell ⟨gb692, 9, none⟩ (.int .i64 ((rd_T64 l0_1 x8_1).f2.f7))).setCell ⟨gb692, 10, none⟩ (.int .i64 ((rd_T64 l0_1 x8_1).f2.f8))).setCell ⟨gb692, 11, none⟩ (.int .i64 ((rd_T64 l0_1 x8_1).f2.f9))) = w42 at n0_ n1_ n2_ ⊢
       have BK690 := n0_
       have BK692 := n1_
       have HB := n2_
       clear n0_ n1_ n2_
       have n0_ := Aside0.mk (blk_drew BK690.out)
       have n1_ := Aside0.mk (blk_drew BK692.out)
       have n2_ := Aside0.mk (below_drew1 HB.out)
       clear BK690
       clear BK692
       clear HB
       have BK690 := n0_
       have BK692 := n1_
       have HB := n2_
       clear n0_ n1_ n2_
       refine start_ (n := 26) (S := fun w' => w'.cell? ⟨gb692, 0, none⟩ = some (.int .i64 ((rd_T64 l0_1 x8_1).f0)) ∧ w'.cell? ⟨gb692, 1, none⟩ = some (.int .i64 ((rd_T64 l0_1 x8_1).f1)) ∧ w'.cell? ⟨gb692, 2, none⟩ = some (.int .i64 ((rd_T64 l0_1 x8_1).f2.f0)) ∧ w'.cell? ⟨gb692, 3, none⟩ = some (.int .i64 ((rd_T64 l0_1 x8_1).f2.f1)) ∧ w'.cell? ⟨gb692, 4, none⟩ = some (.int .i64 ((rd_T64 l0_1 x8_1).f2.f2)) ∧ w'.cell? ⟨gb692, 5, none⟩ = some (.int .i64 ((rd_T64 l0_1 x8_1).f2.f3)) ∧ w'.cell? ⟨gb692, 6, none⟩ = some (.int .i64 ((rd_T64 l0_1 x8_1).f2.f4)) ∧ w'.cell? ⟨gb692, 7, none⟩ = some (.int .i64 ((rd_T64 l0_1 x8_1).f2.f5)) ∧ w'.cell? ⟨gb692, 8, none⟩ = some (.int .i64 ((rd_T64 l0_1 x8_1).f2.f6)) ∧ w'.cell? ⟨gb692, 9, none⟩ = some (.int .i64 ((rd_T64 l0_1 x8_1).f2.f7)) ∧ w'.cell? ⟨gb692, 10, none⟩ = some (.int .i64 ((rd_T64 l0_1 x8_1).f2.f8)) ∧ w'.cell? ⟨gb692, 11, none⟩ = some (.int .i64 ((rd_T64 l0_1 x8_1).f2.f9))) (ds := []) #[false, false, false, false, false, false, false, false, false, false, false, false, false, false, false, false, false, false, false, false, false, false, false, false, false, false] (by kernel_rfl) rfl rfl ⟨(blk_cell BK692.out 0).trans rfl, (blk_cell BK692.out 1).trans rfl, (blk_cell BK692.out 2).trans rfl, (blk_cell BK692.out 3).trans rfl, (blk_cell BK692.out 4).trans rfl, (blk_cell BK692.out 5).trans rfl, (blk_cell BK692.out 6).trans rfl, (blk_cell BK692.out 7).trans rfl, (blk_cell BK692.out 8).trans rfl, (blk_cell BK692.out 9).trans rfl, (blk_cell BK692.out 10).trans rfl, (blk_cell BK692.out 11).trans rfl⟩ (fun hHeld => ?_); refine with_tabW impl_SynVoterOk.tab4 impl_SynVoterOk.bits4 (fun HT_ HW_ => ?_)
       generalize w42.drew = w43 at BK690 BK692 HB hHeld ⊢
       refine take_ (i := 0) (N := some 13) (v := ?_) (a' := ?_) #[true, false, false, false, false, false, false, false, false, false, false, false, false, false, false, false, false, false, false, false, false, false, false, false, false, false] rfl rfl (take_ofW HT_.out HW_.out (by kernel_rfl)) (fun _ _ _ h => h) (Or.inl ⟨by rfl, ?_⟩) hHeld ?_ ?_
       rotate_left
       ·rintro w' ⟨s0, s1, s2, s3, s4, s5, s6, s7, s8, s9, s10, s11⟩
        go_simp
        with_reducible rfl
       rotate_left
       ·simp only [Act.put, List.setIfInBounds_toArray, List.set_cons_zero, List.set_cons_succ, i64_w, i32_w]
        rfl
       refine one_ (i := 1) (N := some 14) #[true, true, false, false, false, false, false, false, false, false, false, false, false, false, false, false, false, false, false, false, false, false, false, false, false, false] rfl rfl (one_of HT_.out (by kernel_rfl)) (by decide) (fun K hK => ?_)
       refine goes_ Try.func88 (by kernel_rfl) rfl #[.agg #[.int .i64 ((rd_T64 l0_1 x8_1).f0), .int .i64 ((rd_T64 l0_1 x8_1).f1), .int .i64 ((rd_T64 l0_1 x8_1).f2.f0), .int .i64 ((rd_T64 l0_1 x8_1).f2.f1), .int .i64 ((rd_T64 l0_1 x8_1).f2.f2), .int .i64 ((rd_T64 l0_1 x8_1).f2.f3), .int .i64 ((rd_T64 l0_1 x8_1).f2.f4), .int .i64 ((rd_T64 l0_1 x8_1).f2.f5), .int .i64 ((rd_T64 l0_1 x8_1).f2.f6), .int .i64 ((rd_T64 l0_1 x8_1).f2.f7), .int .i64 ((rd_T64 l0_1 x8_1).f2.f8), .int .i64 ((rd_T64 l0_1 x8_1).f2.f9)]] (by rfl) rfl rfl bM ?_
       with_reducible refine (impl_paperOk.calls k1 ((rd_T64 l0_1 x8_1).f0) ((rd_T64 l0_1 x8_1).f1) ((rd_T64 l0_1 x8_1).f2.f0) ((rd_T64 l0_1 x8_1).f2.f1) ((rd_T64 l0_1 x8_1).f2.f2) ((rd_T64 l0_1 x8_1).f2.f3) ((rd_T64 l0_1 x8_1).f2.f4) ((rd_T64 l0_1 x8_1).f2.f5) ((rd_T64 l0_1 x8_1).f2.f6) ((rd_T64 l0_1 x8_1).f2.f7) ((rd_T64 l0_1 x8_1).f2.f8) ((rd_T64 l0_1 x8_1).f2.f9) false _ A7.out).mono ?_
       rintro e w44 ⟨rfl, hb⟩
       refine ⟨_, rfl, ?_⟩
       have n0_ := Aside0.mk (blk_below (pK BK690.out) hb)
       have n1_ := Aside0.mk (blk_below (pK BK692.out) hb)
       have n2_ := Aside0.mk (below_step (pS HB.out) hb)
       clear BK690
       clear BK692
       clear HB
       have BK690 := n0_
       have BK692 := n1_
       have HB := n2_
       clear n0_ n1_ n2_
       (try clear hb)
       (try clear hb2)
       (try clear hk)
       (try clear hi)
       refine hK.out _ _ ⟨(blk_cell BK692.out 0).trans rfl, (blk_cell BK692.out 1).trans rfl, (blk_cell BK692.out 2).trans rfl, (blk_cell BK692.out 3).trans rfl, (blk_cell BK692.out 4).trans rfl, (blk_cell BK692.out 5).trans rfl, (blk_cell BK692.out 6).trans rfl, (blk_cell BK692.out 7).trans rfl, (blk_cell BK692.out 8).trans rfl, (blk_cell BK692.out 9).trans rfl, (blk_cell BK692.out 10).trans rfl, (blk_cell BK692.out 11).trans rfl⟩ (fun hHeld => ?_)
       clear hK K
       refine norm_ (a' := ?_) ?_ ?_
       rotate_left
       ·show Act.put _ (some 14) _ = _
        simp only [Act.put, List.setIfInBounds_toArray, List.set_cons_zero, List.set_cons_succ, i64_w, i32_w]
        rfl
       refine pure_ (i := 2) (N := some 15) (v := ?_) (a' := ?_) #[true, true, true, false, false, false, false, false, false, false, false, false, false, false, false, false, false, false, false, false, false, false, false, false, false, false] rfl rfl (any_of HT_.out (by kernel_rfl)) (fun _ _ _ h => h) (Or.inl ⟨by rfl, ?_⟩) ?_ ?_
       rotate_left
       ·intro w'
        go_simp
        with_reducible rfl
       rotate_left
       ·simp only [Act.put, List.setIfInBounds_toArray, List.set_cons_zero, List.set_cons_succ, i64_w, i32_w]
        rfl
       refine pure_ (i := 3) (N := some 16) (v := ?_) (a' := ?_) #[true, true, true, true, false, false, false, false, false, false, false, false, false, false, false, false, false, false, false, false, false, false, false, false, false, false] rfl rfl (any_of HT_.out (by kernel_rfl)) (fun _ _ _ h => h) (Or.inl ⟨by rfl, ?_⟩) ?_ ?_
       rotate_left
       ·intro w'
        go_simp
        with_reducible rfl
       rotate_left
       ·simp only [Act.put, List.setIfInBounds_toArray, List.set_cons_zero, List.set_cons_succ, i64_w, i32_w]
        rfl
       refine pure_ (i := 4) (N := some 17) (v := undef) (a' := ?_) #[true, true, true, true, true, false, false, false, false, false, false, false, false, false, false, false, false, false, false, false, false, false, false, false, false, false] rfl rfl (any_of HT_.out (by kernel_rfl)) (fun _ _ _ h => h) (Or.inr ⟨by rfl, rfl⟩) ?_ ?_
       rotate_left
       ·simp only [Act.put, List.setIfInBounds_toArray, List.set_cons_zero, List.set_cons_succ, i64_w, i32_w]
        rfl
       refine pure_ (i := 5) (N := some 18) (v := undef) (a' := ?_) #[true, true, true, true, true, true, false, false, false, false, false, false, false, false, false, false, false, false, false, false, false, false, false, false, false, false] rfl rfl (any_of HT_.out (by kernel_rfl)) (fun _ _ _ h => h) (Or.inr ⟨by rfl, rfl⟩) ?_ ?_
       rotate_left
       ·simp only [Act.put, List.setIfInBounds_toArray, List.set_cons_zero, List.set_cons_succ, i64_w, i32_w]
        rfl
       refine pure_ (i := 6) (N := some 19) (v := undef) (a' := ?_) #[true, true, true, true, true, true, true, false, false, false, false, false, false, false, false, false, false, false, false, false, false, false, false, false, false, false] rfl rfl (any_of HT_.out (by kernel_rfl)) (fun _ _ _ h => h) (Or.inr ⟨by rfl, rfl⟩) ?_ ?_
       rotate_left
       ·simp only [Act.put, List.setIfInBounds_toArray, List.set_cons_zero, List.set_cons_succ, i64_w, i32_w]
        rfl
       refine pure_ (i := 7) (N := some 20) (v := undef) (a' := ?_) #[true, true, true, true, true, true, true, true, false, false, false, false, false, false, false, false, false, false, false, false, false, false, false, false, false, false] rfl rfl (any_of HT_.out (by kernel_rfl)) (fun _ _ _ h => h) (Or.inr ⟨by rfl, rfl⟩) ?_ ?_
       rotate_left
       ·simp only [Act.put, List.setIfInBounds_toArray, List.set_cons_zero, List.set_cons_succ, i64_w, i32_w]
        rfl
       refine pure_ (i := 8) (N := some 21) (v := undef) (a' := ?_) #[true, true, true, true, true, true, true, true, true, false, false, false, false, false, false, false, false, false, false, false, false, false, false, false, false, false] rfl rfl (any_of HT_.out (by kernel_rfl)) (fun _ _ _ h => h) (Or.inr ⟨by rfl, rfl⟩) ?_ ?_
       rotate_left
       ·simp only [Act.put, List.setIfInBounds_toArray, List.set_cons_zero, List.set_cons_succ, i64_w, i32_w]
        rfl
       refine pure_ (i := 9) (N := some 22) (v := ?_) (a' := ?_) #[true, true, true, true, true, true, true, true, true, true, false, false, false, false, false, false, false, false, false, false, false, false, false, false, false, false] rfl rfl (any_of HT_.out (by kernel_rfl)) (fun _ _ _ h => h) (Or.inl ⟨by rfl, ?_⟩) ?_ ?_
       rotate_left
       ·intro w'
        go_simp
        with_reducible rfl
       rotate_left
       ·simp only [Act.put, List.setIfInBounds_toArray, List.set_cons_zero, List.set_cons_succ, i64_w, i32_w]
        rfl
       refine pure_ (i := 10) (N := some 23) (v := ?_) (a' := ?_) #[true, true, true, true, true, true, true, true, true, true, true, false, false, false, false, false, false, false, false, false, false, false, false, false, false, false] rfl rfl (any_of HT_.out (by kernel_rfl)) (fun _ _ _ h => h) (Or.inl ⟨by rfl, ?_⟩) ?_ ?_
       rotate_left
       ·intro w'
        go_simp
        with_reducible rfl
       rotate_left
       ·simp only [Act.put, List.setIfInBounds_toArray, List.set_cons_zero, List.set_cons_succ, i64_w, i32_w]
        rfl
       refine pure_ (i := 11) (N := some 24) (v := undef) (a' := ?_) #[true, true, true, true, true, true, true, true, true, true, true, true, false, false, false, false, false, false, false, false, false, false, false, false, false, false] rfl rfl (any_of HT_.out (by kernel_rfl)) (fun _ _ _ h => h) (Or.inr ⟨by rfl, rfl⟩) ?_ ?_
       rotate_left
       ·simp only [Act.put, List.setIfInBounds_toArray, List.set_cons_zero, List.set_cons_succ, i64_w, i32_w]
        rfl
       refine pure_ (i := 12) (N := some 25) (v := undef) (a' := ?_) #[true, true, true, true, true, true, true, true, true, true, true, true, true, false, false, false, false, false, false, false, false, false, false, false, false, false] rfl rfl (any_of HT_.out (by kernel_rfl)) (fun _ _ _ h => h) (Or.inr ⟨by rfl, rfl⟩) ?_ ?_
       rotate_left
       ·simp only [Act.put, List.setIfInBounds_toArray, List.set_cons_zero, List.set_cons_succ, i64_w, i32_w]
        rfl
       refine pure_ (i := 13) (N := some 26) (v := undef) (a' := ?_) #[true, true, true, true, true, true, true, true, true, true, true, true, true, true, false, false, false, false, false, false, false, false, false, false, false, false] rfl rfl (any_of HT_.out (by kernel_rfl)) (fun _ _ _ h => h) (Or.inr ⟨by rfl, rfl⟩) ?_ ?_
       rotate_left
       ·simp only [Act.put, List.setIfInBounds_toArray, List.set_cons_zero, List.set_cons_succ, i64_w, i32_w]
        rfl
       refine pure_ (i := 14) (N := some 27) (v := undef) (a' := ?_) #[true, true, true, true, true, true, true, true, true, true, true, true, true, true, true, false, false, false, false, false, false, false, false, false, false, false] rfl rfl (any_of HT_.out (by kernel_rfl)) (fun _ _ _ h => h) (Or.inr ⟨by rfl, rfl⟩) ?_ ?_
       rotate_left
       ·simp only [Act.put, List.setIfInBounds_toArray, List.set_cons_zero, List.set_cons_succ, i64_w, i32_w]
        rfl
       refine pure_ (i := 15) (N := some 28) (v := undef) (a' := ?_) #[true, true, true, true, true, true, true, true, true, true, true, true, true, true, true, true, false, false, false, false, false, false, false, false, false, false] rfl rfl (any_of HT_.out (by kernel_rfl)) (fun _ _ _ h => h) (Or.inr ⟨by rfl, rfl⟩) ?_ ?_
       rotate_left
       ·simp only [Act.put, List.setIfInBounds_toArray, List.set_cons_zero, List.set_cons_succ, i64_w, i32_w]
        rfl
       refine pure_ (i := 16) (N := some 29) (v := undef) (a' := ?_) #[true, true, true, true, true, true, true, true, true, true, true, true, true, true, true, true, true, false, false, false, false, false, false, false, false, false] rfl rfl (any_of HT_.out (by kernel_rfl)) (fun _ _ _ h => h) (Or.inr ⟨by rfl, rfl⟩) ?_ ?_
       rotate_left
       ·simp only [Act.put, List.setIfInBounds_toArray, List.set_cons_zero, List.set_cons_succ, i64_w, i32_w]
        rfl
       refine pure_ (i := 17) (N := some 30) (v := undef) (a' := ?_) #[true, true, true, true, true, true, true, true, true, true, true, true, true, true, true, true, true, true, false, false, false, false, false, false, false, false] rfl rfl (any_of HT_.out (by kernel_rfl)) (fun _ _ _ h => h) (Or.inr ⟨by rfl, rfl⟩) ?_ ?_
       rotate_left
       ·simp only [Act.put, List.setIfInBounds_toArray, List.set_cons_zero, List.set_cons_succ, i64_w, i32_w]
        rfl
       refine pure_ (i := 18) (N := some 31) (v := undef) (a' := ?_) #[true, true, true, true, true, true, true, true, true, true, true, true, true, true, true, true, true, true, true, false, false, false, false, false, false, false] rfl rfl (any_of HT_.out (by kernel_rfl)) (fun _ _ _ h => h) (Or.inr ⟨by rfl, rfl⟩) ?_ ?_
       rotate_left
       ·simp only [Act.put, List.setIfInBounds_toArray, List.set_cons_zero, List.set_cons_succ, i64_w, i32_w]
        rfl
       refine pure_ (i := 19) (N := some 32) (v := undef) (a' := ?_) #[true, true, true, true, true, true, true, true, true, true, true, true, true, true, true, true, true, true, true, true, false, false, false, false, false, false] rfl rfl (any_of HT_.out (by kernel_rfl)) (fun _ _ _ h => h) (Or.inr ⟨by rfl, rfl⟩) ?_ ?_
       rotate_left
       ·simp only [Act.put, List.setIfInBounds_toArray, List.set_cons_zero, List.set_cons_succ, i64_w, i32_w]
        rfl
       refine pure_ (i := 20) (N := some 33) (v := undef) (a' := ?_) #[true, true, true, true, true, true, true, true, true, true, true, true, true, true, true, true, true, true, true, true, true, false, false, false, false, false] rfl rfl (any_of HT_.out (by kernel_rfl)) (fun _ _ _ h => h) (Or.inr ⟨by rfl, rfl⟩) ?_ ?_
       rotate_left
       ·simp only [Act.put, List.setIfInBounds_toArray, List.set_cons_zero, List.set_cons_succ, i64_w, i32_w]
        rfl
       refine pure_ (i := 21) (N := some 34) (v := undef) (a' := ?_) #[true, true, true, true, true, true, true, true, true, true, true, true, true, true, true, true, true, true, true, true, true, true, false, false, false, false] rfl rfl (any_of HT_.out (by kernel_rfl)) (fun _ _ _ h => h) (Or.inr ⟨by rfl, rfl⟩) ?_ ?_
       rotate_left
       ·simp only [Act.put, List.setIfInBounds_toArray, List.set_cons_zero, List.set_cons_succ, i64_w, i32_w]
        rfl
       refine pure_ (i := 22) (N := some 35) (v := undef) (a' := ?_) #[true, true, true, true, true, true, true, true, true, true, true, true, true, true, true, true, true, true, true, true, true, true, true, false, false, false] rfl rfl (any_of HT_.out (by kernel_rfl)) (fun _ _ _ h => h) (Or.inr ⟨by rfl, rfl⟩) ?_ ?_
       rotate_left
       ·simp only [Act.put, List.setIfInBounds_toArray, List.set_cons_zero, List.set_cons_succ, i64_w, i32_w]
        rfl
       refine pure_ (i := 23) (N := some 36) (v := undef) (a' := ?_) #[true, true, true, true, true, true, true, true, true, true, true, true, true, true, true, true, true, true, true, true, true, true, true, true, false, false] rfl rfl (any_of HT_.out (by kernel_rfl)) (fun _ _ _ h => h) (Or.inr ⟨by rfl, rfl⟩) ?_ ?_
       rotate_left
       ·simp only [Act.put, List.setIfInBounds_toArray, List.set_cons_zero, List.set_cons_succ, i64_w, i32_w]
        rfl
       refine pure_ (i := 24) (N := some 37) (v := undef) (a' := ?_) #[true, true, true, true, true, true, true, true, true, true, true, true, true, true, true, true, true, true, true, true, true, true, true, true, true, false] rfl rfl (any_of HT_.out (by kernel_rfl)) (fun _ _ _ h => h) (Or.inr ⟨by rfl, rfl⟩) ?_ ?_
       rotate_left
       ·simp only [Act.put, List.setIfInBounds_toArray, List.set_cons_zero, List.set_cons_succ, i64_w, i32_w]
        rfl
       refine pure_ (i := 25) (N := some 38) (v := ?_) (a' := ?_) #[true, true, true, true, true, true, true, true, true, true, true, true, true, true, true, true, true, true, true, true, true, true, true, true, true, true] rfl rfl (any_of HT_.out (by kernel_rfl)) (fun _ _ _ h => h) (Or.inl ⟨by rfl, ?_⟩) ?_ ?_
       rotate_left
       ·intro w'
        go_simp
        with_reducible rfl
       rotate_left
       ·simp only [Act.put, List.setIfInBounds_toArray, List.set_cons_zero, List.set_cons_succ, i64_w, i32_w]
        rfl
       refine done_ (done_of HT_.out (by kernel_rfl)) ?_
       try go_wp2
       go_ret
       exact ⟨by first | rfl | (simp [errW_none, errW_some] <;> rfl) | (simp [*, errW_none, errW_some] <;> rfl), pS HB.out⟩
     ·rw [if_neg c6] at H
      exact absurd H (by simp)
    ·rw [if_neg c5] at H
     exact absurd H (by simp)
   ·rw [if_neg c4] at H
    have c4b0 : decide (x8_1 < (l0_1.length : Int)) = false := decide_eq_false c4
    clear c4
    replace H := Option.bind_eq_some_iff.mp H
    obtain ⟨t695, A450, H⟩ := H
    replace H : (if t695 = true then (some (decide ((l0_1.length : Int) ≤ 60))) else (some false)) = some r := H
    have A45 := Aside0.mk A450
    clear A450
    by_cases c46 : t695 = true
    ·subst c46
     have H1 : (some (decide ((l0_1.length : Int) ≤ 60))) = some r := by rw [if_pos rfl] at H; exact H
     clear H
     have H := H1
     clear H1
     obtain rfl := Option.some.inj H
     have hcz47_0 : wr.cell? ⟨gb690, 0, none⟩ = some (.int .i64 a0_0) := (blk_cell BK690.out 0).trans rfl
     have hcz47_1 : wr.cell? ⟨gb690, 1, none⟩ = some (.slice A0_1 l0_1.length c0_1) := (blk_cell BK690.out 1).trans rfl
     have hfz47_0 := blk_frozen BK690.out 0
     have hfz47_1 := blk_frozen BK690.out 1
     go_wp2_with (first | ((with_reducible refine gate_callee (f := 74) rfl ?_); refine goesL_ (some 42) rfl rfl Try.func74 (by kernel_rfl) rfl #[.int .i64 a0_0, .int .i64 0, .int .i64 99999] rfl bM ?_; (with_reducible refine (impl_in.calls a0_0 0 99999 true _ A45.out).mono ?_); rintro e w' ⟨rfl, ⟨nd, rfl⟩⟩; refine ⟨_, rfl, ?_⟩))
     go_ret
     exact ⟨by first | rfl | (simp [errW_none, errW_some] <;> rfl) | (simp [*, errW_none, errW_some] <;> rfl), pS HB.out⟩
    ·replace c46 := Bool.eq_false_iff.mpr c46
     subst c46
     have H1 : (some false) = some r := by rw [if_neg (show ¬ (false = true) by decide)] at H; exact H
     clear H
     have H := H1
     clear H1
     obtain rfl := Option.some.inj H
     have hcz48_0 : wr.cell? ⟨gb690, 0, none⟩ = some (.int .i64 a0_0) := (blk_cell BK690.out 0).trans rfl
     have hcz48_1 : wr.cell? ⟨gb690, 1, none⟩ = some (.slice A0_1 l0_1.length c0_1) := (blk_cell BK690.out 1).trans rfl
     have hfz48_0 := blk_frozen BK690.out 0
     have hfz48_1 := blk_frozen BK690.out 1
     go_wp2_with (first | ((with_reducible refine gate_callee (f := 74) rfl ?_); refine goesL_ (some 42) rfl rfl Try.func74 (by kernel_rfl) rfl #[.int .i64 a0_0, .int .i64 0, .int .i64 99999] rfl bM ?_; (with_reducible refine (impl_in.calls a0_0 0 99999 false _ A45.out).mono ?_); rintro e w' ⟨rfl, ⟨nd, rfl⟩⟩; refine ⟨_, rfl, ?_⟩))
     go_ret
     exact ⟨by first | rfl | (simp [errW_none, errW_some] <;> rfl) | (simp [*, errW_none, errW_some] <;> rfl), pS HB.out⟩

end Go.Proofs.Ytoieojmfkkidnaa.P
