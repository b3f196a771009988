-- printed by pprint.py (this session's program over the kit's printer) out of the translation. Lean checks it.
import Derived.Test.YthkdhcaojhbfoaaPx0
import Derived.Test.YthkdhcaojhbfoaaPx3
import Derived.Test.YthkdhcaojhbfoaaPx5
namespace Go.Proofs.Ythkdhcaojhbfoaa.P
open Go.RowKit Go.Proofs.YthkdhcaojhbfoaaX Go.Proofs.YthkdhcaojhbfoaaW.PrintWords Go.Proofs.YthkdhcaojhbfoaaW.PrintLast Go.Proofs.YthkdhcaojhbfoaaW.PrintMore
attribute [local go_sem] max2_int min2_int max_two min_two max_three min_three max_four min_four   -- for this text's walks alone
set_option linter.unusedVariables false
set_option linter.unusedSimpArgs false

/-! ### spec_SecCut: function 34 -/
def spec_SecCut.l0 : Nat → List Int → Int → List ByteArray → List (S54) → List ByteArray → List (S54) → Option (List ByteArray × (List (S54)))
 | 0, _, _, _, _, _, _ => none
 | k + 1, x1, x6, x649000, x649001, x652000, x652001 => if x6 < (x649001.length : Int) then (if x6 < (x1.length : Int) then (if 0 ≤ x6 then (if (rd x1 x6) = 0 then (spec_SecCut.l0 k x1 (wrap64 (x6 + 1)) x649000 x649001 x652000 x652001) else (if x652001.length < 5864062014805 then (spec_SecCut.l0 k x1 (wrap64 (x6 + 1)) x649000 x649001 x652000 (x652001 ++ [(⟨(rd_T54 x649001 x6).f0, (rd_T54 x649001 x6).f1⟩ : S54)])) else (none))) else (none)) else (spec_SecCut.l0 k x1 (wrap64 (x6 + 1)) x649000 x649001 x652000 x652001)) else ((spec_SecFlush.f k x652000 x652001).bind fun bt657 => (some (bt657.1, bt657.2)))
def spec_SecCut.f (k : Nat) (l0_0 : List ByteArray) (l0_1 : List (S54)) (l1 : List Int) : Option (List ByteArray × (List (S54))) := (spec_SecOk.f k l0_0 l0_1).bind fun t650 => (if t650 = true then (spec_SecCut.l0 k l1 0 l0_0 l0_1 l0_0 ([] : List (S54))) else (some (([] : List ByteArray), ([] : List (S54)))))
theorem spec_SecCut.mono_l : ∀ k, (∀ y0 y1 y2 y3 y4 y5, LeO (spec_SecCut.l0 k y0 y1 y2 y3 y4 y5) (spec_SecCut.l0 (k + 1) y0 y1 y2 y3 y4 y5))
 | 0 => fun _ _ _ _ _ _ r h => by simp [spec_SecCut.l0] at h
 | k + 1 => by
  have ih0 := spec_SecCut.mono_l k
  ·intro y0 y1 y2 y3 y4 y5
   unfold spec_SecCut.l0
   repeat' first
   | (with_reducible exact ih0 _ _ _ _ _ _)
   | (with_reducible exact spec_SecFlush.mono _ _ _)
   | (with_reducible exact spec_SecOk.mono _ _ _)
   | (with_reducible exact LeO.refl _)
   | (with_reducible exact LeO.none _)
   | (with_reducible refine LeO.ite ?_ ?_)
   | (with_reducible refine LeO.bind ?_ (fun _ => ?_))
   | exact ih0 _ _ _ _ _ _
   | exact spec_SecFlush.mono _ _ _
   | exact spec_SecOk.mono _ _ _
   | exact LeO.none _
   | refine LeO.ite ?_ ?_
   | refine LeO.bind ?_ (fun _ => ?_)
theorem spec_SecCut.mono : ∀ a0 a1 a2 k, LeO (spec_SecCut.f k a0 a1 a2) (spec_SecCut.f (k + 1) a0 a1 a2) := by
 intro a0 a1 a2 k
 have ih0 := spec_SecCut.mono_l k
 unfold spec_SecCut.f
 repeat' first
   | (with_reducible exact ih0 _ _ _ _ _ _)
   | (with_reducible exact spec_SecFlush.mono _ _ _)
   | (with_reducible exact spec_SecOk.mono _ _ _)
   | (with_reducible exact LeO.refl _)
   | (with_reducible exact LeO.none _)
   | (with_reducible refine LeO.ite ?_ ?_)
   | (with_reducible refine LeO.bind ?_ (fun _ => ?_))
   | exact ih0 _ _ _ _ _ _
   | exact spec_SecFlush.mono _ _ _
   | exact spec_SecOk.mono _ _ _
   | exact LeO.none _
   | refine LeO.ite ?_ ?_
   | refine LeO.bind ?_ (fun _ => ?_)
def spec_SecCut.T8 : Bool × List (List Nat × List Nat) := (true, [([], []), ([0], [0]), ([], []), ([2], [2]), ([], []), ([3, 4], [3, 4]), ([5], [5]), ([6], [6]), ([1, 7], [1, 7]), ([0, 1, 2, 3, 4, 5, 6, 7, 8], []), ([9, 8, 8, 0, 1, 2, 3, 4, 5, 6, 7, 8], [8, 9])])
def spec_SecCut.B8 : List Nat := [0, 1, 0, 4, 0, 28, 60, 124, 255, 511, 1023]
theorem spec_SecCut.tab8 : rtab .any (opsOf Try.f34 8) = spec_SecCut.T8 := by kernel_rfl
theorem spec_SecCut.bits8 : waitsOk spec_SecCut.T8.2 spec_SecCut.B8 = true := by kernel_rfl
set_option maxHeartbeats 8000000 in
set_option maxRecDepth 100000 in
theorem spec_SecCut.calls (k : Nat) (A0_0 : Option Addr) (c0_0 : Nat) (l0_0 : List ByteArray) (A0_1 : Option Addr) (c0_1 : Nat) (l0_1 : List (S54)) (A1 : Option Addr) (c1 : Nat) (l1 : List Int) (r1 : List ByteArray) (r2 : List (S54)) (w : World) (hr0_0 : Kd.C Kd.string w A0_0 l0_0.length l0_0) (hc0_0 : l0_0.length ≤ c0_0) (hr0_1 : Kd.C k54 w A0_1 l0_1.length l0_1) (hc0_1 : l0_1.length ≤ c0_1) (hr1 : Kd.C (Kd.int .i64) w A1 l1.length l1) (hc1 : l1.length ≤ c1) (h : spec_SecCut.f k l0_0 l0_1 l1 = some (r1, r2)) :
  Calls Try.prog 34 #[.agg #[.slice A0_0 l0_0.length c0_0, .slice A0_1 l0_1.length c0_1], .slice A1 l1.length c1] w fun e w' => ∃ v0_ v1_ : Value, e = .returned (.agg #[v0_, v1_]) ∧ Kd.R Kd.string 9 w' w.heap.size (fun _ => True) v0_ r1 ∧ Kd.R k54 54 w' w.heap.size (fun _ => True) v1_ r2 ∧ Below w.heap.size w w' := by
 have hu26 := Try.underlying26
 have hu54 := Try.underlying54
 have HR0_0 := Aside0.mk hr0_0
 have HC0_0 := Aside0.mk hc0_0
 clear hr0_0 hc0_0
 have HR0_1 := Aside0.mk hr0_1
 have HC0_1 := Aside0.mk hc0_1
 clear hr0_1 hc0_1
 have HR1 := Aside0.mk hr1
 have HC1 := Aside0.mk hc1
 clear hr1 hc1
 have HB := Aside0.mk (Below.refl w.heap.size w)
 have H : ((spec_SecOk.f k l0_0 l0_1).bind fun t650 => (if t650 = true then (spec_SecCut.l0 k l1 0 l0_0 l0_1 l0_0 ([] : List (S54))) else (some (([] : List ByteArray), ([] : List (S54)))))) = some (r1, r2) := h
 clear h
 replace H := Option.bind_eq_some_iff.mp H
 obtain ⟨t650, A30, H⟩ := H
 replace H : (if t650 = true then (spec_SecCut.l0 k l1 0 l0_0 l0_1 l0_0 ([] : List (S54))) else (some (([] : List ByteArray), ([] : List (S54))))) = some (r1, r2) := H
 have A3 := Aside0.mk A30
 clear A30
 by_cases c4 : t650 = true
 ·subst c4
  have H1 : (spec_SecCut.l0 k l1 0 l0_0 l0_1 l0_0 ([] : List (S54))) = some (r1, r2) := by rw [if_pos rfl] at H; exact H
  clear H
  have H := H1
  clear H1
  have H' := Aside0.mk H
  clear H
  go_enter Try.func34, Try.ntmps34
  go_wp2_with (first | ((with_reducible refine gate_dst (N := 2) rfl ?_); refine box_event ?hg (N := 2) ?hd (cs := #[.slice A0_0 l0_0.length c0_0, .slice A0_1 l0_1.length c0_1]) (t := 26) ?hr ?_; (case hd => rfl); (case hg => rfl); (case hr => first | (go_simp; done) | (go_simp; rfl)); intro gb648 hg w5 hbox hb; have n0_ := Aside0.mk (below_step (pB HB.out) hb); have n1_ := Aside0.mk (hbox); have n2_ := Aside0.mk ((by rw [hg]; exact (below_size (pB HB.out)) : w.heap.size ≤ gb648)); have n3_ := Aside0.mk ((by rw [hg]; exact (below_size (pB HB.out)) : w.heap.size ≤ gb648)); clear HB; have HB := n0_; have BK648 := n1_; have GW648 := n2_; have GE648 := n3_; clear n0_ n1_ n2_ n3_; clear hb hbox hg) | ((with_reducible refine gate_dst (N := 4) rfl ?_); refine box_event ?hg (N := 4) ?hd (cs := #[.slice none 0 0, .slice none 0 0]) (t := 26) ?hr ?_; (case hd => rfl); (case hg => rfl); (case hr => first | (go_simp; done) | (go_simp; rfl)); intro gb649 hg w6 hbox hb; have n0_ := Aside0.mk (blk_below (g := gb648) (o := .cells #[.slice A0_0 l0_0.length c0_0, .slice A0_1 l0_1.length c0_1] 26 (0, 0)) (pK BK648.out) hb); have n1_ := Aside0.mk (below_step (by repeat (first | (with_reducible first | exact HB.out | apply below_alloc | apply pw_below_drewN | apply below_drew1 | refine below_set ?_ GE648.out) | exact HB.out)) hb); have n2_ := Aside0.mk (hbox); have n3_ := Aside0.mk ((by rw [hg]; exact (below_size (by repeat (first | (with_reducible first | exact HB.out | apply below_alloc | apply pw_below_drewN | apply below_drew1 | refine below_set ?_ GE648.out) | exact HB.out))) : w.heap.size ≤ gb649)); have n4_ := Aside0.mk ((by rw [hg]; exact (below_size (by repeat (first | (with_reducible first | exact HB.out | apply below_alloc | apply pw_below_drewN | apply below_drew1 | refine below_set ?_ GE648.out) | exact HB.out))) : w.heap.size ≤ gb649)); have n5_ := Aside0.mk ((by rw [hg]; exact Nat.ne_of_lt (blk_lt (g := gb648) (o := .cells #[.slice A0_0 l0_0.length c0_0, .slice A0_1 l0_1.length c0_1] 26 (0, 0)) (pK BK648.out)) : gb648 ≠ gb649)); have n6_ := Aside0.mk ((by rw [hg]; exact Nat.ne_of_gt (blk_lt (g := gb648) (o := .cells #[.slice A0_0 l0_0.length c0_0, .slice A0_1 l0_1.length c0_1] 26 (0, 0)) (pK BK648.out)) : gb649 ≠ gb648)); clear BK648; clear HB; have BK648 := n0_; have HB := n1_; have BK649 := n2_; have GW649 := n3_; have GE649 := n4_; have NB648_649 := n5_; have NB649_648 := n6_; clear n0_ n1_ n2_ n3_ n4_ n5_ n6_; clear hb hbox hg; have hnb7 := NB648_649.out; have hnc7 := NB649_648.out; have hcz8_0 : w6.cell? ⟨gb648, 0, none⟩ = some (.slice A0_0 l0_0.length c0_0) := (blk_cell BK648.out 0).trans rfl; have hcz8_1 : w6.cell? ⟨gb648, 1, none⟩ = some (.slice A0_1 l0_1.length c0_1) := (blk_cell BK648.out 1).trans rfl; have hfz8_0 := blk_frozen BK648.out 0; have hfz8_1 := blk_frozen BK648.out 1) | ((with_reducible refine gate_callee (f := 23) rfl ?_); refine goesL_ (some 8) rfl rfl Try.func23 (by kernel_rfl) rfl #[.agg #[.slice A0_0 l0_0.length c0_0, .slice A0_1 l0_1.length c0_1]] rfl bM ?_; (with_reducible refine (spec_SecOk.calls k _ _ l0_0 _ _ l0_1 true _ ?side1 ?side2 ?side3 ?side4 A3.out).mono ?_); (case side1 => repeat (first | exact (Kd.C_below HR0_0.out HB.out) | (with_reducible refine Kd.C_alloc ?_ _) | (with_reducible refine Kd.C_drewN ?_ _) | (with_reducible refine Kd.C_drew ?_))); (case side2 => exact HC0_0.out); (case side3 => repeat (first | exact (Kd.C_below HR0_1.out HB.out) | (with_reducible refine Kd.C_alloc ?_ _) | (with_reducible refine Kd.C_drewN ?_ _) | (with_reducible refine Kd.C_drew ?_))); (case side4 => exact HC0_1.out); rintro e w9 ⟨rfl, hb⟩; refine ⟨_, rfl, ?_⟩; have n0_ := Aside0.mk (blk_below (g := gb648) (o := .cells #[.slice A0_0 l0_0.length c0_0, .slice A0_1 l0_1.length c0_1] 26 (0, 0)) (pK BK648.out) hb); have n1_ := Aside0.mk (blk_below (g := gb649) (o := .cells #[.slice none 0 0, .slice none 0 0] 26 (0, 0)) (pK BK649.out) hb); have n2_ := Aside0.mk (below_step (by repeat (first | (with_reducible first | exact HB.out | apply below_alloc | apply pw_below_drewN | apply below_drew1 | refine below_set ?_ GE648.out | refine below_set ?_ GE649.out) | exact HB.out)) hb); clear BK648; clear BK649; clear HB; have BK648 := n0_; have BK649 := n1_; have HB := n2_; clear n0_ n1_ n2_; (try clear hb); (try clear hb2); (try clear hk); (try clear hi); have hcz10_0 : w9.cell? ⟨gb648, 0, none⟩ = some (.slice A0_0 l0_0.length c0_0) := (blk_cell BK648.out 0).trans rfl; have hcz10_1 : w9.cell? ⟨gb648, 1, none⟩ = some (.slice A0_1 l0_1.length c0_1) := (blk_cell BK648.out 1).trans rfl; have hfz10_0 := blk_frozen BK648.out 0; have hfz10_1 := blk_frozen BK648.out 1) | ((with_reducible refine gate_dst (N := 5) rfl ?_); refine box_event ?hg (N := 5) ?hd (cs := #[.slice none 0 0, .slice none 0 0]) (t := 26) ?hr ?_; (case hd => rfl); (case hg => rfl); (case hr => first | (go_simp; done) | (go_simp; rfl)); intro gb651 hg w11 hbox hb; have n0_ := Aside0.mk (blk_below (g := gb648) (o := .cells #[.slice A0_0 l0_0.length c0_0, .slice A0_1 l0_1.length c0_1] 26 (0, 0)) (pK BK648.out) hb); have n1_ := Aside0.mk (blk_below (g := gb649) (o := .cells #[.slice none 0 0, .slice none 0 0] 26 (0, 0)) (pK BK649.out) hb); have n2_ := Aside0.mk (below_step (by repeat (first | (with_reducible first | exact HB.out | apply below_alloc | apply pw_below_drewN | apply below_drew1 | refine below_set ?_ GE648.out | refine below_set ?_ GE649.out) | exact HB.out)) hb); have n3_ := Aside0.mk (hbox); have n4_ := Aside0.mk ((by rw [hg]; exact (below_size (by repeat (first | (with_reducible first | exact HB.out | apply below_alloc | apply pw_below_drewN | apply below_drew1 | refine below_set ?_ GE648.out | refine below_set ?_ GE649.out) | exact HB.out))) : w.heap.size ≤ gb651)); have n5_ := Aside0.mk ((by rw [hg]; exact (below_size (by repeat (first | (with_reducible first | exact HB.out | apply below_alloc | apply pw_below_drewN | apply below_drew1 | refine below_set ?_ GE648.out | refine below_set ?_ GE649.out) | exact HB.out))) : w.heap.size ≤ gb651)); have n6_ := Aside0.mk ((by rw [hg]; exact Nat.ne_of_lt (blk_lt (g := gb648) (o := .cells #[.slice A0_0 l0_0.length c0_0, .slice A0_1 l0_1.length c0_1] 26 (0, 0)) (pK BK648.out)) : gb648 ≠ gb651)); have n7_ := Aside0.mk ((by rw [hg]; exact Nat.ne_of_gt (blk_lt (g := gb648) (o := .cells #[.slice A0_0 l0_0.length c0_0, .slice A0_1 l0_1.length c0_1] 26 (0, 0)) (pK BK648.out)) : gb651 ≠ gb648)); have n8_ := Aside0.mk ((by rw [hg]; exact Nat.ne_of_lt (blk_lt (g := gb649) (o := .cells #[.slice none 0 0, .slice none 0 0] 26 (0, 0)) (pK BK649.out)) : gb649 ≠ gb651)); have n9_ := Aside0.mk ((by rw [hg]; exact Nat.ne_of_gt (blk_lt (g := gb649) (o := .cells #[.slice none 0 0, .slice none 0 0] 26 (0, 0)) (pK BK649.out)) : gb651 ≠ gb649)); clear BK648; clear BK649; clear HB; have BK648 := n0_; have BK649 := n1_; have HB := n2_; have BK651 := n3_; have GW651 := n4_; have GE651 := n5_; have NB648_651 := n6_; have NB651_648 := n7_; have NB649_651 := n8_; have NB651_649 := n9_; clear n0_ n1_ n2_ n3_ n4_ n5_ n6_ n7_ n8_ n9_; clear hb hbox hg; have hnb12 := NB651_648.out; have hnc12 := NB648_651.out; have hnb13 := NB651_649.out; have hnc13 := NB649_651.out; have hcz14_0 : w11.cell? ⟨gb651, 0, none⟩ = some (.slice none 0 0) := (blk_cell BK651.out 0).trans rfl; have hcz14_1 : w11.cell? ⟨gb651, 1, none⟩ = some (.slice none 0 0) := (blk_cell BK651.out 1).trans rfl; have hfz14_0 := blk_frozen BK651.out 0; have hfz14_1 := blk_frozen BK651.out 1))
  go_loopg [6] k (fun kq v6 w' => ∃ (x6_1 : Int) (x652001_1 : List (S54)) (u652001 : Value), v6 = .int .i64 x6_1 ∧ Aside0 (spec_SecCut.l0 kq l1 x6_1 l0_0 l0_1 l0_0 x652001_1 = some (r1, r2)) ∧ Aside0 (kq ≤ k) ∧ Aside0 (Kd.R k54 54 w' w.heap.size (fun _ => True) u652001 x652001_1) ∧ Aside0 (w'.heap[gb648]? = some (.cells #[(.slice A0_0 l0_0.length c0_0), (.slice A0_1 l0_1.length c0_1)] 26 (0, 0))) ∧ Aside0 (w'.heap[gb649]? = some (.cells #[(.slice none 0 0), (.slice none 0 0)] 26 (0, 0))) ∧ Aside0 (w'.heap[gb651]? = some (.cells #[(.slice A0_0 l0_0.length c0_0), u652001] 26 (0, 0))) ∧ Aside0 (Below w.heap.size w w'))
  case atStart => exact ⟨(0), (([] : List (S54))), (.slice none 0 0), (by first | rfl | (simp; done) | (simp [*]; done)), H', ⟨Nat.le_refl _⟩, ⟨by first | exact Kd.R_nil _ _ _ _ _ | exact Kd.N_nil _ _ _ _ _ | exact Kd.V_nil _ _ _ _ _ | exact Kd.Q_nil _ _ _ _ _ | exact Kd.S_nil _ _ _ _ _⟩, ⟨by (with_reducible repeat (first | refine blk_drewN ?_ _ | refine blk_drew ?_ | refine blk_alloc ?_ _)); refine blk_far ?_ NB648_651.out _; (with_reducible repeat (first | refine blk_drewN ?_ _ | refine blk_drew ?_ | refine blk_alloc ?_ _)); refine blk_far ?_ NB648_651.out _; (with_reducible repeat (first | refine blk_drewN ?_ _ | refine blk_drew ?_ | refine blk_alloc ?_ _)); exact BK648.out⟩, ⟨by (with_reducible repeat (first | refine blk_drewN ?_ _ | refine blk_drew ?_ | refine blk_alloc ?_ _)); refine blk_far ?_ NB649_651.out _; (with_reducible repeat (first | refine blk_drewN ?_ _ | refine blk_drew ?_ | refine blk_alloc ?_ _)); refine blk_far ?_ NB649_651.out _; (with_reducible repeat (first | refine blk_drewN ?_ _ | refine blk_drew ?_ | refine blk_alloc ?_ _)); exact BK649.out⟩, ⟨by (with_reducible repeat (first | refine blk_drewN ?_ _ | refine blk_drew ?_ | refine blk_alloc ?_ _)); refine blk_put (cs := #[.slice A0_0 l0_0.length c0_0, .slice none 0 0]) ?_ 1 _ rfl; (with_reducible repeat (first | refine blk_drewN ?_ _ | refine blk_drew ?_ | refine blk_alloc ?_ _)); refine blk_put (cs := #[.slice none 0 0, .slice none 0 0]) ?_ 0 _ rfl; (with_reducible repeat (first | refine blk_drewN ?_ _ | refine blk_drew ?_ | refine blk_alloc ?_ _)); exact BK651.out⟩, ⟨by repeat (first | (with_reducible first | exact HB.out | apply below_alloc | apply pw_below_drewN | apply below_drew1 | refine below_set ?_ GE648.out | refine below_set ?_ GE649.out | refine below_set ?_ GE651.out) | exact HB.out)⟩⟩
  case round =>
   clear H'
   try clear c1
   try clear c2
   try clear p2
   try clear c3
   try clear c4
   try clear c7
   try clear c12
   try clear c13
   try clear hcz10_0
   try clear hcz10_1
   try clear hcz14_0
   try clear hcz14_1
   try clear hcz8_0
   try clear hcz8_1
   try clear hfz10_0
   try clear hfz10_1
   try clear hfz14_0
   try clear hfz14_1
   try clear hfz8_0
   try clear hfz8_1
   obtain ⟨x6_1, x652001_1, u652001, rfl, HA, HK1, HO_652001, BK648, BK649, BK651, HB⟩ := hrel
   cases gk with
   | zero => exact absurd HA.out (by simp [spec_SecCut.l0])
   | succ k1 =>
    have H := HA.out
    clear HA
    simp only [spec_SecCut.l0] at H
    by_cases c15 : x6_1 < (l0_1.length : Int)
    ·rw [if_pos c15] at H
     have c15b0 : decide (x6_1 < (l0_1.length : Int)) = true := decide_eq_true c15
     clear c15
     by_cases c16 : x6_1 < (l1.length : Int)
     ·rw [if_pos c16] at H
      have c16b0 : decide (x6_1 < (l1.length : Int)) = true := decide_eq_true c16
      clear c16
      by_cases c17 : 0 ≤ x6_1
      ·rw [if_pos c17] at H
       have c17b0 : decide (0 ≤ x6_1) = true := decide_eq_true c17
       clear c17
       by_cases c18 : (rd l1 x6_1) = 0
       ·rw [if_pos c18] at H
        have c18b0 : ((rd l1 x6_1) == 0) = true := beq_iff_eq.mpr c18
        have c18b1 : ((rd l1 x6_1) != 0) = false := bne_eq_false_iff_eq.mpr c18
        clear c18
        have H' := Aside0.mk H
        clear H
        have hnb19 := NB648_649.out
        have hnc19 := NB649_648.out
        have hnb20 := NB648_651.out
        have hnc20 := NB651_648.out
        have hcz21_0 : wr.cell? ⟨gb648, 0, none⟩ = some (.slice A0_0 l0_0.length c0_0) := (blk_cell BK648.out 0).trans rfl
        have hcz21_1 : wr.cell? ⟨gb648, 1, none⟩ = some (.slice A0_1 l0_1.length c0_1) := (blk_cell BK648.out 1).trans rfl
        have hfz21_0 := blk_frozen BK648.out 0
        have hfz21_1 := blk_frozen BK648.out 1
        have p652 : 0 ≤ (x6_1 : Int) := of_decide_eq_true bA
        have q652 : x6_1 < (l1.length : Int) := of_decide_eq_true bA
        obtain ⟨ad652, e652, hx652_0⟩ := Kd.at_int HR1.out x6_1 p652 q652
        cases e652
        replace hx652_0 := (HB.out.cell (World.block_lt_of_cell? w _ hx652_0)).trans hx652_0
        replace p652 := eq_true p652
        replace q652 := eq_true q652
        go_wp2
        go_roundg k1
        case measure => have := HK1.out; omega
        case rel => exact ⟨(wrap64 (x6_1 + 1)), (x652001_1), (u652001), (by first | rfl | (simp; done) | (simp [*]; done)), H', ⟨by have := HK1.out; omega⟩, ⟨pR HO_652001.out⟩, ⟨pK BK648.out⟩, ⟨pK BK649.out⟩, ⟨pK BK651.out⟩, ⟨by repeat (first | (with_reducible first | exact HB.out | apply below_alloc | apply pw_below_drewN | apply below_drew1 | refine below_set ?_ GE648.out | refine below_set ?_ GE649.out | refine below_set ?_ GE651.out) | exact HB.out)⟩⟩
       ·rw [if_neg c18] at H
        have c18b0 : ((rd l1 x6_1) == 0) = false := beq_eq_false_iff_ne.mpr c18
        have c18b1 : ((rd l1 x6_1) != 0) = true := bne_iff_ne.mpr c18
        by_cases c22 : x652001_1.length < 5864062014805
        ·rw [if_pos c22] at H
         have LMc22 := Aside0.mk c22
         clear c22
         obtain ⟨y654, hy654⟩ : ∃ y_ : List (S54), y_ = (x652001_1 ++ [(⟨(rd_T54 l0_1 x6_1).f0, (rd_T54 l0_1 x6_1).f1⟩ : S54)]) := ⟨_, rfl⟩
         replace H : (spec_SecCut.l0 k1 l1 (wrap64 (x6_1 + 1)) l0_0 l0_1 l0_0 y654) = some (r1, r2) := by first | (rw [hy654]; with_reducible exact H) | (have H2_ := (Option.bind_some _ _).symm.trans H; rw [hy654]; with_reducible exact H2_) | (have H2_ := (Option.bind_some _ _).symm.trans H; with_reducible exact H2_) | with_reducible exact H | (rw [hy654]; exact H) | exact H
         have Ny654 := Aside0.mk hy654
         clear hy654
         have H' := Aside0.mk H
         clear H
         have hnb23 := NB648_649.out
         have hnc23 := NB649_648.out
         have hnb24 := NB648_651.out
         have hnc24 := NB651_648.out
         have hcz25_0 : wr.cell? ⟨gb648, 0, none⟩ = some (.slice A0_0 l0_0.length c0_0) := (blk_cell BK648.out 0).trans rfl
         have hcz25_1 : wr.cell? ⟨gb648, 1, none⟩ = some (.slice A0_1 l0_1.length c0_1) := (blk_cell BK648.out 1).trans rfl
         have hfz25_0 := blk_frozen BK648.out 0
         have hfz25_1 := blk_frozen BK648.out 1
         have p652 : 0 ≤ (x6_1 : Int) := of_decide_eq_true bA
         have q652 : x6_1 < (l1.length : Int) := of_decide_eq_true bA
         obtain ⟨ad652, e652, hx652_0⟩ := Kd.at_int HR1.out x6_1 p652 q652
         cases e652
         replace hx652_0 := (HB.out.cell (World.block_lt_of_cell? w _ hx652_0)).trans hx652_0
         replace p652 := eq_true p652
         replace q652 := eq_true q652
         try go_wp2
         have n0_ := Aside0.mk (Kd.R_drew HO_652001.out)
         have n1_ := Aside0.mk (blk_drew BK648.out)
         have n2_ := Aside0.mk (blk_drew BK649.out)
         have n3_ := Aside0.mk (blk_drew BK651.out)
         have n4_ := Aside0.mk (below_drew1 HB.out)
         clear HO_652001
         clear BK648
         clear BK649
         clear BK651
         clear HB
         have HO_652001 := n0_
         have BK648 := n1_
         have BK649 := n2_
         have BK651 := n3_
         have HB := n4_
         clear n0_ n1_ n2_ n3_ n4_
         have p653 : 0 ≤ (x6_1 : Int) := of_decide_eq_true bA
         have q653 : x6_1 < (l0_1.length : Int) := of_decide_eq_true bA
         obtain ⟨ad653, e653, hx653_0, hx653_1⟩ := at_T54 HR0_1.out x6_1 p653 q653
         have hw653_1 := hx653_1
         have hw653_0 := hx653_0
         cases e653
         replace hx653_0 := (HB.out.cell (World.block_lt_of_cell? w _ hx653_0)).trans hx653_0
         replace hx653_1 := (HB.out.cell (World.block_lt_of_cell? w _ hx653_1)).trans hx653_1
         replace p653 := eq_true p653
         replace q653 := eq_true q653
         refine start_ (n := 11) (S := fun w' => w'.cell? ⟨gb651, 0, none⟩ = some (.slice A0_0 l0_0.length c0_0) ∧ w'.cell? ⟨gb651, 1, none⟩ = some (u652001) ∧ w'.cell? ⟨gb648, 0, none⟩ = some (.slice A0_0 l0_0.length c0_0) ∧ w'.cell? ⟨gb648, 1, none⟩ = some (.slice (some ad653) l0_1.length c0_1) ∧ w'.cell? (ad653.add ((x6_1).toNat * 2)) = some (.int .i64 ((rd_T54 l0_1 x6_1).f0)) ∧ w'.cell? ⟨(ad653.add ((x6_1).toNat * 2)).block, (ad653.add ((x6_1).toNat * 2)).off + 1, none⟩ = some (.string ((rd_T54 l0_1 x6_1).f1))) (ds := [10]) #[false, false, false, false, false, false, false, false, false, false, false] (by kernel_rfl) rfl rfl ⟨(blk_cell BK651.out 0).trans rfl, (blk_cell BK651.out 1).trans rfl, (blk_cell BK648.out 0).trans rfl, (blk_cell BK648.out 1).trans rfl, ((HB.out.cell (World.block_lt_of_cell? w _ hw653_0)).trans hw653_0), ((HB.out.cell (World.block_lt_of_cell? w _ hw653_1)).trans hw653_1)⟩ (fun hHeld => ?_); refine with_tabW spec_SecCut.tab8 spec_SecCut.bits8 (fun HT_ HW_ => ?_)
         generalize wr.drew = w26 at HO_652001 BK648 BK649 BK651 HB hx653_0 hx653_1 hHeld ⊢
         refine pure_ (i := 0) (N := some 32) (v := ?_) (a' := ?_) #[true, false, false, false, false, false, false, false, false, false, false] rfl rfl (any_of HT_.out (by kernel_rfl)) (fun _ _ _ h => h) (Or.inl ⟨by rfl, ?_⟩) ?_ ?_
         rotate_left
         ·intro w'
          go_simp
          with_reducible rfl
         rotate_left
         ·simp only [Act.put, List.setIfInBounds_toArray, List.set_cons_zero, List.set_cons_succ, i64_w, i32_w]
          rfl
         refine pure_ (i := 2) (N := some 34) (v := ?_) (a' := ?_) #[true, false, true, false, false, false, false, false, false, false, false] rfl rfl (any_of HT_.out (by kernel_rfl)) (fun _ _ _ h => h) (Or.inl ⟨by rfl, ?_⟩) ?_ ?_
         rotate_left
         ·intro w'
          go_simp
          with_reducible rfl
         rotate_left
         ·simp only [Act.put, List.setIfInBounds_toArray, List.set_cons_zero, List.set_cons_succ, i64_w, i32_w]
          rfl
         refine pure_ (i := 4) (N := some 36) (v := ?_) (a' := ?_) #[true, false, true, false, true, false, false, false, false, false, false] rfl rfl (any_of HT_.out (by kernel_rfl)) (fun _ _ _ h => h) (Or.inl ⟨by rfl, ?_⟩) ?_ ?_
         rotate_left
         ·intro w'
          go_simp
          with_reducible rfl
         rotate_left
         ·simp only [Act.put, List.setIfInBounds_toArray, List.set_cons_zero, List.set_cons_succ, i64_w, i32_w]
          rfl
         refine take_ (i := 1) (N := some 33) (v := ?_) (a' := ?_) #[true, true, true, false, true, false, false, false, false, false, false] rfl rfl (take_ofW HT_.out HW_.out (by kernel_rfl)) (fun _ _ _ h => h) (Or.inl ⟨by rfl, ?_⟩) hHeld ?_ ?_
         rotate_left
         ·rintro w' ⟨s0, s1, s2, s3, s4, s5⟩
          go_simp
          with_reducible rfl
         rotate_left
         ·simp only [Act.put, List.setIfInBounds_toArray, List.set_cons_zero, List.set_cons_succ, i64_w, i32_w]
          rfl
         refine take_ (i := 3) (N := some 35) (v := ?_) (a' := ?_) #[true, true, true, true, true, false, false, false, false, false, false] rfl rfl (take_ofW HT_.out HW_.out (by kernel_rfl)) (fun _ _ _ h => h) (Or.inl ⟨by rfl, ?_⟩) hHeld ?_ ?_
         rotate_left
         ·rintro w' ⟨s0, s1, s2, s3, s4, s5⟩
          go_simp
          with_reducible rfl
         rotate_left
         ·simp only [Act.put, List.setIfInBounds_toArray, List.set_cons_zero, List.set_cons_succ, i64_w, i32_w]
          rfl
         refine pure_ (i := 5) (N := some 37) (v := ?_) (a' := ?_) #[true, true, true, true, true, true, false, false, false, false, false] rfl rfl (any_of HT_.out (by kernel_rfl)) (fun _ _ _ h => h) (Or.inl ⟨by rfl, ?_⟩) ?_ ?_
         rotate_left
         ·intro w'
          go_simp
          with_reducible rfl
         rotate_left
         ·simp only [Act.put, List.setIfInBounds_toArray, List.set_cons_zero, List.set_cons_succ, i64_w, i32_w]
          rfl
         refine take_ (i := 6) (N := some 38) (v := ?_) (a' := ?_) #[true, true, true, true, true, true, true, false, false, false, false] rfl rfl (take_ofW HT_.out HW_.out (by kernel_rfl)) (fun _ _ _ h => h) (Or.inl ⟨by rfl, ?_⟩) hHeld ?_ ?_
         rotate_left
         ·rintro w' ⟨s0, s1, s2, s3, s4, s5⟩
          go_simp
          with_reducible rfl
         rotate_left
         ·simp only [Act.put, List.setIfInBounds_toArray, List.set_cons_zero, List.set_cons_succ, i64_w, i32_w]
          rfl
         refine one_ (i := 7) (N := some 39) #[true, true, true, true, true, true, true, true, false, false, false] rfl rfl (one_of HT_.out (by kernel_rfl)) (by decide) (fun K hK => ?_)
         refine value_ (w1 := ?_) (v := ?_) (by rfl) rfl ?_ ?_
         rotate_left 2
         ·go_simp
          constructor
          ·rfl
          ·rfl
         refine hK.out _ _ ⟨(blk_cell (blk_alloc BK651.out _) 0).trans rfl, (blk_cell (blk_alloc BK651.out _) 1).trans rfl, (blk_cell (blk_alloc BK648.out _) 0).trans rfl, (blk_cell (blk_alloc BK648.out _) 1).trans rfl, (World.cell?_alloc_lt _ _ _ (World.block_lt_of_cell? _ _ (((HB.out.cell (World.block_lt_of_cell? w _ hw653_0)).trans hw653_0)))).trans (((HB.out.cell (World.block_lt_of_cell? w _ hw653_0)).trans hw653_0)), (World.cell?_alloc_lt _ _ _ (World.block_lt_of_cell? _ _ (((HB.out.cell (World.block_lt_of_cell? w _ hw653_1)).trans hw653_1)))).trans (((HB.out.cell (World.block_lt_of_cell? w _ hw653_1)).trans hw653_1))⟩ (fun hHeld => ?_)
         clear hK K
         refine norm_ (a' := ?_) ?_ ?_
         rotate_left
         ·show Act.put _ (some 39) _ = _
          simp only [Act.put, List.setIfInBounds_toArray, List.set_cons_zero, List.set_cons_succ, i64_w, i32_w]
          rfl
         refine one_ (i := 8) (N := some 40) #[true, true, true, true, true, true, true, true, true, false, false] rfl rfl (one_of HT_.out (by kernel_rfl)) (by decide) (fun K hK => ?_)
         refine Kd.R_append_step k54 (w0 := w) w.heap.size (by rfl) (.tmp 33) (.tmp 39) 24 54 (.agg #[(.int .i64 0), (.string ⟨#[]⟩)]) 24 rfl Try.underlying24 info54 rfl (by decide) (by omega) u652001 x652001_1 (⟨(rd_T54 l0_1 x6_1).f0, (rd_T54 l0_1 x6_1).f1⟩ : S54) [.int .i64 ((rd_T54 l0_1 x6_1).f0), .string ((rd_T54 l0_1 x6_1).f1)] (fun _ => True) (fun _ => False) rfl rfl ?aP (fun _ hk => hk.elim) ?aF ?aO ?aB ?aS ?aL ?_
         (case aP => exact k54_mkM _ _ _ (⟨(rd_T54 l0_1 x6_1).f0, (rd_T54 l0_1 x6_1).f1⟩ : S54))
         (case aB => exact (by repeat (first | (with_reducible first | exact HB.out | apply below_alloc | apply pw_below_drewN | apply below_drew1 | refine below_set ?_ GE648.out | refine below_set ?_ GE649.out | refine below_set ?_ GE651.out) | exact HB.out)))
         (case aF => exact (fun _ _ => trivial))
         (case aO => exact (pR HO_652001.out))
         (case aS => exact (below_size (by repeat (first | (with_reducible first | exact HB.out | apply below_alloc | apply pw_below_drewN | apply below_drew1 | refine below_set ?_ GE648.out | refine below_set ?_ GE649.out | refine below_set ?_ GE651.out) | exact HB.out))))
         (case aL => have := LMc22.out; omega)
         intro v655 w27 ho hb hg hat
         rw [← Ny654.out] at ho
         have n0_ := Aside0.mk (blk_grown (g := gb648) (o := .cells #[.slice A0_0 l0_0.length c0_0, .slice (some ad653) l0_1.length c0_1] 26 (0, 0)) (pK BK648.out) hg (Kd.R_ne HO_652001.out BK648.out (by decide)))
         have n1_ := Aside0.mk (blk_grown (g := gb649) (o := .cells #[.slice none 0 0, .slice none 0 0] 26 (0, 0)) (pK BK649.out) hg (Kd.R_ne HO_652001.out BK649.out (by decide)))
         have n2_ := Aside0.mk (blk_grown (g := gb651) (o := .cells #[.slice A0_0 l0_0.length c0_0, u652001] 26 (0, 0)) (pK BK651.out) hg (Kd.R_ne HO_652001.out BK651.out (by decide)))
         have n3_ := Aside0.mk (hb)
         have n4_ := Aside0.mk (ho)
         clear BK648
         clear BK649
         clear BK651
         clear HB
         clear HO_652001
         have BK648 := n0_
         have BK649 := n1_
         have BK651 := n2_
         have HB := n3_
         have HO656 := n4_
         clear n0_ n1_ n2_ n3_ n4_
         clear ho hb hg hat
         obtain ⟨Ao28, co28, eo28⟩ := Kd.R_slice HO656.out
         (first | subst eo28 | (injection eo28 with f1_ f2_ f3_; have f4_ := f1_.symm; have f5_ := f3_.symm; clear f1_ f2_ f3_; subst f4_; subst f5_))
         refine hK.out _ _ ⟨(blk_cell BK651.out 0).trans rfl, (blk_cell BK651.out 1).trans rfl, (blk_cell BK648.out 0).trans rfl, (blk_cell BK648.out 1).trans rfl, ((HB.out.cell (World.block_lt_of_cell? w _ hw653_0)).trans hw653_0), ((HB.out.cell (World.block_lt_of_cell? w _ hw653_1)).trans hw653_1)⟩ (fun hHeld => ?_)
         clear hK K
         refine norm_ (a' := ?_) ?_ ?_
         rotate_left
         ·show Act.put _ (some 40) _ = _
          simp only [Act.put, List.setIfInBounds_toArray, List.set_cons_zero, List.set_cons_succ, i64_w, i32_w]
          rfl
         refine pure_ (i := 9) (N := some 41) (v := ?_) (a' := ?_) #[true, true, true, true, true, true, true, true, true, true, false] rfl rfl (any_of HT_.out (by kernel_rfl)) (fun _ _ _ h => h) (Or.inl ⟨by rfl, ?_⟩) ?_ ?_
         rotate_left
         ·intro w'
          go_simp
          with_reducible rfl
         rotate_left
         ·simp only [Act.put, List.setIfInBounds_toArray, List.set_cons_zero, List.set_cons_succ, i64_w, i32_w]
          rfl
         refine last_ (i := 10) (N := none) #[true, true, true, true, true, true, true, true, true, true, true] rfl rfl (one_of HT_.out (by kernel_rfl)) (by decide) (fun K hK => ?_)
         have hs29 : w27.cell? ⟨gb651, 1, none⟩ = some (u652001) := (blk_cell BK651.out 1).trans rfl
         have hfs29 := blk_frozen BK651.out 1
         have hns29_0 := NB648_651.out
         have hns29_1 := NB649_651.out
         have hms29_0 := NB651_648.out
         have hms29_1 := NB651_649.out
         refine skip_ (w1 := ?_) (by rfl) rfl ?_ ?_
         rotate_left
         ·go_simp
          rfl
         refine hK.out _ _ ?_
         clear hK K
         refine done_ (done_of HT_.out (by kernel_rfl)) ?_
         try go_wp2
         go_roundg k1
         case measure => have := HK1.out; omega
         case rel => exact ⟨(wrap64 (x6_1 + 1)), (y654), (.slice Ao28 y654.length co28), (by first | rfl | (simp; done) | (simp [*]; done)), H', ⟨by have := HK1.out; omega⟩, ⟨pR (Kd.R_mono (Kd.R_far (p := ⟨gb651, 1, none⟩) (Kd.R_types HO656.out BK651.out (by decide)) (fun _ hk => hk.2) (.slice Ao28 y654.length co28)) (fun _ hk => trivial))⟩, ⟨by (with_reducible repeat (first | refine blk_drewN ?_ _ | refine blk_drew ?_ | refine blk_alloc ?_ _)); refine blk_far ?_ NB648_651.out _; (with_reducible repeat (first | refine blk_drewN ?_ _ | refine blk_drew ?_ | refine blk_alloc ?_ _)); exact BK648.out⟩, ⟨by (with_reducible repeat (first | refine blk_drewN ?_ _ | refine blk_drew ?_ | refine blk_alloc ?_ _)); refine blk_far ?_ NB649_651.out _; (with_reducible repeat (first | refine blk_drewN ?_ _ | refine blk_drew ?_ | refine blk_alloc ?_ _)); exact BK649.out⟩, ⟨by (with_reducible repeat (first | refine blk_drewN ?_ _ | refine blk_drew ?_ | refine blk_alloc ?_ _)); refine blk_put (cs := #[.slice A0_0 l0_0.length c0_0, u652001]) ?_ 1 _ rfl; (with_reducible repeat (first | refine blk_drewN ?_ _ | refine blk_drew ?_ | refine blk_alloc ?_ _)); exact BK651.out⟩, ⟨by repeat (first | (with_reducible first | exact HB.out | apply below_alloc | apply pw_below_drewN | apply below_drew1 | refine below_set ?_ GE648.out | refine below_set ?_ GE649.out | refine below_set ?_ GE651.out) | exact HB.out)⟩⟩
        ·rw [if_neg c22] at H
         exact absurd H (by simp)
      ·rw [if_neg c17] at H
       exact absurd H (by simp)
     ·rw [if_neg c16] at H
      have c16b0 : decide (x6_1 < (l1.length : Int)) = false := decide_eq_false c16
      clear c16
      have H' := Aside0.mk H
      clear H
      have hnb30 := NB648_649.out
      have hnc30 := NB649_648.out
      have hnb31 := NB648_651.out
      have hnc31 := NB651_648.out
      have hcz32_0 : wr.cell? ⟨gb648, 0, none⟩ = some (.slice A0_0 l0_0.length c0_0) := (blk_cell BK648.out 0).trans rfl
      have hcz32_1 : wr.cell? ⟨gb648, 1, none⟩ = some (.slice A0_1 l0_1.length c0_1) := (blk_cell BK648.out 1).trans rfl
      have hfz32_0 := blk_frozen BK648.out 0
      have hfz32_1 := blk_frozen BK648.out 1
      go_wp2
      go_roundg k1
      case measure => have := HK1.out; omega
      case rel => exact ⟨(wrap64 (x6_1 + 1)), (x652001_1), (u652001), (by first | rfl | (simp; done) | (simp [*]; done)), H', ⟨by have := HK1.out; omega⟩, ⟨pR HO_652001.out⟩, ⟨pK BK648.out⟩, ⟨pK BK649.out⟩, ⟨pK BK651.out⟩, ⟨by repeat (first | (with_reducible first | exact HB.out | apply below_alloc | apply pw_below_drewN | apply below_drew1 | refine below_set ?_ GE648.out | refine below_set ?_ GE649.out | refine below_set ?_ GE651.out) | exact HB.out)⟩⟩
    ·rw [if_neg c15] at H
     have c15b0 : decide (x6_1 < (l0_1.length : Int)) = false := decide_eq_false c15
     clear c15
     replace H := Option.bind_eq_some_iff.mp H
     obtain ⟨⟨t657, t660⟩, A330, H⟩ := H
     replace H : (some (t657, t660)) = some (r1, r2) := H
     have A33 := Aside0.mk A330
     clear A330
     simp only [Option.some.injEq, Prod.mk.injEq] at H
     obtain ⟨rfl, rfl⟩ := H
     have hnb34 := NB648_649.out
     have hnc34 := NB649_648.out
     have hnb35 := NB648_651.out
     have hnc35 := NB651_648.out
     have hcz36_0 : wr.cell? ⟨gb648, 0, none⟩ = some (.slice A0_0 l0_0.length c0_0) := (blk_cell BK648.out 0).trans rfl
     have hcz36_1 : wr.cell? ⟨gb648, 1, none⟩ = some (.slice A0_1 l0_1.length c0_1) := (blk_cell BK648.out 1).trans rfl
     have hfz36_0 := blk_frozen BK648.out 0
     have hfz36_1 := blk_frozen BK648.out 1
     have hnb37 := NB651_649.out
     have hnc37 := NB649_651.out
     have hcz38_0 : wr.cell? ⟨gb651, 0, none⟩ = some (.slice A0_0 l0_0.length c0_0) := (blk_cell BK651.out 0).trans rfl
     have hcz38_1 : wr.cell? ⟨gb651, 1, none⟩ = some (u652001) := (blk_cell BK651.out 1).trans rfl
     have hfz38_0 := blk_frozen BK651.out 0
     have hfz38_1 := blk_frozen BK651.out 1
     obtain ⟨Ao39, co39, eo39⟩ := Kd.R_slice HO_652001.out
     subst eo39
     go_wp2_with (first | ((with_reducible refine gate_callee (f := 37) rfl ?_); refine goesL_ (some 43) rfl rfl Try.func37 (by kernel_rfl) rfl #[.agg #[.slice A0_0 l0_0.length c0_0, .slice Ao39 x652001_1.length co39]] rfl bM ?_; (with_reducible refine (spec_SecFlush.calls k1 _ _ l0_0 _ _ x652001_1 t657 t660 _ ?side1 ?side2 ?side3 ?side4 A33.out).mono ?_); (case side1 => repeat (first | exact (Kd.C_below HR0_0.out HB.out) | (with_reducible refine Kd.C_alloc ?_ _) | (with_reducible refine Kd.C_drewN ?_ _) | (with_reducible refine Kd.C_drew ?_))); (case side2 => exact HC0_0.out); (case side3 => exact pC (Kd.R_reads' HO_652001.out).2.2); (case side4 => exact (Kd.R_reads' HO_652001.out).2.1); rintro e w40 ⟨v658, v661, rfl, ho0, ho1, hb⟩; refine ⟨_, rfl, ?_⟩; have n0_ := Aside0.mk (Kd.R_elder' (pR HO_652001.out) (Kd.R_base ho1) hb); have n1_ := Aside0.mk (Kd.R_lower ho0 (below_size (by repeat (first | (with_reducible first | exact HB.out | apply below_alloc | apply pw_below_drewN | apply below_drew1 | refine below_set ?_ GE648.out | refine below_set ?_ GE649.out | refine below_set ?_ GE651.out) | exact HB.out)))); have n2_ := Aside0.mk (Kd.R_lower (Kd.R_new' ho1 (Kd.R_lt (pR HO_652001.out))) (below_size (by repeat (first | (with_reducible first | exact HB.out | apply below_alloc | apply pw_below_drewN | apply below_drew1 | refine below_set ?_ GE648.out | refine below_set ?_ GE649.out | refine below_set ?_ GE651.out) | exact HB.out)))); have n3_ := Aside0.mk (blk_below (g := gb648) (o := .cells #[.slice A0_0 l0_0.length c0_0, .slice A0_1 l0_1.length c0_1] 26 (0, 0)) (pK BK648.out) hb); have n4_ := Aside0.mk (blk_below (g := gb649) (o := .cells #[.slice none 0 0, .slice none 0 0] 26 (0, 0)) (pK BK649.out) hb); have n5_ := Aside0.mk (blk_below (g := gb651) (o := .cells #[.slice A0_0 l0_0.length c0_0, .slice Ao39 x652001_1.length co39] 26 (0, 0)) (pK BK651.out) hb); have n6_ := Aside0.mk (below_step (by repeat (first | (with_reducible first | exact HB.out | apply below_alloc | apply pw_below_drewN | apply below_drew1 | refine below_set ?_ GE648.out | refine below_set ?_ GE649.out | refine below_set ?_ GE651.out) | exact HB.out)) hb); clear HO_652001; clear BK648; clear BK649; clear BK651; clear HB; have HO_652001 := n0_; have HO659 := n1_; have HO662 := n2_; have BK648 := n3_; have BK649 := n4_; have BK651 := n5_; have HB := n6_; clear n0_ n1_ n2_ n3_ n4_ n5_ n6_; (try clear hb); (try clear hb2); (try clear hk); (try clear hi); (try clear ho0); (try clear ho1); obtain ⟨Ao41, co41, eo41⟩ := Kd.R_slice HO659.out; subst eo41; have hcz42_0 : w40.cell? ⟨gb649, 0, none⟩ = some (.slice none 0 0) := (blk_cell BK649.out 0).trans rfl; have hcz42_1 : w40.cell? ⟨gb649, 1, none⟩ = some (.slice none 0 0) := (blk_cell BK649.out 1).trans rfl; have hfz42_0 := blk_frozen BK649.out 0; have hfz42_1 := blk_frozen BK649.out 1; obtain ⟨Ao43, co43, eo43⟩ := Kd.R_slice HO662.out; subst eo43))
     refine bodyPost_ret (results_cell_row rfl _ _ gb649 26 #[.slice Ao41 t657.length co41, .slice Ao43 t660.length co43] (0, 0) _ rfl (by (with_reducible repeat (first | refine blk_drewN ?_ _ | refine blk_drew ?_ | refine blk_alloc ?_ _)); refine blk_put (cs := #[.slice Ao41 t657.length co41, .slice none 0 0]) ?_ 1 _ rfl; (with_reducible repeat (first | refine blk_drewN ?_ _ | refine blk_drew ?_ | refine blk_alloc ?_ _)); refine blk_put (cs := #[.slice none 0 0, .slice none 0 0]) ?_ 0 _ rfl; (with_reducible repeat (first | refine blk_drewN ?_ _ | refine blk_drew ?_ | refine blk_alloc ?_ _)); exact BK649.out) Try.underlying26 rfl (by kernel_rfl)) rfl ?_
     exact ⟨_, _, by first | rfl | (simp [errW_none, errW_some] <;> rfl) | (simp [*, errW_none, errW_some] <;> rfl), pR (Kd.R_mono (Kd.R_far (p := ⟨gb649, 1, none⟩) (Kd.R_far (p := ⟨gb649, 0, none⟩) (Kd.R_types HO659.out BK649.out (by decide)) (fun _ hk => hk.2) (.slice Ao41 t657.length co41)) (fun _ hk => hk.2) (.slice Ao43 t660.length co43)) (fun _ hk => trivial)), pR (Kd.R_mono (Kd.R_far (p := ⟨gb649, 1, none⟩) (Kd.R_far (p := ⟨gb649, 0, none⟩) (Kd.R_types HO662.out BK649.out (by decide)) (fun _ hk => hk.2) (.slice Ao41 t657.length co41)) (fun _ hk => hk.2) (.slice Ao43 t660.length co43)) (fun _ hk => trivial)), by repeat (first | (with_reducible first | exact HB.out | apply below_alloc | apply pw_below_drewN | apply below_drew1 | refine below_set ?_ GE648.out | refine below_set ?_ GE649.out | refine below_set ?_ GE651.out) | exact HB.out)⟩
 ·replace c4 := Bool.eq_false_iff.mpr c4
  subst c4
  have H1 : (some (([] : List ByteArray), ([] : List (S54)))) = some (r1, r2) := by rw [if_neg (show ¬ (false = true) by decide)] at H; exact H
  clear H
  have H := H1
  clear H1
  simp only [Option.some.injEq, Prod.mk.injEq] at H
  obtain ⟨rfl, rfl⟩ := H
  go_enter Try.func34, Try.ntmps34
  go_wp2_with (first | ((with_reducible refine gate_dst (N := 2) rfl ?_); refine box_event ?hg (N := 2) ?hd (cs := #[.slice A0_0 l0_0.length c0_0, .slice A0_1 l0_1.length c0_1]) (t := 26) ?hr ?_; (case hd => rfl); (case hg => rfl); (case hr => first | (go_simp; done) | (go_simp; rfl)); intro gb648 hg w44 hbox hb; have n0_ := Aside0.mk (below_step (pB HB.out) hb); have n1_ := Aside0.mk (hbox); have n2_ := Aside0.mk ((by rw [hg]; exact (below_size (pB HB.out)) : w.heap.size ≤ gb648)); have n3_ := Aside0.mk ((by rw [hg]; exact (below_size (pB HB.out)) : w.heap.size ≤ gb648)); clear HB; have HB := n0_; have BK648 := n1_; have GW648 := n2_; have GE648 := n3_; clear n0_ n1_ n2_ n3_; clear hb hbox hg) | ((with_reducible refine gate_dst (N := 4) rfl ?_); refine box_event ?hg (N := 4) ?hd (cs := #[.slice none 0 0, .slice none 0 0]) (t := 26) ?hr ?_; (case hd => rfl); (case hg => rfl); (case hr => first | (go_simp; done) | (go_simp; rfl)); intro gb649 hg w45 hbox hb; have n0_ := Aside0.mk (blk_below (g := gb648) (o := .cells #[.slice A0_0 l0_0.length c0_0, .slice A0_1 l0_1.length c0_1] 26 (0, 0)) (pK BK648.out) hb); have n1_ := Aside0.mk (below_step (by repeat (first | (with_reducible first | exact HB.out | apply below_alloc | apply pw_below_drewN | apply below_drew1 | refine below_set ?_ GE648.out) | exact HB.out)) hb); have n2_ := Aside0.mk (hbox); have n3_ := Aside0.mk ((by rw [hg]; exact (below_size (by repeat (first | (with_reducible first | exact HB.out | apply below_alloc | apply pw_below_drewN | apply below_drew1 | refine below_set ?_ GE648.out) | exact HB.out))) : w.heap.size ≤ gb649)); have n4_ := Aside0.mk ((by rw [hg]; exact (below_size (by repeat (first | (with_reducible first | exact HB.out | apply below_alloc | apply pw_below_drewN | apply below_drew1 | refine below_set ?_ GE648.out) | exact HB.out))) : w.heap.size ≤ gb649)); have n5_ := Aside0.mk ((by rw [hg]; exact Nat.ne_of_lt (blk_lt (g := gb648) (o := .cells #[.slice A0_0 l0_0.length c0_0, .slice A0_1 l0_1.length c0_1] 26 (0, 0)) (pK BK648.out)) : gb648 ≠ gb649)); have n6_ := Aside0.mk ((by rw [hg]; exact Nat.ne_of_gt (blk_lt (g := gb648) (o := .cells #[.slice A0_0 l0_0.length c0_0, .slice A0_1 l0_1.length c0_1] 26 (0, 0)) (pK BK648.out)) : gb649 ≠ gb648)); clear BK648; clear HB; have BK648 := n0_; have HB := n1_; have BK649 := n2_; have GW649 := n3_; have GE649 := n4_; have NB648_649 := n5_; have NB649_648 := n6_; clear n0_ n1_ n2_ n3_ n4_ n5_ n6_; clear hb hbox hg; have hnb46 := NB648_649.out; have hnc46 := NB649_648.out; have hcz47_0 : w45.cell? ⟨gb648, 0, none⟩ = some (.slice A0_0 l0_0.length c0_0) := (blk_cell BK648.out 0).trans rfl; have hcz47_1 : w45.cell? ⟨gb648, 1, none⟩ = some (.slice A0_1 l0_1.length c0_1) := (blk_cell BK648.out 1).trans rfl; have hfz47_0 := blk_frozen BK648.out 0; have hfz47_1 := blk_frozen BK648.out 1) | ((with_reducible refine gate_callee (f := 23) rfl ?_); refine goesL_ (some 8) rfl rfl Try.func23 (by kernel_rfl) rfl #[.agg #[.slice A0_0 l0_0.length c0_0, .slice A0_1 l0_1.length c0_1]] rfl bM ?_; (with_reducible refine (spec_SecOk.calls k _ _ l0_0 _ _ l0_1 false _ ?side1 ?side2 ?side3 ?side4 A3.out).mono ?_); (case side1 => repeat (first | exact (Kd.C_below HR0_0.out HB.out) | (with_reducible refine Kd.C_alloc ?_ _) | (with_reducible refine Kd.C_drewN ?_ _) | (with_reducible refine Kd.C_drew ?_))); (case side2 => exact HC0_0.out); (case side3 => repeat (first | exact (Kd.C_below HR0_1.out HB.out) | (with_reducible refine Kd.C_alloc ?_ _) | (with_reducible refine Kd.C_drewN ?_ _) | (with_reducible refine Kd.C_drew ?_))); (case side4 => exact HC0_1.out); rintro e w48 ⟨rfl, hb⟩; refine ⟨_, rfl, ?_⟩; have n0_ := Aside0.mk (blk_below (g := gb648) (o := .cells #[.slice A0_0 l0_0.length c0_0, .slice A0_1 l0_1.length c0_1] 26 (0, 0)) (pK BK648.out) hb); have n1_ := Aside0.mk (blk_below (g := gb649) (o := .cells #[.slice none 0 0, .slice none 0 0] 26 (0, 0)) (pK BK649.out) hb); have n2_ := Aside0.mk (below_step (by repeat (first | (with_reducible first | exact HB.out | apply below_alloc | apply pw_below_drewN | apply below_drew1 | refine below_set ?_ GE648.out | refine below_set ?_ GE649.out) | exact HB.out)) hb); clear BK648; clear BK649; clear HB; have BK648 := n0_; have BK649 := n1_; have HB := n2_; clear n0_ n1_ n2_; (try clear hb); (try clear hb2); (try clear hk); (try clear hi); have hcz49_0 : w48.cell? ⟨gb649, 0, none⟩ = some (.slice none 0 0) := (blk_cell BK649.out 0).trans rfl; have hcz49_1 : w48.cell? ⟨gb649, 1, none⟩ = some (.slice none 0 0) := (blk_cell BK649.out 1).trans rfl; have hfz49_0 := blk_frozen BK649.out 0; have hfz49_1 := blk_frozen BK649.out 1))
  refine bodyPost_ret (results_cell_row rfl _ _ gb649 26 #[.slice none 0 0, .slice none 0 0] (0, 0) _ rfl (by (with_reducible repeat (first | refine blk_drewN ?_ _ | refine blk_drew ?_ | refine blk_alloc ?_ _)); refine blk_put (cs := #[.slice none 0 0, .slice none 0 0]) ?_ 1 _ rfl; (with_reducible repeat (first | refine blk_drewN ?_ _ | refine blk_drew ?_ | refine blk_alloc ?_ _)); refine blk_put (cs := #[.slice none 0 0, .slice none 0 0]) ?_ 0 _ rfl; (with_reducible repeat (first | refine blk_drewN ?_ _ | refine blk_drew ?_ | refine blk_alloc ?_ _)); exact BK649.out) Try.underlying26 rfl (by kernel_rfl)) rfl ?_
  exact ⟨_, _, by first | rfl | (simp [errW_none, errW_some] <;> rfl) | (simp [*, errW_none, errW_some] <;> rfl), by first | exact Kd.R_nil _ _ _ _ _ | exact Kd.N_nil _ _ _ _ _ | exact Kd.V_nil _ _ _ _ _ | exact Kd.Q_nil _ _ _ _ _ | exact Kd.S_nil _ _ _ _ _, by first | exact Kd.R_nil _ _ _ _ _ | exact Kd.N_nil _ _ _ _ _ | exact Kd.V_nil _ _ _ _ _ | exact Kd.Q_nil _ _ _ _ _ | exact Kd.S_nil _ _ _ _ _, by repeat (first | (with_reducible first | exact HB.out | apply below_alloc | apply pw_below_drewN | apply below_drew1 | refine below_set ?_ GE648.out | refine below_set ?_ GE649.out) | exact HB.out)⟩

end Go.Proofs.Ythkdhcaojhbfoaa.P
