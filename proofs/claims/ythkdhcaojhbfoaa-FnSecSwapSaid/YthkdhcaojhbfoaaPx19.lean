-- printed by pprint.py (this session's program over the kit's printer) out of the translation. Lean checks it.
import Derived.Test.YthkdhcaojhbfoaaPx0
import Derived.Test.YthkdhcaojhbfoaaPx11
import Derived.Test.YthkdhcaojhbfoaaPx12
namespace Go.Proofs.Ythkdhcaojhbfoaa.P
open Go.RowKit Go.Proofs.YthkdhcaojhbfoaaX Go.Proofs.YthkdhcaojhbfoaaW.PrintWords Go.Proofs.YthkdhcaojhbfoaaW.PrintLast Go.Proofs.YthkdhcaojhbfoaaW.PrintMore
attribute [local go_sem] max2_int min2_int max_two min_two max_three min_three max_four min_four   -- for this text's walks alone
set_option linter.unusedVariables false
set_option linter.unusedSimpArgs false

/-! ### spec_DrawSecPut: function 28 -/
def spec_DrawSecPut.f (k : Nat) (l0 : List Int) : Option (List ByteArray × (List (S54)) × Int × ByteArray) := (spec_l6Open.f l0).bind fun bt448 => ((spec_l72SecAny.f k bt448.1 bt448.2).bind fun bt451 => ((spec_l6Rd_pick.f k bt448.1 bt451.2.2 (wrap64 ((bt451.1.length : Int) + 2))).bind fun bt459 => ((spec_l6Rd_pick.f k bt448.1 bt459.2 2).bind fun bt461 => ((spec_l72Text.f k bt448.1 bt461.2 17).bind fun bt463 => (some (bt451.1, bt451.2.1, wrap64 (bt459.1 - bt461.1), bt463.1))))))
theorem spec_DrawSecPut.mono : ∀ a0 k, LeO (spec_DrawSecPut.f k a0) (spec_DrawSecPut.f (k + 1) a0) := by
 intro a0 k
 unfold spec_DrawSecPut.f
 repeat' first
   | (with_reducible exact spec_l6Rd_pick.mono _ _ _ _)
   | (with_reducible exact spec_l72SecAny.mono _ _ _)
   | (with_reducible exact spec_l72Text.mono _ _ _ _)
   | (with_reducible exact LeO.refl _)
   | (with_reducible exact LeO.none _)
   | (with_reducible refine LeO.ite ?_ ?_)
   | (with_reducible refine LeO.bind ?_ (fun _ => ?_))
   | exact spec_l6Rd_pick.mono _ _ _ _
   | exact spec_l72SecAny.mono _ _ _
   | exact spec_l72Text.mono _ _ _ _
   | exact LeO.none _
   | refine LeO.ite ?_ ?_
   | refine LeO.bind ?_ (fun _ => ?_)
def spec_DrawSecPut.T3 : Bool × List (List Nat × List Nat) := (true, [([], []), ([], []), ([], []), ([2], [2]), ([3], [3]), ([4], [4]), ([1, 5], [1, 5]), ([], []), ([7, 6], [7]), ([6, 8], [6, 8]), ([], []), ([10, 8], [10]), ([0, 11, 0], [0]), ([9, 12, 0, 1, 2, 3, 4, 5, 6, 7, 8, 9, 12], [9]), ([11, 13, 0, 1, 2, 3, 4, 5, 6, 7, 8, 9, 10, 11, 12, 13], [11])])
def spec_DrawSecPut.B3 : List Nat := [0, 0, 0, 4, 12, 28, 62, 0, 254, 510, 0, 1534, 3583, 8191, 16383]
theorem spec_DrawSecPut.tab3 : rtab .any (opsOf Try.f28 3) = spec_DrawSecPut.T3 := by kernel_rfl
theorem spec_DrawSecPut.bits3 : waitsOk spec_DrawSecPut.T3.2 spec_DrawSecPut.B3 = true := by kernel_rfl
set_option maxHeartbeats 8000000 in
set_option maxRecDepth 100000 in
theorem spec_DrawSecPut.calls (k : Nat) (A0 : Option Addr) (c0 : Nat) (l0 : List Int) (r1 : List ByteArray) (r2 : List (S54)) (r3 : Int) (r4 : ByteArray) (w : World) (hr0 : Kd.C (Kd.int .u8) w A0 l0.length l0) (hc0 : l0.length ≤ c0) (h : spec_DrawSecPut.f k l0 = some (r1, r2, r3, r4)) :
  Calls Try.prog 28 #[.slice A0 l0.length c0] w fun e w' => ∃ v0_ v1_ : Value, e = .returned (.tuple #[.agg #[v0_, v1_], .int .i64 r3, .string r4]) ∧ Kd.R Kd.string 9 w' w.heap.size (fun _ => True) v0_ r1 ∧ Kd.R k54 54 w' w.heap.size (fun _ => True) v1_ r2 ∧ Below w.heap.size w w' := by
 have hu26 := Try.underlying26
 have HR0 := Aside0.mk hr0
 have HC0 := Aside0.mk hc0
 clear hr0 hc0
 have HB := Aside0.mk (Below.refl w.heap.size w)
 have H : ((spec_l6Open.f l0).bind fun bt448 => ((spec_l72SecAny.f k bt448.1 bt448.2).bind fun bt451 => ((spec_l6Rd_pick.f k bt448.1 bt451.2.2 (wrap64 ((bt451.1.length : Int) + 2))).bind fun bt459 => ((spec_l6Rd_pick.f k bt448.1 bt459.2 2).bind fun bt461 => ((spec_l72Text.f k bt448.1 bt461.2 17).bind fun bt463 => (some (bt451.1, bt451.2.1, wrap64 (bt459.1 - bt461.1), bt463.1))))))) = some (r1, r2, r3, r4) := h
 clear h
 replace H := Option.bind_eq_some_iff.mp H
 obtain ⟨⟨t448, t449⟩, A20, H⟩ := H
 replace H : ((spec_l72SecAny.f k t448 t449).bind fun bt451 => ((spec_l6Rd_pick.f k t448 bt451.2.2 (wrap64 ((bt451.1.length : Int) + 2))).bind fun bt459 => ((spec_l6Rd_pick.f k t448 bt459.2 2).bind fun bt461 => ((spec_l72Text.f k t448 bt461.2 17).bind fun bt463 => (some (bt451.1, bt451.2.1, wrap64 (bt459.1 - bt461.1), bt463.1)))))) = some (r1, r2, r3, r4) := H
 have A2 := Aside0.mk A20
 clear A20
 replace H := Option.bind_eq_some_iff.mp H
 obtain ⟨⟨t451, t454, t457⟩, A30, H⟩ := H
 replace H : ((spec_l6Rd_pick.f k t448 t457 (wrap64 ((t451.length : Int) + 2))).bind fun bt459 => ((spec_l6Rd_pick.f k t448 bt459.2 2).bind fun bt461 => ((spec_l72Text.f k t448 bt461.2 17).bind fun bt463 => (some (t451, t454, wrap64 (bt459.1 - bt461.1), bt463.1))))) = some (r1, r2, r3, r4) := H
 have A3 := Aside0.mk A30
 clear A30
 replace H := Option.bind_eq_some_iff.mp H
 obtain ⟨⟨t459, t460⟩, A40, H⟩ := H
 replace H : ((spec_l6Rd_pick.f k t448 t460 2).bind fun bt461 => ((spec_l72Text.f k t448 bt461.2 17).bind fun bt463 => (some (t451, t454, wrap64 (t459 - bt461.1), bt463.1)))) = some (r1, r2, r3, r4) := H
 have A4 := Aside0.mk A40
 clear A40
 replace H := Option.bind_eq_some_iff.mp H
 obtain ⟨⟨t461, t462⟩, A50, H⟩ := H
 replace H : ((spec_l72Text.f k t448 t462 17).bind fun bt463 => (some (t451, t454, wrap64 (t459 - t461), bt463.1))) = some (r1, r2, r3, r4) := H
 have A5 := Aside0.mk A50
 clear A50
 replace H := Option.bind_eq_some_iff.mp H
 obtain ⟨⟨t463, t464⟩, A60, H⟩ := H
 replace H : (some (t451, t454, wrap64 (t459 - t461), t463)) = some (r1, r2, r3, r4) := H
 have A6 := Aside0.mk A60
 clear A60
 simp only [Option.some.injEq, Prod.mk.injEq] at H
 obtain ⟨rfl, rfl, rfl, rfl⟩ := H
 go_enter Try.func28, Try.ntmps28
 try go_wp2_with (first | ((with_reducible refine gate_dst (N := 2) rfl ?_); refine box_event ?hg (N := 2) ?hd (cs := #[.slice none 0 0, .slice none 0 0]) (t := 26) ?hr ?_; (case hd => rfl); (case hg => rfl); (case hr => first | (go_simp; done) | (go_simp; rfl)); intro gb447 hg w7 hbox hb; have n0_ := Aside0.mk (below_step (pB HB.out) hb); have n1_ := Aside0.mk (hbox); have n2_ := Aside0.mk ((by rw [hg]; exact (below_size (pB HB.out)) : w.heap.size ≤ gb447)); have n3_ := Aside0.mk ((by rw [hg]; exact (below_size (pB HB.out)) : w.heap.size ≤ gb447)); clear HB; have HB := n0_; have BK447 := n1_; have GW447 := n2_; have GE447 := n3_; clear n0_ n1_ n2_ n3_; clear hb hbox hg) | ((with_reducible refine gate_callee (f := 54) rfl ?_); refine goesL_ (some 8) rfl rfl Try.func54 (by kernel_rfl) rfl #[.slice A0 l0.length c0] rfl bM ?_; (with_reducible refine (spec_l6Open.calls _ _ l0 t448 t449 w _ ?side1 ?side2 ?side3 A2.out).mono ?_); (case side1 => repeat (first | (with_reducible first | exact HB.out | apply below_alloc | apply pw_below_drewN | apply below_drew1 | refine below_set ?_ GE447.out) | exact HB.out)); (case side2 => exact HR0.out); (case side3 => exact HC0.out); rintro e w8 ⟨g450, rfl, hi, hb, hb2⟩; refine ⟨_, rfl, ?_⟩; have n0_ := Aside0.mk (blk_below (g := gb447) (o := .cells #[.slice none 0 0, .slice none 0 0] 26 (0, 0)) (pK BK447.out) hb2); have n1_ := Aside0.mk (hb); have n2_ := Aside0.mk (hi); have n3_ := Aside0.mk (IsS82.ne_blk hi (blk_below (g := gb447) (o := .cells #[.slice none 0 0, .slice none 0 0] 26 (0, 0)) (pK BK447.out) hb2) (by decide)); have n4_ := Aside0.mk (Ne.symm (IsS82.ne_blk hi (blk_below (g := gb447) (o := .cells #[.slice none 0 0, .slice none 0 0] 26 (0, 0)) (pK BK447.out) hb2) (by decide))); clear BK447; clear HB; have BK447 := n0_; have HB := n1_; have HI450 := n2_; have NB450_447 := n3_; have NB447_450 := n4_; clear n0_ n1_ n2_ n3_ n4_; (try clear hb); (try clear hb2); (try clear hk); (try clear hi)) | ((with_reducible refine gate_callee (f := 55) rfl ?_); refine goesL_ (some 10) rfl rfl Try.func55 (by kernel_rfl) rfl #[.pointer (some ⟨g450, 0, none⟩)] rfl bM ?_; (with_reducible refine (spec_l72SecAny.calls k g450 t448 t449 t451 t454 t457 w _ ?side1 ?side2 A3.out).mono ?_); (case side1 => repeat (first | (with_reducible first | exact HI450.out | apply IsS82.alloc | apply IsS82.drewN | apply IsS82.drew | apply IsS82.set_1 | refine IsS82.far ?_ NB450_447.out _) | exact HI450.out)); (case side2 => repeat (first | (with_reducible first | exact HB.out | apply below_alloc | apply pw_below_drewN | apply below_drew1 | refine below_set ?_ (IsS82.ge HI450.out) | refine below_set ?_ GE447.out) | exact HB.out)); rintro e w9 ⟨v452, v455, rfl, ho0, ho1, hi, hb, hk⟩; refine ⟨_, rfl, ?_⟩; have n0_ := Aside0.mk (KeepBut.blk hk (g' := gb447) (o := .cells #[.slice none 0 0, .slice none 0 0] 26 (0, 0)) (pK BK447.out) NB447_450.out (by simp)); have n1_ := Aside0.mk (Kd.R_lower ho0 (below_size (by repeat (first | (with_reducible first | exact HB.out | apply below_alloc | apply pw_below_drewN | apply below_drew1 | refine below_set ?_ (IsS82.ge HI450.out) | refine below_set ?_ GE447.out) | exact HB.out)))); have n2_ := Aside0.mk (Kd.R_lower ho1 (below_size (by repeat (first | (with_reducible first | exact HB.out | apply below_alloc | apply pw_below_drewN | apply below_drew1 | refine below_set ?_ (IsS82.ge HI450.out) | refine below_set ?_ GE447.out) | exact HB.out)))); have n3_ := Aside0.mk (hb); have n4_ := Aside0.mk (hi); clear BK447; clear HB; clear HI450; have BK447 := n0_; have HO453 := n1_; have HO456 := n2_; have HB := n3_; have HI450 := n4_; clear n0_ n1_ n2_ n3_ n4_; (try clear hb); (try clear hb2); (try clear hk); (try clear hi); (try clear ho0); (try clear ho1)) | ((with_reducible refine gate_dst (N := 6) rfl ?_); refine box_event ?hg (N := 6) ?hd (cs := #[.slice none 0 0, .slice none 0 0]) (t := 26) ?hr ?_; (case hd => rfl); (case hg => rfl); (case hr => first | (go_simp; done) | (go_simp; rfl)); intro gb458 hg w10 hbox hb; have n0_ := Aside0.mk (Kd.R_below (pR HO453.out) hb); have n1_ := Aside0.mk (Kd.R_below (pR HO456.out) hb); have n2_ := Aside0.mk (blk_below (g := gb447) (o := .cells #[.slice none 0 0, .slice none 0 0] 26 (0, 0)) (pK BK447.out) hb); have n3_ := Aside0.mk (IsS82.below (by repeat (first | (with_reducible first | exact HI450.out | apply IsS82.alloc | apply IsS82.drewN | apply IsS82.drew | apply IsS82.set_1 | refine IsS82.far ?_ NB450_447.out _) | exact HI450.out)) hb); have n4_ := Aside0.mk (below_step (by repeat (first | (with_reducible first | exact HB.out | apply below_alloc | apply pw_below_drewN | apply below_drew1 | refine below_set ?_ (IsS82.ge HI450.out) | refine below_set ?_ GE447.out) | exact HB.out)) hb); have n5_ := Aside0.mk (hbox); have n6_ := Aside0.mk ((by rw [hg]; exact (below_size (by repeat (first | (with_reducible first | exact HB.out | apply below_alloc | apply pw_below_drewN | apply below_drew1 | refine below_set ?_ (IsS82.ge HI450.out) | refine below_set ?_ GE447.out) | exact HB.out))) : w.heap.size ≤ gb458)); have n7_ := Aside0.mk ((by rw [hg]; exact (below_size (by repeat (first | (with_reducible first | exact HB.out | apply below_alloc | apply pw_below_drewN | apply below_drew1 | refine below_set ?_ (IsS82.ge HI450.out) | refine below_set ?_ GE447.out) | exact HB.out))) : w.heap.size ≤ gb458)); have n8_ := Aside0.mk ((by rw [hg]; exact Nat.ne_of_lt (blk_lt (g := gb447) (o := .cells #[.slice none 0 0, .slice none 0 0] 26 (0, 0)) (pK BK447.out)) : gb447 ≠ gb458)); have n9_ := Aside0.mk ((by rw [hg]; exact Nat.ne_of_gt (blk_lt (g := gb447) (o := .cells #[.slice none 0 0, .slice none 0 0] 26 (0, 0)) (pK BK447.out)) : gb458 ≠ gb447)); have n10_ := Aside0.mk ((by rw [hg]; exact Nat.ne_of_lt (IsS82.lt (show IsS82 w _ g450 t448 t457 from by repeat (first | (with_reducible first | exact HI450.out | apply IsS82.alloc | apply IsS82.drewN | apply IsS82.drew | apply IsS82.set_1 | refine IsS82.far ?_ NB450_447.out _) | exact HI450.out))) : g450 ≠ gb458)); have n11_ := Aside0.mk ((by rw [hg]; exact Nat.ne_of_gt (IsS82.lt (show IsS82 w _ g450 t448 t457 from by repeat (first | (with_reducible first | exact HI450.out | apply IsS82.alloc | apply IsS82.drewN | apply IsS82.drew | apply IsS82.set_1 | refine IsS82.far ?_ NB450_447.out _) | exact HI450.out))) : gb458 ≠ g450)); clear HO453; clear HO456; clear BK447; clear HI450; clear HB; have HO453 := n0_; have HO456 := n1_; have BK447 := n2_; have HI450 := n3_; have HB := n4_; have BK458 := n5_; have GW458 := n6_; have GE458 := n7_; have NB447_458 := n8_; have NB458_447 := n9_; have NB450_458 := n10_; have NB458_450 := n11_; clear n0_ n1_ n2_ n3_ n4_ n5_ n6_ n7_ n8_ n9_ n10_ n11_; clear hb hbox hg; obtain ⟨Ao11, co11, eo11⟩ := Kd.R_slice HO453.out; subst eo11; have hnb12 := NB458_447.out; have hnc12 := NB447_458.out; have hnb13 := NB458_450.out; have hnc13 := NB450_458.out; have hcz14_0 : w10.cell? ⟨gb458, 0, none⟩ = some (.slice none 0 0) := (blk_cell BK458.out 0).trans rfl; have hcz14_1 : w10.cell? ⟨gb458, 1, none⟩ = some (.slice none 0 0) := (blk_cell BK458.out 1).trans rfl; have hfz14_0 := blk_frozen BK458.out 0; have hfz14_1 := blk_frozen BK458.out 1; obtain ⟨Ao15, co15, eo15⟩ := Kd.R_slice HO456.out; subst eo15))
 have n0_ : Aside0 (Kd.R Kd.string 9 ((w10.setCell ⟨gb458, 0, none⟩ (.slice Ao11 t451.length co11)).setCell ⟨gb458, 1, none⟩ (.slice Ao15 t454.length co15)) w.heap.size (fun _ => True) (.slice Ao11 t451.length co11) t451) := ⟨pR (Kd.R_mono (Kd.R_far (p := ⟨gb458, 1, none⟩) (Kd.R_far (p := ⟨gb458, 0, none⟩) (Kd.R_types HO453.out BK458.out (by decide)) (fun _ hk => hk.2) (.slice Ao11 t451.length co11)) (fun _ hk => hk.2) (.slice Ao15 t454.length co15)) (fun _ hk => trivial))⟩
 have n1_ : Aside0 (Kd.R k54 54 ((w10.setCell ⟨gb458, 0, none⟩ (.slice Ao11 t451.length co11)).setCell ⟨gb458, 1, none⟩ (.slice Ao15 t454.length co15)) w.heap.size (fun _ => True) (.slice Ao15 t454.length co15) t454) := ⟨pR (Kd.R_mono (Kd.R_far (p := ⟨gb458, 1, none⟩) (Kd.R_far (p := ⟨gb458, 0, none⟩) (Kd.R_types HO456.out BK458.out (by decide)) (fun _ hk => hk.2) (.slice Ao11 t451.length co11)) (fun _ hk => hk.2) (.slice Ao15 t454.length co15)) (fun _ hk => trivial))⟩
 have n2_ : Aside0 (((w10.setCell ⟨gb458, 0, none⟩ (.slice Ao11 t451.length co11)).setCell ⟨gb458, 1, none⟩ (.slice Ao15 t454.length co15)).heap[gb447]? = some (.cells #[.slice none 0 0, .slice none 0 0] 26 (0, 0))) := ⟨by (with_reducible repeat (first | refine blk_drewN ?_ _ | refine blk_drew ?_ | refine blk_alloc ?_ _)); refine blk_far ?_ NB447_458.out _; (with_reducible repeat (first | refine blk_drewN ?_ _ | refine blk_drew ?_ | refine blk_alloc ?_ _)); refine blk_far ?_ NB447_458.out _; (with_reducible repeat (first | refine blk_drewN ?_ _ | refine blk_drew ?_ | refine blk_alloc ?_ _)); exact BK447.out⟩
 have n3_ : Aside0 (((w10.setCell ⟨gb458, 0, none⟩ (.slice Ao11 t451.length co11)).setCell ⟨gb458, 1, none⟩ (.slice Ao15 t454.length co15)).heap[gb458]? = some (.cells #[.slice Ao11 t451.length co11, .slice Ao15 t454.length co15] 26 (0, 0))) := ⟨by (with_reducible repeat (first | refine blk_drewN ?_ _ | refine blk_drew ?_ | refine blk_alloc ?_ _)); refine blk_put (cs := #[.slice Ao11 t451.length co11, .slice none 0 0]) ?_ 1 _ rfl; (with_reducible repeat (first | refine blk_drewN ?_ _ | refine blk_drew ?_ | refine blk_alloc ?_ _)); refine blk_put (cs := #[.slice none 0 0, .slice none 0 0]) ?_ 0 _ rfl; (with_reducible repeat (first | refine blk_drewN ?_ _ | refine blk_drew ?_ | refine blk_alloc ?_ _)); exact BK458.out⟩
 have n4_ : Aside0 (IsS82 w ((w10.setCell ⟨gb458, 0, none⟩ (.slice Ao11 t451.length co11)).setCell ⟨gb458, 1, none⟩ (.slice Ao15 t454.length co15)) g450 t448 t457) := ⟨by repeat (first | (with_reducible first | exact HI450.out | apply IsS82.alloc | apply IsS82.drewN | apply IsS82.drew | apply IsS82.set_1 | refine IsS82.far ?_ NB450_447.out _ | refine IsS82.far ?_ NB450_458.out _) | exact HI450.out)⟩
 have n5_ : Aside0 (Below w.heap.size w ((w10.setCell ⟨gb458, 0, none⟩ (.slice Ao11 t451.length co11)).setCell ⟨gb458, 1, none⟩ (.slice Ao15 t454.length co15))) := ⟨by repeat (first | (with_reducible first | exact HB.out | apply below_alloc | apply pw_below_drewN | apply below_drew1 | refine below_set ?_ (IsS82.ge HI450.out) | refine below_set ?_ GE447.out | refine below_set ?_ GE458.out) | exact HB.out)⟩
 (try clear HO453)
 (try clear HO456)
 (try clear BK447)
 (try clear BK458)
 (try clear HI450)
 (try clear HB)
 generalize ((w10.setCell ⟨gb458, 0, none⟩ (.slice Ao11 t451.length co11)).setCell ⟨gb458, 1, none⟩ (.slice Ao15 t454.length co15)) = w16 at n0_ n1_ n2_ n3_ n4_ n5_ ⊢
 have HO453 := n0_
 have HO456 := n1_
 have BK447 := n2_
 have BK458 := n3_
 have HI450 := n4_
 have HB := n5_
 clear n0_ n1_ n2_ n3_ n4_ n5_
 have n0_ := Aside0.mk (Kd.R_drew HO453.out)
 have n1_ := Aside0.mk (Kd.R_drew HO456.out)
 have n2_ := Aside0.mk (blk_drew BK447.out)
 have n3_ := Aside0.mk (blk_drew BK458.out)
 have n4_ := Aside0.mk (IsS82.drew HI450.out)
 have n5_ := Aside0.mk (below_drew1 HB.out)
 clear HO453
 clear HO456
 clear BK447
 clear BK458
 clear HI450
 clear HB
 have HO453 := n0_
 have HO456 := n1_
 have BK447 := n2_
 have BK458 := n3_
 have HI450 := n4_
 have HB := n5_
 clear n0_ n1_ n2_ n3_ n4_ n5_
 refine start_ (n := 15) (S := fun w' => w'.cell? ⟨gb458, 0, none⟩ = some (.slice Ao11 t451.length co11) ∧ w'.cell? ⟨gb458, 1, none⟩ = some (.slice Ao15 t454.length co15)) (ds := []) #[false, false, false, false, false, false, false, false, false, false, false, false, false, false, false] (by kernel_rfl) rfl rfl ⟨(blk_cell BK458.out 0).trans rfl, (blk_cell BK458.out 1).trans rfl⟩ (fun hHeld => ?_); refine with_tabW spec_DrawSecPut.tab3 spec_DrawSecPut.bits3 (fun HT_ HW_ => ?_)
 generalize w16.drew = w17 at HO453 HO456 BK447 BK458 HI450 HB hHeld ⊢
 refine pure_ (i := 1) (N := some 12) (v := ?_) (a' := ?_) #[false, true, false, false, false, false, false, false, false, false, false, false, false, false, false] rfl rfl (any_of HT_.out (by kernel_rfl)) (fun _ _ _ h => h) (Or.inl ⟨by rfl, ?_⟩) ?_ ?_
 rotate_left
 ·intro w'
  go_simp
  with_reducible rfl
 rotate_left
 ·simp only [Act.put, List.setIfInBounds_toArray, List.set_cons_zero, List.set_cons_succ, i64_w, i32_w]
  rfl
 refine pure_ (i := 2) (N := some 13) (v := ?_) (a' := ?_) #[false, true, true, false, false, false, false, false, false, false, false, false, false, false, false] rfl rfl (any_of HT_.out (by kernel_rfl)) (fun _ _ _ h => h) (Or.inl ⟨by rfl, ?_⟩) ?_ ?_
 rotate_left
 ·intro w'
  go_simp
  with_reducible rfl
 rotate_left
 ·simp only [Act.put, List.setIfInBounds_toArray, List.set_cons_zero, List.set_cons_succ, i64_w, i32_w]
  rfl
 refine pure_ (i := 7) (N := some 18) (v := ?_) (a' := ?_) #[false, true, true, false, false, false, false, true, false, false, false, false, false, false, false] rfl rfl (any_of HT_.out (by kernel_rfl)) (fun _ _ _ h => h) (Or.inl ⟨by rfl, ?_⟩) ?_ ?_
 rotate_left
 ·intro w'
  go_simp
  with_reducible rfl
 rotate_left
 ·simp only [Act.put, List.setIfInBounds_toArray, List.set_cons_zero, List.set_cons_succ, i64_w, i32_w]
  rfl
 refine pure_ (i := 10) (N := some 21) (v := ?_) (a' := ?_) #[false, true, true, false, false, false, false, true, false, false, true, false, false, false, false] rfl rfl (any_of HT_.out (by kernel_rfl)) (fun _ _ _ h => h) (Or.inl ⟨by rfl, ?_⟩) ?_ ?_
 rotate_left
 ·intro w'
  go_simp
  with_reducible rfl
 rotate_left
 ·simp only [Act.put, List.setIfInBounds_toArray, List.set_cons_zero, List.set_cons_succ, i64_w, i32_w]
  rfl
 refine take_ (i := 0) (N := some 11) (v := ?_) (a' := ?_) #[true, true, true, false, false, false, false, true, false, false, true, false, false, false, false] rfl rfl (take_ofW HT_.out HW_.out (by kernel_rfl)) (fun _ _ _ h => h) (Or.inl ⟨by rfl, ?_⟩) hHeld ?_ ?_
 rotate_left
 ·rintro w' ⟨s0, s1⟩
  go_simp
  with_reducible rfl
 rotate_left
 ·simp only [Act.put, List.setIfInBounds_toArray, List.set_cons_zero, List.set_cons_succ, i64_w, i32_w]
  rfl
 refine take_ (i := 3) (N := some 14) (v := ?_) (a' := ?_) #[true, true, true, true, false, false, false, true, false, false, true, false, false, false, false] rfl rfl (take_ofW HT_.out HW_.out (by kernel_rfl)) (fun _ _ _ h => h) (Or.inl ⟨by rfl, ?_⟩) hHeld ?_ ?_
 rotate_left
 ·rintro w' ⟨s0, s1⟩
  go_simp
  with_reducible rfl
 rotate_left
 ·simp only [Act.put, List.setIfInBounds_toArray, List.set_cons_zero, List.set_cons_succ, i64_w, i32_w]
  rfl
 refine pure_ (i := 4) (N := some 15) (v := ?_) (a' := ?_) #[true, true, true, true, true, false, false, true, false, false, true, false, false, false, false] rfl rfl (any_of HT_.out (by kernel_rfl)) (fun _ _ _ h => h) (Or.inl ⟨by rfl, ?_⟩) ?_ ?_
 rotate_left
 ·intro w'
  go_simp
  with_reducible rfl
 rotate_left
 ·simp only [Act.put, List.setIfInBounds_toArray, List.set_cons_zero, List.set_cons_succ, i64_w, i32_w]
  rfl
 refine pure_ (i := 5) (N := some 16) (v := ?_) (a' := ?_) #[true, true, true, true, true, true, false, true, false, false, true, false, false, false, false] rfl rfl (any_of HT_.out (by kernel_rfl)) (fun _ _ _ h => h) (Or.inl ⟨by rfl, ?_⟩) ?_ ?_
 rotate_left
 ·intro w'
  go_simp
  with_reducible rfl
 rotate_left
 ·simp only [Act.put, List.setIfInBounds_toArray, List.set_cons_zero, List.set_cons_succ, i64_w, i32_w]
  rfl
 refine one_ (i := 6) (N := some 17) #[true, true, true, true, true, true, true, true, false, false, true, false, false, false, false] rfl rfl (one_of HT_.out (by kernel_rfl)) (by decide) (fun K hK => ?_)
 refine goes_ Try.func56 (by kernel_rfl) rfl #[.pointer (some ⟨g450, 0, none⟩), .int .i64 (wrap64 ((t451.length : Int) + 2))] (by rfl) rfl rfl bM ?_
 with_reducible refine (spec_l6Rd_pick.calls k g450 t448 t457 (wrap64 ((t451.length : Int) + 2)) t459 t460 w _ ?side1 ?side2 A4.out).mono ?_
 (case side1 => repeat (first | (with_reducible first | exact HI450.out | apply IsS82.alloc | apply IsS82.drewN | apply IsS82.drew | apply IsS82.set_1 | refine IsS82.far ?_ NB450_447.out _ | refine IsS82.far ?_ NB450_458.out _) | exact HI450.out))
 (case side2 => repeat (first | (with_reducible first | exact HB.out | apply below_alloc | apply pw_below_drewN | apply below_drew1 | refine below_set ?_ (IsS82.ge HI450.out) | refine below_set ?_ GE447.out | refine below_set ?_ GE458.out) | exact HB.out))
 rintro e w18 ⟨rfl, hi, hb, hk⟩
 refine ⟨_, rfl, ?_⟩
 have n0_ := Aside0.mk (KeepBut.blk hk (g' := gb447) (o := .cells #[.slice none 0 0, .slice none 0 0] 26 (0, 0)) (pK BK447.out) NB447_450.out (by simp))
 have n1_ := Aside0.mk (Kd.R_mono (Kd.R_keep (IsS82.apart (show IsS82 w _ g450 t448 t457 from by repeat (first | (with_reducible first | exact HI450.out | apply IsS82.alloc | apply IsS82.drewN | apply IsS82.drew | apply IsS82.set_1 | refine IsS82.far ?_ NB450_447.out _ | refine IsS82.far ?_ NB450_458.out _) | exact HI450.out)) (pR HO453.out) (by decide)) hk (fun _ h => h.2)) (fun _ h => h.1))
 have n2_ := Aside0.mk (Kd.R_mono (Kd.R_keep (IsS82.apart (show IsS82 w _ g450 t448 t457 from by repeat (first | (with_reducible first | exact HI450.out | apply IsS82.alloc | apply IsS82.drewN | apply IsS82.drew | apply IsS82.set_1 | refine IsS82.far ?_ NB450_447.out _ | refine IsS82.far ?_ NB450_458.out _) | exact HI450.out)) (pR HO456.out) (by decide)) hk (fun _ h => h.2)) (fun _ h => h.1))
 have n3_ := Aside0.mk (KeepBut.blk hk (g' := gb458) (o := .cells #[.slice Ao11 t451.length co11, .slice Ao15 t454.length co15] 26 (0, 0)) (pK BK458.out) NB458_450.out (by simp))
 have n4_ := Aside0.mk (hb)
 have n5_ := Aside0.mk (hi)
 clear BK447
 clear HO453
 clear HO456
 clear BK458
 clear HB
 clear HI450
 have BK447 := n0_
 have HO453 := n1_
 have HO456 := n2_
 have BK458 := n3_
 have HB := n4_
 have HI450 := n5_
 clear n0_ n1_ n2_ n3_ n4_ n5_
 (try clear hb)
 (try clear hb2)
 (try clear hk)
 (try clear hi)
 refine hK.out _ _ ⟨(blk_cell BK458.out 0).trans rfl, (blk_cell BK458.out 1).trans rfl⟩ (fun hHeld => ?_)
 clear hK K
 refine norm_ (a' := ?_) ?_ ?_
 rotate_left
 ·show Act.put _ (some 17) _ = _
  simp only [Act.put, List.setIfInBounds_toArray, List.set_cons_zero, List.set_cons_succ, i64_w, i32_w]
  rfl
 refine one_ (i := 8) (N := some 19) #[true, true, true, true, true, true, true, true, true, false, true, false, false, false, false] rfl rfl (one_of HT_.out (by kernel_rfl)) (by decide) (fun K hK => ?_)
 refine goes_ Try.func56 (by kernel_rfl) rfl #[.pointer (some ⟨g450, 0, none⟩), .int .i64 2] (by rfl) rfl rfl bM ?_
 with_reducible refine (spec_l6Rd_pick.calls k g450 t448 t460 2 t461 t462 w _ ?side1 ?side2 A5.out).mono ?_
 (case side1 => repeat (first | (with_reducible first | exact HI450.out | apply IsS82.alloc | apply IsS82.drewN | apply IsS82.drew | apply IsS82.set_1 | refine IsS82.far ?_ NB450_447.out _ | refine IsS82.far ?_ NB450_458.out _) | exact HI450.out))
 (case side2 => repeat (first | (with_reducible first | exact HB.out | apply below_alloc | apply pw_below_drewN | apply below_drew1 | refine below_set ?_ (IsS82.ge HI450.out) | refine below_set ?_ GE447.out | refine below_set ?_ GE458.out) | exact HB.out))
 rintro e w19 ⟨rfl, hi, hb, hk⟩
 refine ⟨_, rfl, ?_⟩
 have n0_ := Aside0.mk (KeepBut.blk hk (g' := gb447) (o := .cells #[.slice none 0 0, .slice none 0 0] 26 (0, 0)) (pK BK447.out) NB447_450.out (by simp))
 have n1_ := Aside0.mk (Kd.R_mono (Kd.R_keep (IsS82.apart (show IsS82 w _ g450 t448 t460 from by repeat (first | (with_reducible first | exact HI450.out | apply IsS82.alloc | apply IsS82.drewN | apply IsS82.drew | apply IsS82.set_1 | refine IsS82.far ?_ NB450_447.out _ | refine IsS82.far ?_ NB450_458.out _) | exact HI450.out)) (pR HO453.out) (by decide)) hk (fun _ h => h.2)) (fun _ h => h.1))
 have n2_ := Aside0.mk (Kd.R_mono (Kd.R_keep (IsS82.apart (show IsS82 w _ g450 t448 t460 from by repeat (first | (with_reducible first | exact HI450.out | apply IsS82.alloc | apply IsS82.drewN | apply IsS82.drew | apply IsS82.set_1 | refine IsS82.far ?_ NB450_447.out _ | refine IsS82.far ?_ NB450_458.out _) | exact HI450.out)) (pR HO456.out) (by decide)) hk (fun _ h => h.2)) (fun _ h => h.1))
 have n3_ := Aside0.mk (KeepBut.blk hk (g' := gb458) (o := .cells #[.slice Ao11 t451.length co11, .slice Ao15 t454.length co15] 26 (0, 0)) (pK BK458.out) NB458_450.out (by simp))
 have n4_ := Aside0.mk (hb)
 have n5_ := Aside0.mk (hi)
 clear BK447
 clear HO453
 clear HO456
 clear BK458
 clear HB
 clear HI450
 have BK447 := n0_
 have HO453 := n1_
 have HO456 := n2_
 have BK458 := n3_
 have HB := n4_
 have HI450 := n5_
 clear n0_ n1_ n2_ n3_ n4_ n5_
 (try clear hb)
 (try clear hb2)
 (try clear hk)
 (try clear hi)
 refine hK.out _ _ ⟨(blk_cell BK458.out 0).trans rfl, (blk_cell BK458.out 1).trans rfl⟩ (fun hHeld => ?_)
 clear hK K
 refine norm_ (a' := ?_) ?_ ?_
 rotate_left
 ·show Act.put _ (some 19) _ = _
  simp only [Act.put, List.setIfInBounds_toArray, List.set_cons_zero, List.set_cons_succ, i64_w, i32_w]
  rfl
 refine pure_ (i := 9) (N := some 20) (v := ?_) (a' := ?_) #[true, true, true, true, true, true, true, true, true, true, true, false, false, false, false] rfl rfl (any_of HT_.out (by kernel_rfl)) (fun _ _ _ h => h) (Or.inl ⟨by rfl, ?_⟩) ?_ ?_
 rotate_left
 ·intro w'
  go_simp
  with_reducible rfl
 rotate_left
 ·simp only [Act.put, List.setIfInBounds_toArray, List.set_cons_zero, List.set_cons_succ, i64_w, i32_w]
  rfl
 refine one_ (i := 11) (N := some 22) #[true, true, true, true, true, true, true, true, true, true, true, true, false, false, false] rfl rfl (one_of HT_.out (by kernel_rfl)) (by decide) (fun K hK => ?_)
 refine goes_ Try.func57 (by kernel_rfl) rfl #[.pointer (some ⟨g450, 0, none⟩), .int .i64 17] (by rfl) rfl rfl bM ?_
 with_reducible refine (spec_l72Text.calls k g450 t448 t462 17 t463 t464 w _ ?side1 ?side2 A6.out).mono ?_
 (case side1 => repeat (first | (with_reducible first | exact HI450.out | apply IsS82.alloc | apply IsS82.drewN | apply IsS82.drew | apply IsS82.set_1 | refine IsS82.far ?_ NB450_447.out _ | refine IsS82.far ?_ NB450_458.out _) | exact HI450.out))
 (case side2 => repeat (first | (with_reducible first | exact HB.out | apply below_alloc | apply pw_below_drewN | apply below_drew1 | refine below_set ?_ (IsS82.ge HI450.out) | refine below_set ?_ GE447.out | refine below_set ?_ GE458.out) | exact HB.out))
 rintro e w20 ⟨rfl, hi, hb, hk⟩
 refine ⟨_, rfl, ?_⟩
 have n0_ := Aside0.mk (KeepBut.blk hk (g' := gb447) (o := .cells #[.slice none 0 0, .slice none 0 0] 26 (0, 0)) (pK BK447.out) NB447_450.out (by simp))
 have n1_ := Aside0.mk (Kd.R_mono (Kd.R_keep (IsS82.apart (show IsS82 w _ g450 t448 t462 from by repeat (first | (with_reducible first | exact HI450.out | apply IsS82.alloc | apply IsS82.drewN | apply IsS82.drew | apply IsS82.set_1 | refine IsS82.far ?_ NB450_447.out _ | refine IsS82.far ?_ NB450_458.out _) | exact HI450.out)) (pR HO453.out) (by decide)) hk (fun _ h => h.2)) (fun _ h => h.1))
 have n2_ := Aside0.mk (Kd.R_mono (Kd.R_keep (IsS82.apart (show IsS82 w _ g450 t448 t462 from by repeat (first | (with_reducible first | exact HI450.out | apply IsS82.alloc | apply IsS82.drewN | apply IsS82.drew | apply IsS82.set_1 | refine IsS82.far ?_ NB450_447.out _ | refine IsS82.far ?_ NB450_458.out _) | exact HI450.out)) (pR HO456.out) (by decide)) hk (fun _ h => h.2)) (fun _ h => h.1))
 have n3_ := Aside0.mk (KeepBut.blk hk (g' := gb458) (o := .cells #[.slice Ao11 t451.length co11, .slice Ao15 t454.length co15] 26 (0, 0)) (pK BK458.out) NB458_450.out (by simp))
 have n4_ := Aside0.mk (hb)
 have n5_ := Aside0.mk (hi)
 clear BK447
 clear HO453
 clear HO456
 clear BK458
 clear HB
 clear HI450
 have BK447 := n0_
 have HO453 := n1_
 have HO456 := n2_
 have BK458 := n3_
 have HB := n4_
 have HI450 := n5_
 clear n0_ n1_ n2_ n3_ n4_ n5_
 (try clear hb)
 (try clear hb2)
 (try clear hk)
 (try clear hi)
 refine hK.out _ _ ⟨(blk_cell BK458.out 0).trans rfl, (blk_cell BK458.out 1).trans rfl⟩ (fun hHeld => ?_)
 clear hK K
 refine norm_ (a' := ?_) ?_ ?_
 rotate_left
 ·show Act.put _ (some 22) _ = _
  simp only [Act.put, List.setIfInBounds_toArray, List.set_cons_zero, List.set_cons_succ, i64_w, i32_w]
  rfl
 refine one_ (i := 12) (N := none) #[true, true, true, true, true, true, true, true, true, true, true, true, true, false, false] rfl rfl (one_of HT_.out (by kernel_rfl)) (by decide) (fun K hK => ?_)
 have hs21 : w20.cell? ⟨gb447, 0, none⟩ = some (.slice none 0 0) := (blk_cell BK447.out 0).trans rfl
 have hfs21 := blk_frozen BK447.out 0
 have hns21_1 := NB458_447.out
 have hms21_1 := NB447_458.out
 have hs22 : w20.cell? ⟨gb447, 1, none⟩ = some (.slice none 0 0) := (blk_cell BK447.out 1).trans rfl
 have hfs22 := blk_frozen BK447.out 1
 have hns22_1 := NB458_447.out
 have hms22_1 := NB447_458.out
 refine skip_ (w1 := ?_) (by rfl) rfl ?_ ?_
 rotate_left
 ·go_simp
  rfl
 refine hK.out _ _ ⟨((cell_far (p := ⟨gb447, _, none⟩) NB458_447.out _).trans (((cell_far (p := ⟨gb447, _, none⟩) NB458_447.out _).trans (hHeld.1)))), ((cell_far (p := ⟨gb447, _, none⟩) NB458_447.out _).trans (((cell_far (p := ⟨gb447, _, none⟩) NB458_447.out _).trans (hHeld.2))))⟩ (fun hHeld => ?_)
 clear hK K
 refine pure_ (i := 13) (N := some 3) (v := ?_) (a' := ?_) #[true, true, true, true, true, true, true, true, true, true, true, true, true, true, false] rfl rfl (any_of HT_.out (by kernel_rfl)) (fun _ _ _ h => h) (Or.inl ⟨by rfl, ?_⟩) ?_ ?_
 rotate_left
 ·intro w'
  go_simp
  with_reducible rfl
 rotate_left
 ·simp only [Act.put, List.setIfInBounds_toArray, List.set_cons_zero, List.set_cons_succ, i64_w, i32_w]
  rfl
 refine pure_ (i := 14) (N := some 4) (v := ?_) (a' := ?_) #[true, true, true, true, true, true, true, true, true, true, true, true, true, true, true] rfl rfl (any_of HT_.out (by kernel_rfl)) (fun _ _ _ h => h) (Or.inl ⟨by rfl, ?_⟩) ?_ ?_
 rotate_left
 ·intro w'
  go_simp
  with_reducible rfl
 rotate_left
 ·simp only [Act.put, List.setIfInBounds_toArray, List.set_cons_zero, List.set_cons_succ, i64_w, i32_w]
  rfl
 refine done_ (done_of HT_.out (by kernel_rfl)) ?_
 try go_wp2
 refine bodyPost_ret (results_ctt rfl _ _ gb447 26 #[.slice Ao11 t451.length co11, .slice Ao15 t454.length co15] (0, 0) _ rfl (by (with_reducible repeat (first | refine blk_drewN ?_ _ | refine blk_drew ?_ | refine blk_alloc ?_ _)); refine blk_put (cs := #[.slice Ao11 t451.length co11, .slice none 0 0]) ?_ 1 _ rfl; (with_reducible repeat (first | refine blk_drewN ?_ _ | refine blk_drew ?_ | refine blk_alloc ?_ _)); refine blk_put (cs := #[.slice none 0 0, .slice none 0 0]) ?_ 0 _ rfl; (with_reducible repeat (first | refine blk_drewN ?_ _ | refine blk_drew ?_ | refine blk_alloc ?_ _)); exact BK447.out) Try.underlying26 rfl (by kernel_rfl)) rfl ?_
 exact ⟨_, _, by first | rfl | (simp [errW_none, errW_some] <;> rfl) | (simp [*, errW_none, errW_some] <;> rfl), pR (Kd.R_mono (Kd.R_far (p := ⟨gb447, 1, none⟩) (Kd.R_far (p := ⟨gb447, 0, none⟩) (Kd.R_types HO453.out BK447.out (by decide)) (fun _ hk => hk.2) (.slice Ao11 t451.length co11)) (fun _ hk => hk.2) (.slice Ao15 t454.length co15)) (fun _ hk => trivial)), pR (Kd.R_mono (Kd.R_far (p := ⟨gb447, 1, none⟩) (Kd.R_far (p := ⟨gb447, 0, none⟩) (Kd.R_types HO456.out BK447.out (by decide)) (fun _ hk => hk.2) (.slice Ao11 t451.length co11)) (fun _ hk => hk.2) (.slice Ao15 t454.length co15)) (fun _ hk => trivial)), by repeat (first | (with_reducible first | exact HB.out | apply below_alloc | apply pw_below_drewN | apply below_drew1 | refine below_set ?_ (IsS82.ge HI450.out) | refine below_set ?_ GE447.out | refine below_set ?_ GE458.out) | exact HB.out)⟩

end Go.Proofs.Ythkdhcaojhbfoaa.P
