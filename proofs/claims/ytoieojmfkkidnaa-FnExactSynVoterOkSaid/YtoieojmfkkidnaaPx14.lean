-- printed by pprint.py (this session's program over the kit's printer) out of the translation. Lean checks it.
import Derived.Test.YtoieojmfkkidnaaPx0
import Derived.Test.YtoieojmfkkidnaaPx5
namespace Go.Proofs.Ytoieojmfkkidnaa.P
open Go.RowKit Go.Proofs.YtoieojmfkkidnaaX Go.Proofs.YtoieojmfkkidnaaW.PrintWords Go.Proofs.YtoieojmfkkidnaaW.PrintLast Go.Proofs.YtoieojmfkkidnaaW.PrintMore
attribute [local go_sem] max2_int min2_int max_two min_two max_three min_three max_four min_four   -- for this text's walks alone
set_option linter.unusedVariables false
set_option linter.unusedSimpArgs false

/-! ### spec_l21PaperOk: function 86 -/
def spec_l21PaperOk.f (a0_0 : Int) (a0_1 : Int) (a0_2 : Int) (a0_3 : Int) (a0_4 : Int) (a0_5 : Int) (a0_6 : Int) (a0_7 : Int) (a0_8 : Int) (a0_9 : Int) (a0_10 : Int) (a0_11 : Int) : Option (Bool) := (spec_l6In.f a0_0 1 60).bind fun t640 => (if t640 = true then ((spec_l6In.f a0_1 1 99999).bind fun t641 => (if t641 = true then ((spec_l11CmdOk.f a0_2 a0_3 a0_4 a0_5 a0_6 a0_7 a0_8 a0_9 a0_10 a0_11).bind fun t642 => (some t642)) else (some false))) else (some false))
set_option maxHeartbeats 8000000 in
set_option maxRecDepth 100000 in
theorem spec_l21PaperOk.calls (a0_0 : Int) (a0_1 : Int) (a0_2 : Int) (a0_3 : Int) (a0_4 : Int) (a0_5 : Int) (a0_6 : Int) (a0_7 : Int) (a0_8 : Int) (a0_9 : Int) (a0_10 : Int) (a0_11 : Int) (r : Bool) (w : World) (h : spec_l21PaperOk.f a0_0 a0_1 a0_2 a0_3 a0_4 a0_5 a0_6 a0_7 a0_8 a0_9 a0_10 a0_11 = some r) :
  Calls Try.prog 86 #[.agg #[.int .i64 a0_0, .int .i64 a0_1, .int .i64 a0_2, .int .i64 a0_3, .int .i64 a0_4, .int .i64 a0_5, .int .i64 a0_6, .int .i64 a0_7, .int .i64 a0_8, .int .i64 a0_9, .int .i64 a0_10, .int .i64 a0_11]] w fun e w' => e = .returned (.bool r) ∧ Below w.heap.size w w' := by
 have hu64 := Try.underlying64
 have hu24 := Try.underlying24
 have HB := Aside0.mk (Below.refl w.heap.size w)
 have H : ((spec_l6In.f a0_0 1 60).bind fun t640 => (if t640 = true then ((spec_l6In.f a0_1 1 99999).bind fun t641 => (if t641 = true then ((spec_l11CmdOk.f a0_2 a0_3 a0_4 a0_5 a0_6 a0_7 a0_8 a0_9 a0_10 a0_11).bind fun t642 => (some t642)) else (some false))) else (some false))) = some r := h
 clear h
 replace H := Option.bind_eq_some_iff.mp H
 obtain ⟨t640, A20, H⟩ := H
 replace H : (if t640 = true then ((spec_l6In.f a0_1 1 99999).bind fun t641 => (if t641 = true then ((spec_l11CmdOk.f a0_2 a0_3 a0_4 a0_5 a0_6 a0_7 a0_8 a0_9 a0_10 a0_11).bind fun t642 => (some t642)) else (some false))) else (some false)) = some r := H
 have A2 := Aside0.mk A20
 clear A20
 by_cases c3 : t640 = true
 ·subst c3
  have H1 : ((spec_l6In.f a0_1 1 99999).bind fun t641 => (if t641 = true then ((spec_l11CmdOk.f a0_2 a0_3 a0_4 a0_5 a0_6 a0_7 a0_8 a0_9 a0_10 a0_11).bind fun t642 => (some t642)) else (some false))) = some r := by rw [if_pos rfl] at H; exact H
  clear H
  have H := H1
  clear H1
  replace H := Option.bind_eq_some_iff.mp H
  obtain ⟨t641, A40, H⟩ := H
  replace H : (if t641 = true then ((spec_l11CmdOk.f a0_2 a0_3 a0_4 a0_5 a0_6 a0_7 a0_8 a0_9 a0_10 a0_11).bind fun t642 => (some t642)) else (some false)) = some r := H
  have A4 := Aside0.mk A40
  clear A40
  by_cases c5 : t641 = true
  ·subst c5
   have H1 : ((spec_l11CmdOk.f a0_2 a0_3 a0_4 a0_5 a0_6 a0_7 a0_8 a0_9 a0_10 a0_11).bind fun t642 => (some t642)) = some r := by rw [if_pos rfl] at H; exact H
   clear H
   have H := H1
   clear H1
   replace H := Option.bind_eq_some_iff.mp H
   obtain ⟨t642, A60, H⟩ := H
   replace H : (some t642) = some r := H
   have A6 := Aside0.mk A60
   clear A60
   obtain rfl := Option.some.inj H
   go_enter Try.func86, Try.ntmps86
   go_wp2_with (first | ((with_reducible refine gate_dst (N := 1) rfl ?_); refine box_event ?hg (N := 1) ?hd (cs := #[.int .i64 a0_0, .int .i64 a0_1, .int .i64 a0_2, .int .i64 a0_3, .int .i64 a0_4, .int .i64 a0_5, .int .i64 a0_6, .int .i64 a0_7, .int .i64 a0_8, .int .i64 a0_9, .int .i64 a0_10, .int .i64 a0_11]) (t := 64) ?hr ?_; (case hd => rfl); (case hg => rfl); (case hr => first | (go_simp; done) | (go_simp; rfl)); intro gb639 hg w7 hbox hb; have n0_ := Aside0.mk (below_step (pB HB.out) hb); have n1_ := Aside0.mk (hbox); have n2_ := Aside0.mk ((by rw [hg]; exact (below_size (pB HB.out)) : w.heap.size ≤ gb639)); have n3_ := Aside0.mk ((by rw [hg]; exact (below_size (pB HB.out)) : w.heap.size ≤ gb639)); clear HB; have HB := n0_; have BK639 := n1_; have GW639 := n2_; have GE639 := n3_; clear n0_ n1_ n2_ n3_; clear hb hbox hg; have hcz8_0 : w7.cell? ⟨gb639, 0, none⟩ = some (.int .i64 a0_0) := (blk_cell BK639.out 0).trans rfl; have hcz8_1 : w7.cell? ⟨gb639, 1, none⟩ = some (.int .i64 a0_1) := (blk_cell BK639.out 1).trans rfl; have hcz8_2 : w7.cell? ⟨gb639, 2, none⟩ = some (.int .i64 a0_2) := (blk_cell BK639.out 2).trans rfl; have hcz8_3 : w7.cell? ⟨gb639, 3, none⟩ = some (.int .i64 a0_3) := (blk_cell BK639.out 3).trans rfl; have hcz8_4 : w7.cell? ⟨gb639, 4, none⟩ = some (.int .i64 a0_4) := (blk_cell BK639.out 4).trans rfl; have hcz8_5 : w7.cell? ⟨gb639, 5, none⟩ = some (.int .i64 a0_5) := (blk_cell BK639.out 5).trans rfl; have hcz8_6 : w7.cell? ⟨gb639, 6, none⟩ = some (.int .i64 a0_6) := (blk_cell BK639.out 6).trans rfl; have hcz8_7 : w7.cell? ⟨gb639, 7, none⟩ = some (.int .i64 a0_7) := (blk_cell BK639.out 7).trans rfl; have hcz8_8 : w7.cell? ⟨gb639, 8, none⟩ = some (.int .i64 a0_8) := (blk_cell BK639.out 8).trans rfl; have hcz8_9 : w7.cell? ⟨gb639, 9, none⟩ = some (.int .i64 a0_9) := (blk_cell BK639.out 9).trans rfl; have hcz8_10 : w7.cell? ⟨gb639, 10, none⟩ = some (.int .i64 a0_10) := (blk_cell BK639.out 10).trans rfl; have hcz8_11 : w7.cell? ⟨gb639, 11, none⟩ = some (.int .i64 a0_11) := (blk_cell BK639.out 11).trans rfl; have hfz8_0 := blk_frozen BK639.out 0; have hfz8_1 := blk_frozen BK639.out 1; have hfz8_2 := blk_frozen BK639.out 2; have hfz8_3 := blk_frozen BK639.out 3; have hfz8_4 := blk_frozen BK639.out 4; have hfz8_5 := blk_frozen BK639.out 5; have hfz8_6 := blk_frozen BK639.out 6; have hfz8_7 := blk_frozen BK639.out 7; have hfz8_8 := blk_frozen BK639.out 8; have hfz8_9 := blk_frozen BK639.out 9; have hfz8_10 := blk_frozen BK639.out 10; have hfz8_11 := blk_frozen BK639.out 11) | ((with_reducible refine gate_callee (f := 67) rfl ?_); refine goesL_ (some 5) rfl rfl Try.func67 (by kernel_rfl) rfl #[.int .i64 a0_0, .int .i64 1, .int .i64 60] rfl bM ?_; (with_reducible refine (spec_l6In.calls a0_0 1 60 true _ A2.out).mono ?_); rintro e w' ⟨rfl, ⟨nd, rfl⟩⟩; refine ⟨_, rfl, ?_⟩) | (go_at_call 67; (with_reducible refine (spec_l6In.calls a0_1 1 99999 true _ A4.out).mono ?_); rintro e w' ⟨rfl, ⟨nd, rfl⟩⟩) | (go_at_call 69; (with_reducible refine (spec_l11CmdOk.calls a0_2 a0_3 a0_4 a0_5 a0_6 a0_7 a0_8 a0_9 a0_10 a0_11 t642 _ A6.out).mono ?_); rintro e w9 ⟨rfl, hb⟩; have n0_ := Aside0.mk (blk_below (pK BK639.out) hb); have n1_ := Aside0.mk (below_step (pS HB.out) hb); clear BK639; clear HB; have BK639 := n0_; have HB := n1_; clear n0_ n1_; (try clear hb); (try clear hb2); (try clear hk); (try clear hi)))
   go_ret
   exact ⟨by first | rfl | (simp [errW_none, errW_some] <;> rfl) | (simp [*, errW_none, errW_some] <;> rfl), pS HB.out⟩
  ·replace c5 := Bool.eq_false_iff.mpr c5
   subst c5
   have H1 : (some false) = some r := by rw [if_neg (show ¬ (false = true) by decide)] at H; exact H
   clear H
   have H := H1
   clear H1
   obtain rfl := Option.some.inj H
   go_enter Try.func86, Try.ntmps86
   go_wp2_with (first | ((with_reducible refine gate_dst (N := 1) rfl ?_); refine box_event ?hg (N := 1) ?hd (cs := #[.int .i64 a0_0, .int .i64 a0_1, .int .i64 a0_2, .int .i64 a0_3, .int .i64 a0_4, .int .i64 a0_5, .int .i64 a0_6, .int .i64 a0_7, .int .i64 a0_8, .int .i64 a0_9, .int .i64 a0_10, .int .i64 a0_11]) (t := 64) ?hr ?_; (case hd => rfl); (case hg => rfl); (case hr => first | (go_simp; done) | (go_simp; rfl)); intro gb639 hg w10 hbox hb; have n0_ := Aside0.mk (below_step (pB HB.out) hb); have n1_ := Aside0.mk (hbox); have n2_ := Aside0.mk ((by rw [hg]; exact (below_size (pB HB.out)) : w.heap.size ≤ gb639)); have n3_ := Aside0.mk ((by rw [hg]; exact (below_size (pB HB.out)) : w.heap.size ≤ gb639)); clear HB; have HB := n0_; have BK639 := n1_; have GW639 := n2_; have GE639 := n3_; clear n0_ n1_ n2_ n3_; clear hb hbox hg; have hcz11_0 : w10.cell? ⟨gb639, 0, none⟩ = some (.int .i64 a0_0) := (blk_cell BK639.out 0).trans rfl; have hcz11_1 : w10.cell? ⟨gb639, 1, none⟩ = some (.int .i64 a0_1) := (blk_cell BK639.out 1).trans rfl; have hcz11_2 : w10.cell? ⟨gb639, 2, none⟩ = some (.int .i64 a0_2) := (blk_cell BK639.out 2).trans rfl; have hcz11_3 : w10.cell? ⟨gb639, 3, none⟩ = some (.int .i64 a0_3) := (blk_cell BK639.out 3).trans rfl; have hcz11_4 : w10.cell? ⟨gb639, 4, none⟩ = some (.int .i64 a0_4) := (blk_cell BK639.out 4).trans rfl; have hcz11_5 : w10.cell? ⟨gb639, 5, none⟩ = some (.int .i64 a0_5) := (blk_cell BK639.out 5).trans rfl; have hcz11_6 : w10.cell? ⟨gb639, 6, none⟩ = some (.int .i64 a0_6) := (blk_cell BK639.out 6).trans rfl; have hcz11_7 : w10.cell? ⟨gb639, 7, none⟩ = some (.int .i64 a0_7) := (blk_cell BK639.out 7).trans rfl; have hcz11_8 : w10.cell? ⟨gb639, 8, none⟩ = some (.int .i64 a0_8) := (blk_cell BK639.out 8).trans rfl; have hcz11_9 : w10.cell? ⟨gb639, 9, none⟩ = some (.int .i64 a0_9) := (blk_cell BK639.out 9).trans rfl; have hcz11_10 : w10.cell? ⟨gb639, 10, none⟩ = some (.int .i64 a0_10) := (blk_cell BK639.out 10).trans rfl; have hcz11_11 : w10.cell? ⟨gb639, 11, none⟩ = some (.int .i64 a0_11) := (blk_cell BK639.out 11).trans rfl; have hfz11_0 := blk_frozen BK639.out 0; have hfz11_1 := blk_frozen BK639.out 1; have hfz11_2 := blk_frozen BK639.out 2; have hfz11_3 := blk_frozen BK639.out 3; have hfz11_4 := blk_frozen BK639.out 4; have hfz11_5 := blk_frozen BK639.out 5; have hfz11_6 := blk_frozen BK639.out 6; have hfz11_7 := blk_frozen BK639.out 7; have hfz11_8 := blk_frozen BK639.out 8; have hfz11_9 := blk_frozen BK639.out 9; have hfz11_10 := blk_frozen BK639.out 10; have hfz11_11 := blk_frozen BK639.out 11) | ((with_reducible refine gate_callee (f := 67) rfl ?_); refine goesL_ (some 5) rfl rfl Try.func67 (by kernel_rfl) rfl #[.int .i64 a0_0, .int .i64 1, .int .i64 60] rfl bM ?_; (with_reducible refine (spec_l6In.calls a0_0 1 60 true _ A2.out).mono ?_); rintro e w' ⟨rfl, ⟨nd, rfl⟩⟩; refine ⟨_, rfl, ?_⟩) | (go_at_call 67; (with_reducible refine (spec_l6In.calls a0_1 1 99999 false _ A4.out).mono ?_); rintro e w' ⟨rfl, ⟨nd, rfl⟩⟩))
   go_ret
   exact ⟨by first | rfl | (simp [errW_none, errW_some] <;> rfl) | (simp [*, errW_none, errW_some] <;> rfl), pS HB.out⟩
 ·replace c3 := Bool.eq_false_iff.mpr c3
  subst c3
  have H1 : (some false) = some r := by rw [if_neg (show ¬ (false = true) by decide)] at H; exact H
  clear H
  have H := H1
  clear H1
  obtain rfl := Option.some.inj H
  go_enter Try.func86, Try.ntmps86
  go_wp2_with (first | ((with_reducible refine gate_dst (N := 1) rfl ?_); refine box_event ?hg (N := 1) ?hd (cs := #[.int .i64 a0_0, .int .i64 a0_1, .int .i64 a0_2, .int .i64 a0_3, .int .i64 a0_4, .int .i64 a0_5, .int .i64 a0_6, .int .i64 a0_7, .int .i64 a0_8, .int .i64 a0_9, .int .i64 a0_10, .int .i64 a0_11]) (t := 64) ?hr ?_; (case hd => rfl); (case hg => rfl); (case hr => first | (go_simp; done) | (go_simp; rfl)); intro gb639 hg w12 hbox hb; have n0_ := Aside0.mk (below_step (pB HB.out) hb); have n1_ := Aside0.mk (hbox); have n2_ := Aside0.mk ((by rw [hg]; exact (below_size (pB HB.out)) : w.heap.size ≤ gb639)); have n3_ := Aside0.mk ((by rw [hg]; exact (below_size (pB HB.out)) : w.heap.size ≤ gb639)); clear HB; have HB := n0_; have BK639 := n1_; have GW639 := n2_; have GE639 := n3_; clear n0_ n1_ n2_ n3_; clear hb hbox hg; have hcz13_0 : w12.cell? ⟨gb639, 0, none⟩ = some (.int .i64 a0_0) := (blk_cell BK639.out 0).trans rfl; have hcz13_1 : w12.cell? ⟨gb639, 1, none⟩ = some (.int .i64 a0_1) := (blk_cell BK639.out 1).trans rfl; have hcz13_2 : w12.cell? ⟨gb639, 2, none⟩ = some (.int .i64 a0_2) := (blk_cell BK639.out 2).trans rfl; have hcz13_3 : w12.cell? ⟨gb639, 3, none⟩ = some (.int .i64 a0_3) := (blk_cell BK639.out 3).trans rfl; have hcz13_4 : w12.cell? ⟨gb639, 4, none⟩ = some (.int .i64 a0_4) := (blk_cell BK639.out 4).trans rfl; have hcz13_5 : w12.cell? ⟨gb639, 5, none⟩ = some (.int .i64 a0_5) := (blk_cell BK639.out 5).trans rfl; have hcz13_6 : w12.cell? ⟨gb639, 6, none⟩ = some (.int .i64 a0_6) := (blk_cell BK639.out 6).trans rfl; have hcz13_7 : w12.cell? ⟨gb639, 7, none⟩ = some (.int .i64 a0_7) := (blk_cell BK639.out 7).trans rfl; have hcz13_8 : w12.cell? ⟨gb639, 8, none⟩ = some (.int .i64 a0_8) := (blk_cell BK639.out 8).trans rfl; have hcz13_9 : w12.cell? ⟨gb639, 9, none⟩ = some (.int .i64 a0_9) := (blk_cell BK639.out 9).trans rfl; have hcz13_10 : w12.cell? ⟨gb639, 10, none⟩ = some (.int .i64 a0_10) := (blk_cell BK639.out 10).trans rfl; have hcz13_11 : w12.cell? ⟨gb639, 11, none⟩ = some (.int .i64 a0_11) := (blk_cell BK639.out 11).trans rfl; have hfz13_0 := blk_frozen BK639.out 0; have hfz13_1 := blk_frozen BK639.out 1; have hfz13_2 := blk_frozen BK639.out 2; have hfz13_3 := blk_frozen BK639.out 3; have hfz13_4 := blk_frozen BK639.out 4; have hfz13_5 := blk_frozen BK639.out 5; have hfz13_6 := blk_frozen BK639.out 6; have hfz13_7 := blk_frozen BK639.out 7; have hfz13_8 := blk_frozen BK639.out 8; have hfz13_9 := blk_frozen BK639.out 9; have hfz13_10 := blk_frozen BK639.out 10; have hfz13_11 := blk_frozen BK639.out 11) | ((with_reducible refine gate_callee (f := 67) rfl ?_); refine goesL_ (some 5) rfl rfl Try.func67 (by kernel_rfl) rfl #[.int .i64 a0_0, .int .i64 1, .int .i64 60] rfl bM ?_; (with_reducible refine (spec_l6In.calls a0_0 1 60 false _ A2.out).mono ?_); rintro e w' ⟨rfl, ⟨nd, rfl⟩⟩; refine ⟨_, rfl, ?_⟩))
  go_ret
  exact ⟨by first | rfl | (simp [errW_none, errW_some] <;> rfl) | (simp [*, errW_none, errW_some] <;> rfl), pS HB.out⟩

/-! ### impl_paperOk: function 88 -/
def impl_paperOk.f (k : Nat) (a0_0 : Int) (a0_1 : Int) (a0_2 : Int) (a0_3 : Int) (a0_4 : Int) (a0_5 : Int) (a0_6 : Int) (a0_7 : Int) (a0_8 : Int) (a0_9 : Int) (a0_10 : Int) (a0_11 : Int) : Option (Bool) := (impl_in.f a0_0 1 60).bind fun t687 => (if t687 = true then ((impl_in.f a0_1 1 99999).bind fun t688 => (if t688 = true then ((impl_cmdOk.f k a0_2 a0_3 a0_4 a0_5 a0_6 a0_7 a0_8 a0_9 a0_10 a0_11).bind fun t689 => (some t689)) else (some false))) else (some false))
theorem impl_paperOk.mono : ∀ a0 a1 a2 a3 a4 a5 a6 a7 a8 a9 a10 a11 k, LeO (impl_paperOk.f k a0 a1 a2 a3 a4 a5 a6 a7 a8 a9 a10 a11) (impl_paperOk.f (k + 1) a0 a1 a2 a3 a4 a5 a6 a7 a8 a9 a10 a11) := by
 intro a0 a1 a2 a3 a4 a5 a6 a7 a8 a9 a10 a11 k
 unfold impl_paperOk.f
 repeat' first
   | (with_reducible exact impl_cmdOk.mono _ _ _ _ _ _ _ _ _ _ _)
   | (with_reducible exact LeO.refl _)
   | (with_reducible exact LeO.none _)
   | (with_reducible refine LeO.ite ?_ ?_)
   | (with_reducible refine LeO.bind ?_ (fun _ => ?_))
   | exact impl_cmdOk.mono _ _ _ _ _ _ _ _ _ _ _
   | exact LeO.none _
   | refine LeO.ite ?_ ?_
   | refine LeO.bind ?_ (fun _ => ?_)
set_option maxHeartbeats 8000000 in
set_option maxRecDepth 100000 in
theorem impl_paperOk.calls (k : Nat) (a0_0 : Int) (a0_1 : Int) (a0_2 : Int) (a0_3 : Int) (a0_4 : Int) (a0_5 : Int) (a0_6 : Int) (a0_7 : Int) (a0_8 : Int) (a0_9 : Int) (a0_10 : Int) (a0_11 : Int) (r : Bool) (w : World) (h : impl_paperOk.f k a0_0 a0_1 a0_2 a0_3 a0_4 a0_5 a0_6 a0_7 a0_8 a0_9 a0_10 a0_11 = some r) :
  Calls Try.prog 88 #[.agg #[.int .i64 a0_0, .int .i64 a0_1, .int .i64 a0_2, .int .i64 a0_3, .int .i64 a0_4, .int .i64 a0_5, .int .i64 a0_6, .int .i64 a0_7, .int .i64 a0_8, .int .i64 a0_9, .int .i64 a0_10, .int .i64 a0_11]] w fun e w' => e = .returned (.bool r) ∧ Below w.heap.size w w' := by
 have hu64 := Try.underlying64
 have hu24 := Try.underlying24
 have HB := Aside0.mk (Below.refl w.heap.size w)
 have H : ((impl_in.f a0_0 1 60).bind fun t687 => (if t687 = true then ((impl_in.f a0_1 1 99999).bind fun t688 => (if t688 = true then ((impl_cmdOk.f k a0_2 a0_3 a0_4 a0_5 a0_6 a0_7 a0_8 a0_9 a0_10 a0_11).bind fun t689 => (some t689)) else (some false))) else (some false))) = some r := h
 clear h
 replace H := Option.bind_eq_some_iff.mp H
 obtain ⟨t687, A20, H⟩ := H
 replace H : (if t687 = true then ((impl_in.f a0_1 1 99999).bind fun t688 => (if t688 = true then ((impl_cmdOk.f k a0_2 a0_3 a0_4 a0_5 a0_6 a0_7 a0_8 a0_9 a0_10 a0_11).bind fun t689 => (some t689)) else (some false))) else (some false)) = some r := H
 have A2 := Aside0.mk A20
 clear A20
 by_cases c3 : t687 = true
 ·subst c3
  have H1 : ((impl_in.f a0_1 1 99999).bind fun t688 => (if t688 = true then ((impl_cmdOk.f k a0_2 a0_3 a0_4 a0_5 a0_6 a0_7 a0_8 a0_9 a0_10 a0_11).bind fun t689 => (some t689)) else (some false))) = some r := by rw [if_pos rfl] at H; exact H
  clear H
  have H := H1
  clear H1
  replace H := Option.bind_eq_some_iff.mp H
  obtain ⟨t688, A40, H⟩ := H
  replace H : (if t688 = true then ((impl_cmdOk.f k a0_2 a0_3 a0_4 a0_5 a0_6 a0_7 a0_8 a0_9 a0_10 a0_11).bind fun t689 => (some t689)) else (some false)) = some r := H
  have A4 := Aside0.mk A40
  clear A40
  by_cases c5 : t688 = true
  ·subst c5
   have H1 : ((impl_cmdOk.f k a0_2 a0_3 a0_4 a0_5 a0_6 a0_7 a0_8 a0_9 a0_10 a0_11).bind fun t689 => (some t689)) = some r := by rw [if_pos rfl] at H; exact H
   clear H
   have H := H1
   clear H1
   replace H := Option.bind_eq_some_iff.mp H
   obtain ⟨t689, A60, H⟩ := H
   replace H : (some t689) = some r := H
   have A6 := Aside0.mk A60
   clear A60
   obtain rfl := Option.some.inj H
   go_enter Try.func88, Try.ntmps88
   go_wp2_with (first | ((with_reducible refine gate_dst (N := 1) rfl ?_); refine box_event ?hg (N := 1) ?hd (cs := #[.int .i64 a0_0, .int .i64 a0_1, .int .i64 a0_2, .int .i64 a0_3, .int .i64 a0_4, .int .i64 a0_5, .int .i64 a0_6, .int .i64 a0_7, .int .i64 a0_8, .int .i64 a0_9, .int .i64 a0_10, .int .i64 a0_11]) (t := 64) ?hr ?_; (case hd => rfl); (case hg => rfl); (case hr => first | (go_simp; done) | (go_simp; rfl)); intro gb686 hg w7 hbox hb; have n0_ := Aside0.mk (below_step (pB HB.out) hb); have n1_ := Aside0.mk (hbox); have n2_ := Aside0.mk ((by rw [hg]; exact (below_size (pB HB.out)) : w.heap.size ≤ gb686)); have n3_ := Aside0.mk ((by rw [hg]; exact (below_size (pB HB.out)) : w.heap.size ≤ gb686)); clear HB; have HB := n0_; have BK686 := n1_; have GW686 := n2_; have GE686 := n3_; clear n0_ n1_ n2_ n3_; clear hb hbox hg; have hcz8_0 : w7.cell? ⟨gb686, 0, none⟩ = some (.int .i64 a0_0) := (blk_cell BK686.out 0).trans rfl; have hcz8_1 : w7.cell? ⟨gb686, 1, none⟩ = some (.int .i64 a0_1) := (blk_cell BK686.out 1).trans rfl; have hcz8_2 : w7.cell? ⟨gb686, 2, none⟩ = some (.int .i64 a0_2) := (blk_cell BK686.out 2).trans rfl; have hcz8_3 : w7.cell? ⟨gb686, 3, none⟩ = some (.int .i64 a0_3) := (blk_cell BK686.out 3).trans rfl; have hcz8_4 : w7.cell? ⟨gb686, 4, none⟩ = some (.int .i64 a0_4) := (blk_cell BK686.out 4).trans rfl; have hcz8_5 : w7.cell? ⟨gb686, 5, none⟩ = some (.int .i64 a0_5) := (blk_cell BK686.out 5).trans rfl; have hcz8_6 : w7.cell? ⟨gb686, 6, none⟩ = some (.int .i64 a0_6) := (blk_cell BK686.out 6).trans rfl; have hcz8_7 : w7.cell? ⟨gb686, 7, none⟩ = some (.int .i64 a0_7) := (blk_cell BK686.out 7).trans rfl; have hcz8_8 : w7.cell? ⟨gb686, 8, none⟩ = some (.int .i64 a0_8) := (blk_cell BK686.out 8).trans rfl; have hcz8_9 : w7.cell? ⟨gb686, 9, none⟩ = some (.int .i64 a0_9) := (blk_cell BK686.out 9).trans rfl; have hcz8_10 : w7.cell? ⟨gb686, 10, none⟩ = some (.int .i64 a0_10) := (blk_cell BK686.out 10).trans rfl; have hcz8_11 : w7.cell? ⟨gb686, 11, none⟩ = some (.int .i64 a0_11) := (blk_cell BK686.out 11).trans rfl; have hfz8_0 := blk_frozen BK686.out 0; have hfz8_1 := blk_frozen BK686.out 1; have hfz8_2 := blk_frozen BK686.out 2; have hfz8_3 := blk_frozen BK686.out 3; have hfz8_4 := blk_frozen BK686.out 4; have hfz8_5 := blk_frozen BK686.out 5; have hfz8_6 := blk_frozen BK686.out 6; have hfz8_7 := blk_frozen BK686.out 7; have hfz8_8 := blk_frozen BK686.out 8; have hfz8_9 := blk_frozen BK686.out 9; have hfz8_10 := blk_frozen BK686.out 10; have hfz8_11 := blk_frozen BK686.out 11) | ((with_reducible refine gate_callee (f := 74) rfl ?_); refine goesL_ (some 5) rfl rfl Try.func74 (by kernel_rfl) rfl #[.int .i64 a0_0, .int .i64 1, .int .i64 60] rfl bM ?_; (with_reducible refine (impl_in.calls a0_0 1 60 true _ A2.out).mono ?_); rintro e w' ⟨rfl, ⟨nd, rfl⟩⟩; refine ⟨_, rfl, ?_⟩) | (go_at_call 74; (with_reducible refine (impl_in.calls a0_1 1 99999 true _ A4.out).mono ?_); rintro e w' ⟨rfl, ⟨nd, rfl⟩⟩) | (go_at_call 76; (with_reducible refine (impl_cmdOk.calls k a0_2 a0_3 a0_4 a0_5 a0_6 a0_7 a0_8 a0_9 a0_10 a0_11 t689 _ A6.out).mono ?_); rintro e w9 ⟨rfl, hb⟩; have n0_ := Aside0.mk (blk_below (pK BK686.out) hb); have n1_ := Aside0.mk (below_step (pS HB.out) hb); clear BK686; clear HB; have BK686 := n0_; have HB := n1_; clear n0_ n1_; (try clear hb); (try clear hb2); (try clear hk); (try clear hi)))
   go_ret
   exact ⟨by first | rfl | (simp [errW_none, errW_some] <;> rfl) | (simp [*, errW_none, errW_some] <;> rfl), pS HB.out⟩
  ·replace c5 := Bool.eq_false_iff.mpr c5
   subst c5
   have H1 : (some false) = some r := by rw [if_neg (show ¬ (false = true) by decide)] at H; exact H
   clear H
   have H := H1
   clear H1
   obtain rfl := Option.some.inj H
   go_enter Try.func88, Try.ntmps88
   go_wp2_with (first | ((with_reducible refine gate_dst (N := 1) rfl ?_); refine box_event ?hg (N := 1) ?hd (cs := #[.int .i64 a0_0, .int .i64 a0_1, .int .i64 a0_2, .int .i64 a0_3, .int .i64 a0_4, .int .i64 a0_5, .int .i64 a0_6, .int .i64 a0_7, .int .i64 a0_8, .int .i64 a0_9, .int .i64 a0_10, .int .i64 a0_11]) (t := 64) ?hr ?_; (case hd => rfl); (case hg => rfl); (case hr => first | (go_simp; done) | (go_simp; rfl)); intro gb686 hg w10 hbox hb; have n0_ := Aside0.mk (below_step (pB HB.out) hb); have n1_ := Aside0.mk (hbox); have n2_ := Aside0.mk ((by rw [hg]; exact (below_size (pB HB.out)) : w.heap.size ≤ gb686)); have n3_ := Aside0.mk ((by rw [hg]; exact (below_size (pB HB.out)) : w.heap.size ≤ gb686)); clear HB; have HB := n0_; have BK686 := n1_; have GW686 := n2_; have GE686 := n3_; clear n0_ n1_ n2_ n3_; clear hb hbox hg; have hcz11_0 : w10.cell? ⟨gb686, 0, none⟩ = some (.int .i64 a0_0) := (blk_cell BK686.out 0).trans rfl; have hcz11_1 : w10.cell? ⟨gb686, 1, none⟩ = some (.int .i64 a0_1) := (blk_cell BK686.out 1).trans rfl; have hcz11_2 : w10.cell? ⟨gb686, 2, none⟩ = some (.int .i64 a0_2) := (blk_cell BK686.out 2).trans rfl; have hcz11_3 : w10.cell? ⟨gb686, 3, none⟩ = some (.int .i64 a0_3) := (blk_cell BK686.out 3).trans rfl; have hcz11_4 : w10.cell? ⟨gb686, 4, none⟩ = some (.int .i64 a0_4) := (blk_cell BK686.out 4).trans rfl; have hcz11_5 : w10.cell? ⟨gb686, 5, none⟩ = some (.int .i64 a0_5) := (blk_cell BK686.out 5).trans rfl; have hcz11_6 : w10.cell? ⟨gb686, 6, none⟩ = some (.int .i64 a0_6) := (blk_cell BK686.out 6).trans rfl; have hcz11_7 : w10.cell? ⟨gb686, 7, none⟩ = some (.int .i64 a0_7) := (blk_cell BK686.out 7).trans rfl; have hcz11_8 : w10.cell? ⟨gb686, 8, none⟩ = some (.int .i64 a0_8) := (blk_cell BK686.out 8).trans rfl; have hcz11_9 : w10.cell? ⟨gb686, 9, none⟩ = some (.int .i64 a0_9) := (blk_cell BK686.out 9).trans rfl; have hcz11_10 : w10.cell? ⟨gb686, 10, none⟩ = some (.int .i64 a0_10) := (blk_cell BK686.out 10).trans rfl; have hcz11_11 : w10.cell? ⟨gb686, 11, none⟩ = some (.int .i64 a0_11) := (blk_cell BK686.out 11).trans rfl; have hfz11_0 := blk_frozen BK686.out 0; have hfz11_1 := blk_frozen BK686.out 1; have hfz11_2 := blk_frozen BK686.out 2; have hfz11_3 := blk_frozen BK686.out 3; have hfz11_4 := blk_frozen BK686.out 4; have hfz11_5 := blk_frozen BK686.out 5; have hfz11_6 := blk_frozen BK686.out 6; have hfz11_7 := blk_frozen BK686.out 7; have hfz11_8 := blk_frozen BK686.out 8; have hfz11_9 := blk_frozen BK686.out 9; have hfz11_10 := blk_frozen BK686.out 10; have hfz11_11 := blk_frozen BK686.out 11) | ((with_reducible refine gate_callee (f := 74) rfl ?_); refine goesL_ (some 5) rfl rfl Try.func74 (by kernel_rfl) rfl #[.int .i64 a0_0, .int .i64 1, .int .i64 60] rfl bM ?_; (with_reducible refine (impl_in.calls a0_0 1 60 true _ A2.out).mono ?_); rintro e w' ⟨rfl, ⟨nd, rfl⟩⟩; refine ⟨_, rfl, ?_⟩) | (go_at_call 74; (with_reducible refine (impl_in.calls a0_1 1 99999 false _ A4.out).mono ?_); rintro e w' ⟨rfl, ⟨nd, rfl⟩⟩))
   go_ret
   exact ⟨by first | rfl | (simp [errW_none, errW_some] <;> rfl) | (simp [*, errW_none, errW_some] <;> rfl), pS HB.out⟩
 ·replace c3 := Bool.eq_false_iff.mpr c3
  subst c3
  have H1 : (some false) = some r := by rw [if_neg (show ¬ (false = true) by decide)] at H; exact H
  clear H
  have H := H1
  clear H1
  obtain rfl := Option.some.inj H
  go_enter Try.func88, Try.ntmps88
  go_wp2_with (first | ((with_reducible refine gate_dst (N := 1) rfl ?_); refine box_event ?hg (N := 1) ?hd (cs := #[.int .i64 a0_0, .int .i64 a0_1, .int .i64 a0_2, .int .i64 a0_3, .int .i64 a0_4, .int .i64 a0_5, .int .i64 a0_6, .int .i64 a0_7, .int .i64 a0_8, .int .i64 a0_9, .int .i64 a0_10, .int .i64 a0_11]) (t := 64) ?hr ?_; (case hd => rfl); (case hg => rfl); (case hr => first | (go_simp; done) | (go_simp; rfl)); intro gb686 hg w12 hbox hb; have n0_ := Aside0.mk (below_step (pB HB.out) hb); have n1_ := Aside0.mk (hbox); have n2_ := Aside0.mk ((by rw [hg]; exact (below_size (pB HB.out)) : w.heap.size ≤ gb686)); have n3_ := Aside0.mk ((by rw [hg]; exact (below_size (pB HB.out)) : w.heap.size ≤ gb686)); clear HB; have HB := n0_; have BK686 := n1_; have GW686 := n2_; have GE686 := n3_; clear n0_ n1_ n2_ n3_; clear hb hbox hg; have hcz13_0 : w12.cell? ⟨gb686, 0, none⟩ = some (.int .i64 a0_0) := (blk_cell BK686.out 0).trans rfl; have hcz13_1 : w12.cell? ⟨gb686, 1, none⟩ = some (.int .i64 a0_1) := (blk_cell BK686.out 1).trans rfl; have hcz13_2 : w12.cell? ⟨gb686, 2, none⟩ = some (.int .i64 a0_2) := (blk_cell BK686.out 2).trans rfl; have hcz13_3 : w12.cell? ⟨gb686, 3, none⟩ = some (.int .i64 a0_3) := (blk_cell BK686.out 3).trans rfl; have hcz13_4 : w12.cell? ⟨gb686, 4, none⟩ = some (.int .i64 a0_4) := (blk_cell BK686.out 4).trans rfl; have hcz13_5 : w12.cell? ⟨gb686, 5, none⟩ = some (.int .i64 a0_5) := (blk_cell BK686.out 5).trans rfl; have hcz13_6 : w12.cell? ⟨gb686, 6, none⟩ = some (.int .i64 a0_6) := (blk_cell BK686.out 6).trans rfl; have hcz13_7 : w12.cell? ⟨gb686, 7, none⟩ = some (.int .i64 a0_7) := (blk_cell BK686.out 7).trans rfl; have hcz13_8 : w12.cell? ⟨gb686, 8, none⟩ = some (.int .i64 a0_8) := (blk_cell BK686.out 8).trans rfl; have hcz13_9 : w12.cell? ⟨gb686, 9, none⟩ = some (.int .i64 a0_9) := (blk_cell BK686.out 9).trans rfl; have hcz13_10 : w12.cell? ⟨gb686, 10, none⟩ = some (.int .i64 a0_10) := (blk_cell BK686.out 10).trans rfl; have hcz13_11 : w12.cell? ⟨gb686, 11, none⟩ = some (.int .i64 a0_11) := (blk_cell BK686.out 11).trans rfl; have hfz13_0 := blk_frozen BK686.out 0; have hfz13_1 := blk_frozen BK686.out 1; have hfz13_2 := blk_frozen BK686.out 2; have hfz13_3 := blk_frozen BK686.out 3; have hfz13_4 := blk_frozen BK686.out 4; have hfz13_5 := blk_frozen BK686.out 5; have hfz13_6 := blk_frozen BK686.out 6; have hfz13_7 := blk_frozen BK686.out 7; have hfz13_8 := blk_frozen BK686.out 8; have hfz13_9 := blk_frozen BK686.out 9; have hfz13_10 := blk_frozen BK686.out 10; have hfz13_11 := blk_frozen BK686.out 11) | ((with_reducible refine gate_callee (f := 74) rfl ?_); refine goesL_ (some 5) rfl rfl Try.func74 (by kernel_rfl) rfl #[.int .i64 a0_0, .int .i64 1, .int .i64 60] rfl bM ?_; (with_reducible refine (impl_in.calls a0_0 1 60 false _ A2.out).mono ?_); rintro e w' ⟨rfl, ⟨nd, rfl⟩⟩; refine ⟨_, rfl, ?_⟩))
  go_ret
  exact ⟨by first | rfl | (simp [errW_none, errW_some] <;> rfl) | (simp [*, errW_none, errW_some] <;> rfl), pS HB.out⟩

end Go.Proofs.Ytoieojmfkkidnaa.P
