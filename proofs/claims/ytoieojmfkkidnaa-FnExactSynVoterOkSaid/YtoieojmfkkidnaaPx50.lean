-- printed by pprint.py (this session's program over the kit's printer) out of the translation. Lean checks it.
import Derived.Test.YtoieojmfkkidnaaPx0
import Derived.Test.YtoieojmfkkidnaaPx27
import Derived.Test.YtoieojmfkkidnaaPx28
import Derived.Test.YtoieojmfkkidnaaPx29
import Derived.Test.YtoieojmfkkidnaaPx38
namespace Go.Proofs.Ytoieojmfkkidnaa.P
open Go.RowKit Go.Proofs.YtoieojmfkkidnaaX Go.Proofs.YtoieojmfkkidnaaW.PrintWords Go.Proofs.YtoieojmfkkidnaaW.PrintLast Go.Proofs.YtoieojmfkkidnaaW.PrintMore
attribute [local go_sem] max2_int min2_int max_two min_two max_three min_three max_four min_four   -- for this text's walks alone
set_option linter.unusedVariables false
set_option linter.unusedSimpArgs false

/-! ### laws_FnExactSynVoterOk: function 6 -/
def laws_FnExactSynVoterOk.f (k : Nat) (a0_0 : Int) (l0_1 : List (S57)) : Option (Bool) := (laws_szSynVoter.f a0_0 l0_1 1048576).bind fun t706 => (if t706 < 0 then (some true) else ((laws_toSynVoter.f k a0_0 l0_1).bind fun bt707 => ((spec_SynVoterOk.f k bt707.1 bt707.2).bind fun t711 => ((laws_toSynVoter.f k a0_0 l0_1).bind fun bt712 => ((impl_SynVoterOk.f k bt712.1 bt712.2).bind fun t717 => (if (t717 != t711) = true then (some false) else ((laws_toSynVoter.f k a0_0 l0_1).bind fun bt718 => ((laws_eqSynVoter.f k bt712.1 bt712.2 bt718.1 bt718.2).bind fun t722 => (if t722 = true then (some true) else (some false))))))))))
theorem laws_FnExactSynVoterOk.mono : ∀ a0 a1 k, LeO (laws_FnExactSynVoterOk.f k a0 a1) (laws_FnExactSynVoterOk.f (k + 1) a0 a1) := by
 intro a0 a1 k
 unfold laws_FnExactSynVoterOk.f
 repeat' first
   | (with_reducible exact impl_SynVoterOk.mono _ _ _)
   | (with_reducible exact laws_eqSynVoter.mono _ _ _ _ _)
   | (with_reducible exact laws_toSynVoter.mono _ _ _)
   | (with_reducible exact spec_SynVoterOk.mono _ _ _)
   | (with_reducible exact LeO.refl _)
   | (with_reducible exact LeO.none _)
   | (with_reducible refine LeO.ite ?_ ?_)
   | (with_reducible refine LeO.bind ?_ (fun _ => ?_))
   | exact impl_SynVoterOk.mono _ _ _
   | exact laws_eqSynVoter.mono _ _ _ _ _
   | exact laws_toSynVoter.mono _ _ _
   | exact spec_SynVoterOk.mono _ _ _
   | exact LeO.none _
   | refine LeO.ite ?_ ?_
   | refine LeO.bind ?_ (fun _ => ?_)
set_option maxHeartbeats 8000000 in
set_option maxRecDepth 100000 in
theorem laws_FnExactSynVoterOk.calls (k : Nat) (a0_0 : Int) (A0_1 : Option Addr) (c0_1 : Nat) (l0_1 : List (S57)) (r : Bool) (w : World) (hr0_1 : Kd.C k57 w A0_1 l0_1.length l0_1) (hc0_1 : l0_1.length ≤ c0_1) (h : laws_FnExactSynVoterOk.f k a0_0 l0_1 = some r) :
  Calls Try.prog 6 #[.agg #[.int .i64 a0_0, .slice A0_1 l0_1.length c0_1]] w fun e w' => e = .returned (.bool r) ∧ Below w.heap.size w w' := by
 have hu47 := Try.underlying47
 have hu52 := Try.underlying52
 have HR0_1 := Aside0.mk hr0_1
 have HC0_1 := Aside0.mk hc0_1
 clear hr0_1 hc0_1
 have HB := Aside0.mk (Below.refl w.heap.size w)
 have H : ((laws_szSynVoter.f a0_0 l0_1 1048576).bind fun t706 => (if t706 < 0 then (some true) else ((laws_toSynVoter.f k a0_0 l0_1).bind fun bt707 => ((spec_SynVoterOk.f k bt707.1 bt707.2).bind fun t711 => ((laws_toSynVoter.f k a0_0 l0_1).bind fun bt712 => ((impl_SynVoterOk.f k bt712.1 bt712.2).bind fun t717 => (if (t717 != t711) = true then (some false) else ((laws_toSynVoter.f k a0_0 l0_1).bind fun bt718 => ((laws_eqSynVoter.f k bt712.1 bt712.2 bt718.1 bt718.2).bind fun t722 => (if t722 = true then (some true) else (some false))))))))))) = some r := h
 clear h
 replace H := Option.bind_eq_some_iff.mp H
 obtain ⟨t706, A20, H⟩ := H
 replace H : (if t706 < 0 then (some true) else ((laws_toSynVoter.f k a0_0 l0_1).bind fun bt707 => ((spec_SynVoterOk.f k bt707.1 bt707.2).bind fun t711 => ((laws_toSynVoter.f k a0_0 l0_1).bind fun bt712 => ((impl_SynVoterOk.f k bt712.1 bt712.2).bind fun t717 => (if (t717 != t711) = true then (some false) else ((laws_toSynVoter.f k a0_0 l0_1).bind fun bt718 => ((laws_eqSynVoter.f k bt712.1 bt712.2 bt718.1 bt718.2).bind fun t722 => (if t722 = true then (some true) else (some false)))))))))) = some r := H
 have A2 := Aside0.mk A20
 clear A20
 by_cases c3 : t706 < 0
 ·rw [if_pos c3] at H
  have c3b0 : decide (t706 < 0) = true := decide_eq_true c3
  clear c3
  obtain rfl := Option.some.inj H
  go_enter Try.func6, Try.ntmps6
  go_wp2_with (first | ((with_reducible refine gate_dst (N := 1) rfl ?_); refine box_event ?hg (N := 1) ?hd (cs := #[.int .i64 a0_0, .slice A0_1 l0_1.length c0_1]) (t := 47) ?hr ?_; (case hd => rfl); (case hg => rfl); (case hr => first | (go_simp; done) | (go_simp; rfl)); intro gb705 hg w4 hbox hb; have n0_ := Aside0.mk (below_step (pB HB.out) hb); have n1_ := Aside0.mk (hbox); have n2_ := Aside0.mk ((by rw [hg]; exact (below_size (pB HB.out)) : w.heap.size ≤ gb705)); have n3_ := Aside0.mk ((by rw [hg]; exact (below_size (pB HB.out)) : w.heap.size ≤ gb705)); clear HB; have HB := n0_; have BK705 := n1_; have GW705 := n2_; have GE705 := n3_; clear n0_ n1_ n2_ n3_; clear hb hbox hg; have hcz5_0 : w4.cell? ⟨gb705, 0, none⟩ = some (.int .i64 a0_0) := (blk_cell BK705.out 0).trans rfl; have hcz5_1 : w4.cell? ⟨gb705, 1, none⟩ = some (.slice A0_1 l0_1.length c0_1) := (blk_cell BK705.out 1).trans rfl; have hfz5_0 := blk_frozen BK705.out 0; have hfz5_1 := blk_frozen BK705.out 1) | ((with_reducible refine gate_callee (f := 25) rfl ?_); refine goesL_ (some 9) rfl rfl Try.func25 (by kernel_rfl) rfl #[.agg #[.int .i64 a0_0, .slice A0_1 l0_1.length c0_1], .int .i64 1048576] rfl bM ?_; (with_reducible refine (laws_szSynVoter.calls a0_0 _ _ l0_1 1048576 t706 _ ?side1 ?side2 A2.out).mono ?_); (case side1 => exact pC (Kd.C_below HR0_1.out HB.out)); (case side2 => exact HC0_1.out); rintro e w6 ⟨rfl, hb⟩; refine ⟨_, rfl, ?_⟩; have n0_ := Aside0.mk (blk_below (pK BK705.out) hb); have n1_ := Aside0.mk (below_step (pS HB.out) hb); clear BK705; clear HB; have BK705 := n0_; have HB := n1_; clear n0_ n1_; (try clear hb); (try clear hb2); (try clear hk); (try clear hi)))
  go_ret
  exact ⟨by first | rfl | (simp [errW_none, errW_some] <;> rfl) | (simp [*, errW_none, errW_some] <;> rfl), pS HB.out⟩
 ·rw [if_neg c3] at H
  have c3b0 : decide (t706 < 0) = false := decide_eq_false c3
  clear c3
  replace H := Option.bind_eq_some_iff.mp H
  obtain ⟨⟨t707, t708⟩, A70, H⟩ := H
  replace H : ((spec_SynVoterOk.f k t707 t708).bind fun t711 => ((laws_toSynVoter.f k a0_0 l0_1).bind fun bt712 => ((impl_SynVoterOk.f k bt712.1 bt712.2).bind fun t717 => (if (t717 != t711) = true then (some false) else ((laws_toSynVoter.f k a0_0 l0_1).bind fun bt718 => ((laws_eqSynVoter.f k bt712.1 bt712.2 bt718.1 bt718.2).bind fun t722 => (if t722 = true then (some true) else (some false)))))))) = some r := H
  have A7 := Aside0.mk A70
  clear A70
  replace H := Option.bind_eq_some_iff.mp H
  obtain ⟨t711, A80, H⟩ := H
  replace H : ((laws_toSynVoter.f k a0_0 l0_1).bind fun bt712 => ((impl_SynVoterOk.f k bt712.1 bt712.2).bind fun t717 => (if (t717 != t711) = true then (some false) else ((laws_toSynVoter.f k a0_0 l0_1).bind fun bt718 => ((laws_eqSynVoter.f k bt712.1 bt712.2 bt718.1 bt718.2).bind fun t722 => (if t722 = true then (some true) else (some false))))))) = some r := H
  have A8 := Aside0.mk A80
  clear A80
  replace H := Option.bind_eq_some_iff.mp H
  obtain ⟨⟨t712, t713⟩, A90, H⟩ := H
  replace H : ((impl_SynVoterOk.f k t712 t713).bind fun t717 => (if (t717 != t711) = true then (some false) else ((laws_toSynVoter.f k a0_0 l0_1).bind fun bt718 => ((laws_eqSynVoter.f k t712 t713 bt718.1 bt718.2).bind fun t722 => (if t722 = true then (some true) else (some false)))))) = some r := H
  have A9 := Aside0.mk A90
  clear A90
  replace H := Option.bind_eq_some_iff.mp H
  obtain ⟨t717, A100, H⟩ := H
  replace H : (if (t717 != t711) = true then (some false) else ((laws_toSynVoter.f k a0_0 l0_1).bind fun bt718 => ((laws_eqSynVoter.f k t712 t713 bt718.1 bt718.2).bind fun t722 => (if t722 = true then (some true) else (some false))))) = some r := H
  have A10 := Aside0.mk A100
  clear A100
  by_cases c11 : (t717 != t711) = true
  ·rw [if_pos c11] at H
   have c11b0 : (t717 != t711) = true := c11
   (try (have c11b1 : decide (t717 = t711) = false := by simpa using c11))
   (try (have c11b2 : (t717 == t711) = false := by simpa using c11))
   (try (have c11b3 : ¬ (t717 = t711) := by simpa using c11))
   clear c11
   obtain rfl := Option.some.inj H
   go_enter Try.func6, Try.ntmps6
   go_wp2_with (first | ((with_reducible refine gate_dst (N := 1) rfl ?_); refine box_event ?hg (N := 1) ?hd (cs := #[.int .i64 a0_0, .slice A0_1 l0_1.length c0_1]) (t := 47) ?hr ?_; (case hd => rfl); (case hg => rfl); (case hr => first | (go_simp; done) | (go_simp; rfl)); intro gb705 hg w12 hbox hb; have n0_ := Aside0.mk (below_step (pB HB.out) hb); have n1_ := Aside0.mk (hbox); have n2_ := Aside0.mk ((by rw [hg]; exact (below_size (pB HB.out)) : w.heap.size ≤ gb705)); have n3_ := Aside0.mk ((by rw [hg]; exact (below_size (pB HB.out)) : w.heap.size ≤ gb705)); clear HB; have HB := n0_; have BK705 := n1_; have GW705 := n2_; have GE705 := n3_; clear n0_ n1_ n2_ n3_; clear hb hbox hg; have hcz13_0 : w12.cell? ⟨gb705, 0, none⟩ = some (.int .i64 a0_0) := (blk_cell BK705.out 0).trans rfl; have hcz13_1 : w12.cell? ⟨gb705, 1, none⟩ = some (.slice A0_1 l0_1.length c0_1) := (blk_cell BK705.out 1).trans rfl; have hfz13_0 := blk_frozen BK705.out 0; have hfz13_1 := blk_frozen BK705.out 1) | ((with_reducible refine gate_callee (f := 25) rfl ?_); refine goesL_ (some 9) rfl rfl Try.func25 (by kernel_rfl) rfl #[.agg #[.int .i64 a0_0, .slice A0_1 l0_1.length c0_1], .int .i64 1048576] rfl bM ?_; (with_reducible refine (laws_szSynVoter.calls a0_0 _ _ l0_1 1048576 t706 _ ?side1 ?side2 A2.out).mono ?_); (case side1 => exact pC (Kd.C_below HR0_1.out HB.out)); (case side2 => exact HC0_1.out); rintro e w14 ⟨rfl, hb⟩; refine ⟨_, rfl, ?_⟩; have n0_ := Aside0.mk (blk_below (pK BK705.out) hb); have n1_ := Aside0.mk (below_step (pS HB.out) hb); clear BK705; clear HB; have BK705 := n0_; have HB := n1_; clear n0_ n1_; (try clear hb); (try clear hb2); (try clear hk); (try clear hi); have hcz15_0 : w14.cell? ⟨gb705, 0, none⟩ = some (.int .i64 a0_0) := (blk_cell BK705.out 0).trans rfl; have hcz15_1 : w14.cell? ⟨gb705, 1, none⟩ = some (.slice A0_1 l0_1.length c0_1) := (blk_cell BK705.out 1).trans rfl; have hfz15_0 := blk_frozen BK705.out 0; have hfz15_1 := blk_frozen BK705.out 1) | ((with_reducible refine gate_callee (f := 27) rfl ?_); refine goesL_ (some 13) rfl rfl Try.func27 (by kernel_rfl) rfl #[.agg #[.int .i64 a0_0, .slice A0_1 l0_1.length c0_1]] rfl bM ?_; (with_reducible refine (laws_toSynVoter.calls k a0_0 _ _ l0_1 t707 t708 _ ?side1 ?side2 A7.out).mono ?_); (case side1 => exact pC (Kd.C_below HR0_1.out HB.out)); (case side2 => exact HC0_1.out); rintro e w16 ⟨v709, rfl, ho0, hb⟩; refine ⟨_, rfl, ?_⟩; have n0_ := Aside0.mk (Kd.R_lower ho0 (below_size (pS HB.out))); have n1_ := Aside0.mk (blk_below (pK BK705.out) hb); have n2_ := Aside0.mk (below_step (pS HB.out) hb); clear BK705; clear HB; have HO710 := n0_; have BK705 := n1_; have HB := n2_; clear n0_ n1_ n2_; (try clear hb); (try clear hb2); (try clear hk); (try clear hi); (try clear ho0); obtain ⟨Ao17, co17, eo17⟩ := Kd.R_slice HO710.out; subst eo17) | ((with_reducible refine gate_callee (f := 26) rfl ?_); refine goesL_ (some 14) rfl rfl Try.func26 (by kernel_rfl) rfl #[.agg #[.int .i64 t707, .slice Ao17 t708.length co17]] rfl bM ?_; (with_reducible refine (spec_SynVoterOk.calls k t707 _ _ t708 t711 _ ?side1 ?side2 A8.out).mono ?_); (case side1 => exact pC (Kd.R_reads' HO710.out).2.2); (case side2 => exact (Kd.R_reads' HO710.out).2.1); rintro e w18 ⟨rfl, hb⟩; refine ⟨_, rfl, ?_⟩; have n0_ := Aside0.mk (Kd.R_below (pR HO710.out) hb); have n1_ := Aside0.mk (blk_below (pK BK705.out) hb); have n2_ := Aside0.mk (below_step (pS HB.out) hb); clear HO710; clear BK705; clear HB; have HO710 := n0_; have BK705 := n1_; have HB := n2_; clear n0_ n1_ n2_; (try clear hb); (try clear hb2); (try clear hk); (try clear hi); have hcz19_0 : w18.cell? ⟨gb705, 0, none⟩ = some (.int .i64 a0_0) := (blk_cell BK705.out 0).trans rfl; have hcz19_1 : w18.cell? ⟨gb705, 1, none⟩ = some (.slice A0_1 l0_1.length c0_1) := (blk_cell BK705.out 1).trans rfl; have hfz19_0 := blk_frozen BK705.out 0; have hfz19_1 := blk_frozen BK705.out 1) | ((with_reducible refine gate_callee (f := 27) rfl ?_); refine goesL_ (some 16) rfl rfl Try.func27 (by kernel_rfl) rfl #[.agg #[.int .i64 a0_0, .slice A0_1 l0_1.length c0_1]] rfl bM ?_; (with_reducible refine (laws_toSynVoter.calls k a0_0 _ _ l0_1 t712 t713 _ ?side1 ?side2 A9.out).mono ?_); (case side1 => exact pC (Kd.C_below HR0_1.out HB.out)); (case side2 => exact HC0_1.out); rintro e w20 ⟨v714, rfl, ho0, hb⟩; refine ⟨_, rfl, ?_⟩; have n0_ := Aside0.mk (Kd.R_elder' (pR HO710.out) (Kd.R_base ho0) hb); have n1_ := Aside0.mk (Kd.R_lower (Kd.R_new' ho0 (Kd.R_lt (pR HO710.out))) (below_size (pS HB.out))); have n2_ := Aside0.mk (blk_below (pK BK705.out) hb); have n3_ := Aside0.mk (below_step (pS HB.out) hb); clear HO710; clear BK705; clear HB; have HO710 := n0_; have HO715 := n1_; have BK705 := n2_; have HB := n3_; clear n0_ n1_ n2_ n3_; (try clear hb); (try clear hb2); (try clear hk); (try clear hi); (try clear ho0)) | ((with_reducible refine gate_dst (N := 5) rfl ?_); refine box_event ?hg (N := 5) ?hd (cs := #[.int .i64 0, .slice none 0 0]) (t := 52) ?hr ?_; (case hd => rfl); (case hg => rfl); (case hr => first | (go_simp; done) | (go_simp; rfl)); intro gb716 hg w21 hbox hb; have n0_ := Aside0.mk (Kd.R_below (pR HO710.out) hb); have n1_ := Aside0.mk (Kd.R_below (pR HO715.out) hb); have n2_ := Aside0.mk (blk_below (pK BK705.out) hb); have n3_ := Aside0.mk (below_step (pS HB.out) hb); have n4_ := Aside0.mk (hbox); have n5_ := Aside0.mk ((by rw [hg]; exact (below_size (pS HB.out)) : w.heap.size ≤ gb716)); have n6_ := Aside0.mk ((by rw [hg]; exact (below_size (pS HB.out)) : w.heap.size ≤ gb716)); have n7_ := Aside0.mk ((by rw [hg]; exact Nat.ne_of_lt (blk_lt (pK BK705.out)) : gb705 ≠ gb716)); have n8_ := Aside0.mk ((by rw [hg]; exact Nat.ne_of_gt (blk_lt (pK BK705.out)) : gb716 ≠ gb705)); clear HO710; clear HO715; clear BK705; clear HB; have HO710 := n0_; have HO715 := n1_; have BK705 := n2_; have HB := n3_; have BK716 := n4_; have GW716 := n5_; have GE716 := n6_; have NB705_716 := n7_; have NB716_705 := n8_; clear n0_ n1_ n2_ n3_ n4_ n5_ n6_ n7_ n8_; clear hb hbox hg; have hnb22 := NB716_705.out; have hnc22 := NB705_716.out; have hcz23_0 : w21.cell? ⟨gb716, 0, none⟩ = some (.int .i64 0) := (blk_cell BK716.out 0).trans rfl; have hcz23_1 : w21.cell? ⟨gb716, 1, none⟩ = some (.slice none 0 0) := (blk_cell BK716.out 1).trans rfl; have hfz23_0 := blk_frozen BK716.out 0; have hfz23_1 := blk_frozen BK716.out 1; obtain ⟨Ao24, co24, eo24⟩ := Kd.R_slice HO715.out; subst eo24) | ((with_reducible refine gate_callee (f := 28) rfl ?_); refine goesL_ (some 18) rfl rfl Try.func28 (by kernel_rfl) rfl #[.agg #[.int .i64 t712, .slice Ao24 t713.length co24]] rfl bM ?_; (with_reducible refine (impl_SynVoterOk.calls k t712 _ _ t713 t717 _ ?side1 ?side2 A10.out).mono ?_); (case side1 => refine (Kd.R_reads' (e := 64) (base := w.heap.size) (ok := fun k_ => (True ∧ some k_ ≠ (.slice Ao17 t708.length co17 : Value).ownBlock)) (n := t713.length) (c := co24) ?_).2.2; exact (pR (Kd.R_mono (Kd.R_far (p := ⟨gb716, 1, none⟩) (Kd.R_far (p := ⟨gb716, 0, none⟩) (Kd.R_types HO715.out BK716.out (by decide)) (fun _ hk => hk.2) (.int .i64 t712)) (fun _ hk => hk.2) (.slice Ao24 t713.length co24)) (fun _ h_ => h_.1)))); (case side2 => exact (Kd.R_reads' HO715.out).2.1); rintro e w25 ⟨rfl, hb⟩; refine ⟨_, rfl, ?_⟩; have n0_ := Aside0.mk (Kd.R_below (pR (Kd.R_mono (Kd.R_far (p := ⟨gb716, 1, none⟩) (Kd.R_far (p := ⟨gb716, 0, none⟩) (Kd.R_types HO710.out BK716.out (by decide)) (fun _ hk => hk.2) (.int .i64 t712)) (fun _ hk => hk.2) (.slice Ao24 t713.length co24)) (fun _ h_ => h_.1))) hb); have n1_ := Aside0.mk (Kd.R_below (pR (Kd.R_mono (Kd.R_far (p := ⟨gb716, 1, none⟩) (Kd.R_far (p := ⟨gb716, 0, none⟩) (Kd.R_types HO715.out BK716.out (by decide)) (fun _ hk => hk.2) (.int .i64 t712)) (fun _ hk => hk.2) (.slice Ao24 t713.length co24)) (fun _ h_ => h_.1))) hb); have n2_ := Aside0.mk (blk_below (g := gb705) (o := .cells #[.int .i64 a0_0, .slice A0_1 l0_1.length c0_1] 47 (0, 0)) (by (with_reducible repeat (first | refine blk_drewN ?_ _ | refine blk_drew ?_ | refine blk_alloc ?_ _)); refine blk_far ?_ NB705_716.out _; (with_reducible repeat (first | refine blk_drewN ?_ _ | refine blk_drew ?_ | refine blk_alloc ?_ _)); refine blk_far ?_ NB705_716.out _; (with_reducible repeat (first | refine blk_drewN ?_ _ | refine blk_drew ?_ | refine blk_alloc ?_ _)); exact BK705.out) hb); have n3_ := Aside0.mk (blk_below (g := gb716) (o := .cells #[.int .i64 t712, .slice Ao24 t713.length co24] 52 (0, 0)) (by (with_reducible repeat (first | refine blk_drewN ?_ _ | refine blk_drew ?_ | refine blk_alloc ?_ _)); refine blk_put (cs := #[.int .i64 t712, .slice none 0 0]) ?_ 1 _ rfl; (with_reducible repeat (first | refine blk_drewN ?_ _ | refine blk_drew ?_ | refine blk_alloc ?_ _)); refine blk_put (cs := #[.int .i64 0, .slice none 0 0]) ?_ 0 _ rfl; (with_reducible repeat (first | refine blk_drewN ?_ _ | refine blk_drew ?_ | refine blk_alloc ?_ _)); exact BK716.out) hb); have n4_ := Aside0.mk (below_step (pS HB.out) hb); clear HO710; clear HO715; clear BK705; clear BK716; clear HB; have HO710 := n0_; have HO715 := n1_; have BK705 := n2_; have BK716 := n3_; have HB := n4_; clear n0_ n1_ n2_ n3_ n4_; (try clear hb); (try clear hb2); (try clear hk); (try clear hi)))
   go_ret
   exact ⟨by first | rfl | (simp [errW_none, errW_some] <;> rfl) | (simp [*, errW_none, errW_some] <;> rfl), pS HB.out⟩
  ·rw [if_neg c11] at H
   have c11b0 : (t717 != t711) = false := by simpa using c11
   (try (have c11b1 : decide (t717 = t711) = true := by simpa using c11))
   (try (have c11b2 : (t717 == t711) = true := by simpa using c11))
   clear c11
   replace H := Option.bind_eq_some_iff.mp H
   obtain ⟨⟨t718, t719⟩, A260, H⟩ := H
   replace H : ((laws_eqSynVoter.f k t712 t713 t718 t719).bind fun t722 => (if t722 = true then (some true) else (some false))) = some r := H
   have A26 := Aside0.mk A260
   clear A260
   replace H := Option.bind_eq_some_iff.mp H
   obtain ⟨t722, A270, H⟩ := H
   replace H : (if t722 = true then (some true) else (some false)) = some r := H
   have A27 := Aside0.mk A270
   clear A270
   by_cases c28 : t722 = true
   ·subst c28
    have H1 : (some true) = some r := by rw [if_pos rfl] at H; exact H
    clear H
    have H := H1
    clear H1
    obtain rfl := Option.some.inj H
    go_enter Try.func6, Try.ntmps6
    try go_wp2_with (first | ((with_reducible refine gate_dst (N := 1) rfl ?_); refine box_event ?hg (N := 1) ?hd (cs := #[.int .i64 a0_0, .slice A0_1 l0_1.length c0_1]) (t := 47) ?hr ?_; (case hd => rfl); (case hg => rfl); (case hr => first | (go_simp; done) | (go_simp; rfl)); intro gb705 hg w29 hbox hb; have n0_ := Aside0.mk (below_step (pB HB.out) hb); have n1_ := Aside0.mk (hbox); have n2_ := Aside0.mk ((by rw [hg]; exact (below_size (pB HB.out)) : w.heap.size ≤ gb705)); have n3_ := Aside0.mk ((by rw [hg]; exact (below_size (pB HB.out)) : w.heap.size ≤ gb705)); clear HB; have HB := n0_; have BK705 := n1_; have GW705 := n2_; have GE705 := n3_; clear n0_ n1_ n2_ n3_; clear hb hbox hg; have hcz30_0 : w29.cell? ⟨gb705, 0, none⟩ = some (.int .i64 a0_0) := (blk_cell BK705.out 0).trans rfl; have hcz30_1 : w29.cell? ⟨gb705, 1, none⟩ = some (.slice A0_1 l0_1.length c0_1) := (blk_cell BK705.out 1).trans rfl; have hfz30_0 := blk_frozen BK705.out 0; have hfz30_1 := blk_frozen BK705.out 1) | ((with_reducible refine gate_callee (f := 25) rfl ?_); refine goesL_ (some 9) rfl rfl Try.func25 (by kernel_rfl) rfl #[.agg #[.int .i64 a0_0, .slice A0_1 l0_1.length c0_1], .int .i64 1048576] rfl bM ?_; (with_reducible refine (laws_szSynVoter.calls a0_0 _ _ l0_1 1048576 t706 _ ?side1 ?side2 A2.out).mono ?_); (case side1 => exact pC (Kd.C_below HR0_1.out HB.out)); (case side2 => exact HC0_1.out); rintro e w31 ⟨rfl, hb⟩; refine ⟨_, rfl, ?_⟩; have n0_ := Aside0.mk (blk_below (pK BK705.out) hb); have n1_ := Aside0.mk (below_step (pS HB.out) hb); clear BK705; clear HB; have BK705 := n0_; have HB := n1_; clear n0_ n1_; (try clear hb); (try clear hb2); (try clear hk); (try clear hi); have hcz32_0 : w31.cell? ⟨gb705, 0, none⟩ = some (.int .i64 a0_0) := (blk_cell BK705.out 0).trans rfl; have hcz32_1 : w31.cell? ⟨gb705, 1, none⟩ = some (.slice A0_1 l0_1.length c0_1) := (blk_cell BK705.out 1).trans rfl; have hfz32_0 := blk_frozen BK705.out 0; have hfz32_1 := blk_frozen BK705.out 1) | ((with_reducible refine gate_callee (f := 27) rfl ?_); refine goesL_ (some 13) rfl rfl Try.func27 (by kernel_rfl) rfl #[.agg #[.int .i64 a0_0, .slice A0_1 l0_1.length c0_1]] rfl bM ?_; (with_reducible refine (laws_toSynVoter.calls k a0_0 _ _ l0_1 t707 t708 _ ?side1 ?side2 A7.out).mono ?_); (case side1 => exact pC (Kd.C_below HR0_1.out HB.out)); (case side2 => exact HC0_1.out); rintro e w33 ⟨v709, rfl, ho0, hb⟩; refine ⟨_, rfl, ?_⟩; have n0_ := Aside0.mk (Kd.R_lower ho0 (below_size (pS HB.out))); have n1_ := Aside0.mk (blk_below (pK BK705.out) hb); have n2_ := Aside0.mk (below_step (pS HB.out) hb); clear BK705; clear HB; have HO710 := n0_; have BK705 := n1_; have HB := n2_; clear n0_ n1_ n2_; (try clear hb); (try clear hb2); (try clear hk); (try clear hi); (try clear ho0); obtain ⟨Ao34, co34, eo34⟩ := Kd.R_slice HO710.out; subst eo34) | ((with_reducible refine gate_callee (f := 26) rfl ?_); refine goesL_ (some 14) rfl rfl Try.func26 (by kernel_rfl) rfl #[.agg #[.int .i64 t707, .slice Ao34 t708.length co34]] rfl bM ?_; (with_reducible refine (spec_SynVoterOk.calls k t707 _ _ t708 t711 _ ?side1 ?side2 A8.out).mono ?_); (case side1 => exact pC (Kd.R_reads' HO710.out).2.2); (case side2 => exact (Kd.R_reads' HO710.out).2.1); rintro e w35 ⟨rfl, hb⟩; refine ⟨_, rfl, ?_⟩; have n0_ := Aside0.mk (Kd.R_below (pR HO710.out) hb); have n1_ := Aside0.mk (blk_below (pK BK705.out) hb); have n2_ := Aside0.mk (below_step (pS HB.out) hb); clear HO710; clear BK705; clear HB; have HO710 := n0_; have BK705 := n1_; have HB := n2_; clear n0_ n1_ n2_; (try clear hb); (try clear hb2); (try clear hk); (try clear hi); have hcz36_0 : w35.cell? ⟨gb705, 0, none⟩ = some (.int .i64 a0_0) := (blk_cell BK705.out 0).trans rfl; have hcz36_1 : w35.cell? ⟨gb705, 1, none⟩ = some (.slice A0_1 l0_1.length c0_1) := (blk_cell BK705.out 1).trans rfl; have hfz36_0 := blk_frozen BK705.out 0; have hfz36_1 := blk_frozen BK705.out 1) | ((with_reducible refine gate_callee (f := 27) rfl ?_); refine goesL_ (some 16) rfl rfl Try.func27 (by kernel_rfl) rfl #[.agg #[.int .i64 a0_0, .slice A0_1 l0_1.length c0_1]] rfl bM ?_; (with_reducible refine (laws_toSynVoter.calls k a0_0 _ _ l0_1 t712 t713 _ ?side1 ?side2 A9.out).mono ?_); (case side1 => exact pC (Kd.C_below HR0_1.out HB.out)); (case side2 => exact HC0_1.out); rintro e w37 ⟨v714, rfl, ho0, hb⟩; refine ⟨_, rfl, ?_⟩; have n0_ := Aside0.mk (Kd.R_elder' (pR HO710.out) (Kd.R_base ho0) hb); have n1_ := Aside0.mk (Kd.R_lower (Kd.R_new' ho0 (Kd.R_lt (pR HO710.out))) (below_size (pS HB.out))); have n2_ := Aside0.mk (blk_below (pK BK705.out) hb); have n3_ := Aside0.mk (below_step (pS HB.out) hb); clear HO710; clear BK705; clear HB; have HO710 := n0_; have HO715 := n1_; have BK705 := n2_; have HB := n3_; clear n0_ n1_ n2_ n3_; (try clear hb); (try clear hb2); (try clear hk); (try clear hi); (try clear ho0)) | ((with_reducible refine gate_dst (N := 5) rfl ?_); refine box_event ?hg (N := 5) ?hd (cs := #[.int .i64 0, .slice none 0 0]) (t := 52) ?hr ?_; (case hd => rfl); (case hg => rfl); (case hr => first | (go_simp; done) | (go_simp; rfl)); intro gb716 hg w38 hbox hb; have n0_ := Aside0.mk (Kd.R_below (pR HO710.out) hb); have n1_ := Aside0.mk (Kd.R_below (pR HO715.out) hb); have n2_ := Aside0.mk (blk_below (pK BK705.out) hb); have n3_ := Aside0.mk (below_step (pS HB.out) hb); have n4_ := Aside0.mk (hbox); have n5_ := Aside0.mk ((by rw [hg]; exact (below_size (pS HB.out)) : w.heap.size ≤ gb716)); have n6_ := Aside0.mk ((by rw [hg]; exact (below_size (pS HB.out)) : w.heap.size ≤ gb716)); have n7_ := Aside0.mk ((by rw [hg]; exact Nat.ne_of_lt (blk_lt (pK BK705.out)) : gb705 ≠ gb716)); have n8_ := Aside0.mk ((by rw [hg]; exact Nat.ne_of_gt (blk_lt (pK BK705.out)) : gb716 ≠ gb705)); clear HO710; clear HO715; clear BK705; clear HB; have HO710 := n0_; have HO715 := n1_; have BK705 := n2_; have HB := n3_; have BK716 := n4_; have GW716 := n5_; have GE716 := n6_; have NB705_716 := n7_; have NB716_705 := n8_; clear n0_ n1_ n2_ n3_ n4_ n5_ n6_ n7_ n8_; clear hb hbox hg; have hnb39 := NB716_705.out; have hnc39 := NB705_716.out; have hcz40_0 : w38.cell? ⟨gb716, 0, none⟩ = some (.int .i64 0) := (blk_cell BK716.out 0).trans rfl; have hcz40_1 : w38.cell? ⟨gb716, 1, none⟩ = some (.slice none 0 0) := (blk_cell BK716.out 1).trans rfl; have hfz40_0 := blk_frozen BK716.out 0; have hfz40_1 := blk_frozen BK716.out 1; obtain ⟨Ao41, co41, eo41⟩ := Kd.R_slice HO715.out; subst eo41) | ((with_reducible refine gate_callee (f := 28) rfl ?_); refine goesL_ (some 18) rfl rfl Try.func28 (by kernel_rfl) rfl #[.agg #[.int .i64 t712, .slice Ao41 t713.length co41]] rfl bM ?_; (with_reducible refine (impl_SynVoterOk.calls k t712 _ _ t713 t717 _ ?side1 ?side2 A10.out).mono ?_); (case side1 => refine (Kd.R_reads' (e := 64) (base := w.heap.size) (ok := fun k_ => (True ∧ some k_ ≠ (.slice Ao34 t708.length co34 : Value).ownBlock)) (n := t713.length) (c := co41) ?_).2.2; exact (pR (Kd.R_mono (Kd.R_far (p := ⟨gb716, 1, none⟩) (Kd.R_far (p := ⟨gb716, 0, none⟩) (Kd.R_types HO715.out BK716.out (by decide)) (fun _ hk => hk.2) (.int .i64 t712)) (fun _ hk => hk.2) (.slice Ao41 t713.length co41)) (fun _ h_ => h_.1)))); (case side2 => exact (Kd.R_reads' HO715.out).2.1); rintro e w42 ⟨rfl, hb⟩; refine ⟨_, rfl, ?_⟩; have n0_ := Aside0.mk (Kd.R_below (pR (Kd.R_mono (Kd.R_far (p := ⟨gb716, 1, none⟩) (Kd.R_far (p := ⟨gb716, 0, none⟩) (Kd.R_types HO710.out BK716.out (by decide)) (fun _ hk => hk.2) (.int .i64 t712)) (fun _ hk => hk.2) (.slice Ao41 t713.length co41)) (fun _ h_ => h_.1))) hb); have n1_ := Aside0.mk (Kd.R_below (pR (Kd.R_mono (Kd.R_far (p := ⟨gb716, 1, none⟩) (Kd.R_far (p := ⟨gb716, 0, none⟩) (Kd.R_types HO715.out BK716.out (by decide)) (fun _ hk => hk.2) (.int .i64 t712)) (fun _ hk => hk.2) (.slice Ao41 t713.length co41)) (fun _ h_ => h_.1))) hb); have n2_ := Aside0.mk (blk_below (g := gb705) (o := .cells #[.int .i64 a0_0, .slice A0_1 l0_1.length c0_1] 47 (0, 0)) (by (with_reducible repeat (first | refine blk_drewN ?_ _ | refine blk_drew ?_ | refine blk_alloc ?_ _)); refine blk_far ?_ NB705_716.out _; (with_reducible repeat (first | refine blk_drewN ?_ _ | refine blk_drew ?_ | refine blk_alloc ?_ _)); refine blk_far ?_ NB705_716.out _; (with_reducible repeat (first | refine blk_drewN ?_ _ | refine blk_drew ?_ | refine blk_alloc ?_ _)); exact BK705.out) hb); have n3_ := Aside0.mk (blk_below (g := gb716) (o := .cells #[.int .i64 t712, .slice Ao41 t713.length co41] 52 (0, 0)) (by (with_reducible repeat (first | refine blk_drewN ?_ _ | refine blk_drew ?_ | refine blk_alloc ?_ _)); refine blk_put (cs := #[.int .i64 t712, .slice none 0 0]) ?_ 1 _ rfl; (with_reducible repeat (first | refine blk_drewN ?_ _ | refine blk_drew ?_ | refine blk_alloc ?_ _)); refine blk_put (cs := #[.int .i64 0, .slice none 0 0]) ?_ 0 _ rfl; (with_reducible repeat (first | refine blk_drewN ?_ _ | refine blk_drew ?_ | refine blk_alloc ?_ _)); exact BK716.out) hb); have n4_ := Aside0.mk (below_step (pS HB.out) hb); clear HO710; clear HO715; clear BK705; clear BK716; clear HB; have HO710 := n0_; have HO715 := n1_; have BK705 := n2_; have BK716 := n3_; have HB := n4_; clear n0_ n1_ n2_ n3_ n4_; (try clear hb); (try clear hb2); (try clear hk); (try clear hi)))
    have n0_ := Aside0.mk (Kd.R_drew HO710.out)
    have n1_ := Aside0.mk (Kd.R_drew HO715.out)
    have n2_ := Aside0.mk (blk_drew BK705.out)
    have n3_ := Aside0.mk (blk_drew BK716.out)
    have n4_ := Aside0.mk (below_drew1 HB.out)
    clear HO710
    clear HO715
    clear BK705
    clear BK716
    clear HB
    have HO710 := n0_
    have HO715 := n1_
    have BK705 := n2_
    have BK716 := n3_
    have HB := n4_
    clear n0_ n1_ n2_ n3_ n4_
    refine start_ (n := 5) (S := fun w' => w'.cell? ⟨gb716, 0, none⟩ = some (.int .i64 t712) ∧ w'.cell? ⟨gb716, 1, none⟩ = some (.slice Ao41 t713.length co41) ∧ w'.cell? ⟨gb705, 0, none⟩ = some (.int .i64 a0_0) ∧ w'.cell? ⟨gb705, 1, none⟩ = some (.slice A0_1 l0_1.length c0_1)) (ds := []) #[false, false, false, false, false] (by kernel_rfl) rfl rfl ⟨(blk_cell BK716.out 0).trans rfl, (blk_cell BK716.out 1).trans rfl, (blk_cell BK705.out 0).trans rfl, (blk_cell BK705.out 1).trans rfl⟩ (fun hHeld => ?_)
    generalize w42.drew = w43 at HO710 HO715 BK705 BK716 HB hHeld ⊢
    refine take_ (i := 0) (N := some 22) (v := ?_) (a' := ?_) #[true, false, false, false, false] rfl rfl (by kernel_rfl) (fun _ _ _ h => h) (Or.inl ⟨by rfl, ?_⟩) hHeld ?_ ?_
    rotate_left
    ·rintro w' ⟨s0, s1, s2, s3⟩
     go_simp
     with_reducible rfl
    rotate_left
    ·simp only [Act.put, List.setIfInBounds_toArray, List.set_cons_zero, List.set_cons_succ, i64_w, i32_w]
     rfl
    refine take_ (i := 1) (N := some 23) (v := ?_) (a' := ?_) #[true, true, false, false, false] rfl rfl (by kernel_rfl) (fun _ _ _ h => h) (Or.inl ⟨by rfl, ?_⟩) hHeld ?_ ?_
    rotate_left
    ·rintro w' ⟨s0, s1, s2, s3⟩
     go_simp
     with_reducible rfl
    rotate_left
    ·simp only [Act.put, List.setIfInBounds_toArray, List.set_cons_zero, List.set_cons_succ, i64_w, i32_w]
     rfl
    refine one_ (i := 2) (N := some 24) #[true, true, true, false, false] rfl rfl (by kernel_rfl) (by decide) (fun K hK => ?_)
    refine goes_ Try.func27 (by kernel_rfl) rfl #[.agg #[.int .i64 a0_0, .slice A0_1 l0_1.length c0_1]] (by rfl) rfl rfl bM ?_
    with_reducible refine (laws_toSynVoter.calls k a0_0 _ _ l0_1 t718 t719 _ ?side1 ?side2 A26.out).mono ?_
    (case side1 => exact pC (Kd.C_below HR0_1.out HB.out))
    (case side2 => exact HC0_1.out)
    rintro e w44 ⟨v720, rfl, ho0, hb⟩
    refine ⟨_, rfl, ?_⟩
    have n0_ := Aside0.mk (Kd.R_elder' (pR HO710.out) (Kd.R_base ho0) hb)
    have n1_ := Aside0.mk (Kd.R_elder' (pR HO715.out) (Kd.R_base ho0) hb)
    have n2_ := Aside0.mk (Kd.R_lower (Kd.R_new' (Kd.R_new' ho0 (Kd.R_lt (pR HO710.out))) (Kd.R_lt (pR HO715.out))) (below_size (pS HB.out)))
    have n3_ := Aside0.mk (blk_below (pK BK705.out) hb)
    have n4_ := Aside0.mk (blk_below (pK BK716.out) hb)
    have n5_ := Aside0.mk (below_step (pS HB.out) hb)
    clear HO710
    clear HO715
    clear BK705
    clear BK716
    clear HB
    have HO710 := n0_
    have HO715 := n1_
    have HO721 := n2_
    have BK705 := n3_
    have BK716 := n4_
    have HB := n5_
    clear n0_ n1_ n2_ n3_ n4_ n5_
    (try clear hb)
    (try clear hb2)
    (try clear hk)
    (try clear hi)
    (try clear ho0)
    obtain ⟨Ao45, co45, eo45⟩ := Kd.R_slice HO721.out
    (first | subst eo45 | (injection eo45 with f1_ f2_ f3_; have f4_ := f1_.symm; have f5_ := f3_.symm; clear f1_ f2_ f3_; subst f4_; subst f5_))
    refine hK.out _ _ ⟨(blk_cell BK716.out 0).trans rfl, (blk_cell BK716.out 1).trans rfl, (blk_cell BK705.out 0).trans rfl, (blk_cell BK705.out 1).trans rfl⟩ (fun hHeld => ?_)
    clear hK K
    refine norm_ (a' := ?_) ?_ ?_
    rotate_left
    ·show Act.put _ (some 24) _ = _
     simp only [Act.put, List.setIfInBounds_toArray, List.set_cons_zero, List.set_cons_succ, i64_w, i32_w]
     rfl
    refine one_ (i := 3) (N := some 25) #[true, true, true, true, false] rfl rfl (by kernel_rfl) (by decide) (fun K hK => ?_)
    refine goes_ Try.func29 (by kernel_rfl) rfl #[.agg #[.int .i64 t712, .slice Ao41 t713.length co41], .agg #[.int .i64 t718, .slice Ao45 t719.length co45]] (by rfl) rfl rfl bM ?_
    with_reducible refine (laws_eqSynVoter.calls k t712 _ _ t713 t718 _ _ t719 true _ ?side1 ?side2 ?side3 ?side4 A27.out).mono ?_
    (case side1 => exact pC (Kd.R_reads' HO715.out).2.2)
    (case side2 => exact (Kd.R_reads' HO715.out).2.1)
    (case side3 => exact pC (Kd.R_reads' HO721.out).2.2)
    (case side4 => exact (Kd.R_reads' HO721.out).2.1)
    rintro e w46 ⟨rfl, hb⟩
    refine ⟨_, rfl, ?_⟩
    have n0_ := Aside0.mk (Kd.R_below (pR HO710.out) hb)
    have n1_ := Aside0.mk (Kd.R_below (pR HO715.out) hb)
    have n2_ := Aside0.mk (Kd.R_below (pR HO721.out) hb)
    have n3_ := Aside0.mk (blk_below (pK BK705.out) hb)
    have n4_ := Aside0.mk (blk_below (pK BK716.out) hb)
    have n5_ := Aside0.mk (below_step (pS HB.out) hb)
    clear HO710
    clear HO715
    clear HO721
    clear BK705
    clear BK716
    clear HB
    have HO710 := n0_
    have HO715 := n1_
    have HO721 := n2_
    have BK705 := n3_
    have BK716 := n4_
    have HB := n5_
    clear n0_ n1_ n2_ n3_ n4_ n5_
    (try clear hb)
    (try clear hb2)
    (try clear hk)
    (try clear hi)
    refine hK.out _ _ ⟨(blk_cell BK716.out 0).trans rfl, (blk_cell BK716.out 1).trans rfl, (blk_cell BK705.out 0).trans rfl, (blk_cell BK705.out 1).trans rfl⟩ (fun hHeld => ?_)
    clear hK K
    refine norm_ (a' := ?_) ?_ ?_
    rotate_left
    ·show Act.put _ (some 25) _ = _
     simp only [Act.put, List.setIfInBounds_toArray, List.set_cons_zero, List.set_cons_succ, i64_w, i32_w]
     rfl
    refine pure_ (i := 4) (N := some 26) (v := ?_) (a' := ?_) #[true, true, true, true, true] rfl rfl (by kernel_rfl) (fun _ _ _ h => h) (Or.inl ⟨by rfl, ?_⟩) ?_ ?_
    rotate_left
    ·intro w'
     go_simp
     with_reducible rfl
    rotate_left
    ·simp only [Act.put, List.setIfInBounds_toArray, List.set_cons_zero, List.set_cons_succ, i64_w, i32_w]
     rfl
    refine done_ (by kernel_rfl) ?_
    try go_wp2
    go_ret
    exact ⟨by first | rfl | (simp [errW_none, errW_some] <;> rfl) | (simp [*, errW_none, errW_some] <;> rfl), pS HB.out⟩
   ·replace c28 := Bool.eq_false_iff.mpr c28
    subst c28
    have H1 : (some false) = some r := by rw [if_neg (show ¬ (false = true) by decide)] at H; exact H
    clear H
    have H := H1
    clear H1
    obtain rfl := Option.some.inj H
    go_enter Try.func6, Try.ntmps6
    try go_wp2_with (first | ((with_reducible refine gate_dst (N := 1) rfl ?_); refine box_event ?hg (N := 1) ?hd (cs := #[.int .i64 a0_0, .slice A0_1 l0_1.length c0_1]) (t := 47) ?hr ?_; (case hd => rfl); (case hg => rfl); (case hr => first | (go_simp; done) | (go_simp; rfl)); intro gb705 hg w47 hbox hb; have n0_ := Aside0.mk (below_step (pB HB.out) hb); have n1_ := Aside0.mk (hbox); have n2_ := Aside0.mk ((by rw [hg]; exact (below_size (pB HB.out)) : w.heap.size ≤ gb705)); have n3_ := Aside0.mk ((by rw [hg]; exact (below_size (pB HB.out)) : w.heap.size ≤ gb705)); clear HB; have HB := n0_; have BK705 := n1_; have GW705 := n2_; have GE705 := n3_; clear n0_ n1_ n2_ n3_; clear hb hbox hg; have hcz48_0 : w47.cell? ⟨gb705, 0, none⟩ = some (.int .i64 a0_0) := (blk_cell BK705.out 0).trans rfl; have hcz48_1 : w47.cell? ⟨gb705, 1, none⟩ = some (.slice A0_1 l0_1.length c0_1) := (blk_cell BK705.out 1).trans rfl; have hfz48_0 := blk_frozen BK705.out 0; have hfz48_1 := blk_frozen BK705.out 1) | ((with_reducible refine gate_callee (f := 25) rfl ?_); refine goesL_ (some 9) rfl rfl Try.func25 (by kernel_rfl) rfl #[.agg #[.int .i64 a0_0, .slice A0_1 l0_1.length c0_1], .int .i64 1048576] rfl bM ?_; (with_reducible refine (laws_szSynVoter.calls a0_0 _ _ l0_1 1048576 t706 _ ?side1 ?side2 A2.out).mono ?_); (case side1 => exact pC (Kd.C_below HR0_1.out HB.out)); (case side2 => exact HC0_1.out); rintro e w49 ⟨rfl, hb⟩; refine ⟨_, rfl, ?_⟩; have n0_ := Aside0.mk (blk_below (pK BK705.out) hb); have n1_ := Aside0.mk (below_step (pS HB.out) hb); clear BK705; clear HB; have BK705 := n0_; have HB := n1_; clear n0_ n1_; (try clear hb); (try clear hb2); (try clear hk); (try clear hi); have hcz50_0 : w49.cell? ⟨gb705, 0, none⟩ = some (.int .i64 a0_0) := (blk_cell BK705.out 0).trans rfl; have hcz50_1 : w49.cell? ⟨gb705, 1, none⟩ = some (.slice A0_1 l0_1.length c0_1) := (blk_cell BK705.out 1).trans rfl; have hfz50_0 := blk_frozen BK705.out 0; have hfz50_1 := blk_frozen BK705.out 1) | ((with_reducible refine gate_callee (f := 27) rfl ?_); refine goesL_ (some 13) rfl rfl Try.func27 (by kernel_rfl) rfl #[.agg #[.int .i64 a0_0, .slice A0_1 l0_1.length c0_1]] rfl bM ?_; (with_reducible refine (laws_toSynVoter.calls k a0_0 _ _ l0_1 t707 t708 _ ?side1 ?side2 A7.out).mono ?_); (case side1 => exact pC (Kd.C_below HR0_1.out HB.out)); (case side2 => exact HC0_1.out); rintro e w51 ⟨v709, rfl, ho0, hb⟩; refine ⟨_, rfl, ?_⟩; have n0_ := Aside0.mk (Kd.R_lower ho0 (below_size (pS HB.out))); have n1_ := Aside0.mk (blk_below (pK BK705.out) hb); have n2_ := Aside0.mk (below_step (pS HB.out) hb); clear BK705; clear HB; have HO710 := n0_; have BK705 := n1_; have HB := n2_; clear n0_ n1_ n2_; (try clear hb); (try clear hb2); (try clear hk); (try clear hi); (try clear ho0); obtain ⟨Ao52, co52, eo52⟩ := Kd.R_slice HO710.out; subst eo52) | ((with_reducible refine gate_callee (f := 26) rfl ?_); refine goesL_ (some 14) rfl rfl Try.func26 (by kernel_rfl) rfl #[.agg #[.int .i64 t707, .slice Ao52 t708.length co52]] rfl bM ?_; (with_reducible refine (spec_SynVoterOk.calls k t707 _ _ t708 t711 _ ?side1 ?side2 A8.out).mono ?_); (case side1 => exact pC (Kd.R_reads' HO710.out).2.2); (case side2 => exact (Kd.R_reads' HO710.out).2.1); rintro e w53 ⟨rfl, hb⟩; refine ⟨_, rfl, ?_⟩; have n0_ := Aside0.mk (Kd.R_below (pR HO710.out) hb); have n1_ := Aside0.mk (blk_below (pK BK705.out) hb); have n2_ := Aside0.mk (below_step (pS HB.out) hb); clear HO710; clear BK705; clear HB; have HO710 := n0_; have BK705 := n1_; have HB := n2_; clear n0_ n1_ n2_; (try clear hb); (try clear hb2); (try clear hk); (try clear hi); have hcz54_0 : w53.cell? ⟨gb705, 0, none⟩ = some (.int .i64 a0_0) := (blk_cell BK705.out 0).trans rfl; have hcz54_1 : w53.cell? ⟨gb705, 1, none⟩ = some (.slice A0_1 l0_1.length c0_1) := (blk_cell BK705.out 1).trans rfl; have hfz54_0 := blk_frozen BK705.out 0; have hfz54_1 := blk_frozen BK705.out 1) | ((with_reducible refine gate_callee (f := 27) rfl ?_); refine goesL_ (some 16) rfl rfl Try.func27 (by kernel_rfl) rfl #[.agg #[.int .i64 a0_0, .slice A0_1 l0_1.length c0_1]] rfl bM ?_; (with_reducible refine (laws_toSynVoter.calls k a0_0 _ _ l0_1 t712 t713 _ ?side1 ?side2 A9.out).mono ?_); (case side1 => exact pC (Kd.C_below HR0_1.out HB.out)); (case side2 => exact HC0_1.out); rintro e w55 ⟨v714, rfl, ho0, hb⟩; refine ⟨_, rfl, ?_⟩; have n0_ := Aside0.mk (Kd.R_elder' (pR HO710.out) (Kd.R_base ho0) hb); have n1_ := Aside0.mk (Kd.R_lower (Kd.R_new' ho0 (Kd.R_lt (pR HO710.out))) (below_size (pS HB.out))); have n2_ := Aside0.mk (blk_below (pK BK705.out) hb); have n3_ := Aside0.mk (below_step (pS HB.out) hb); clear HO710; clear BK705; clear HB; have HO710 := n0_; have HO715 := n1_; have BK705 := n2_; have HB := n3_; clear n0_ n1_ n2_ n3_; (try clear hb); (try clear hb2); (try clear hk); (try clear hi); (try clear ho0)) | ((with_reducible refine gate_dst (N := 5) rfl ?_); refine box_event ?hg (N := 5) ?hd (cs := #[.int .i64 0, .slice none 0 0]) (t := 52) ?hr ?_; (case hd => rfl); (case hg => rfl); (case hr => first | (go_simp; done) | (go_simp; rfl)); intro gb716 hg w56 hbox hb; have n0_ := Aside0.mk (Kd.R_below (pR HO710.out) hb); have n1_ := Aside0.mk (Kd.R_below (pR HO715.out) hb); have n2_ := Aside0.mk (blk_below (pK BK705.out) hb); have n3_ := Aside0.mk (below_step (pS HB.out) hb); have n4_ := Aside0.mk (hbox); have n5_ := Aside0.mk ((by rw [hg]; exact (below_size (pS HB.out)) : w.heap.size ≤ gb716)); have n6_ := Aside0.mk ((by rw [hg]; exact (below_size (pS HB.out)) : w.heap.size ≤ gb716)); have n7_ := Aside0.mk ((by rw [hg]; exact Nat.ne_of_lt (blk_lt (pK BK705.out)) : gb705 ≠ gb716)); have n8_ := Aside0.mk ((by rw [hg]; exact Nat.ne_of_gt (blk_lt (pK BK705.out)) : gb716 ≠ gb705)); clear HO710; clear HO715; clear BK705; clear HB; have HO710 := n0_; have HO715 := n1_; have BK705 := n2_; have HB := n3_; have BK716 := n4_; have GW716 := n5_; have GE716 := n6_; have NB705_716 := n7_; have NB716_705 := n8_; clear n0_ n1_ n2_ n3_ n4_ n5_ n6_ n7_ n8_; clear hb hbox hg; have hnb57 := NB716_705.out; have hnc57 := NB705_716.out; have hcz58_0 : w56.cell? ⟨gb716, 0, none⟩ = some (.int .i64 0) := (blk_cell BK716.out 0).trans rfl; have hcz58_1 : w56.cell? ⟨gb716, 1, none⟩ = some (.slice none 0 0) := (blk_cell BK716.out 1).trans rfl; have hfz58_0 := blk_frozen BK716.out 0; have hfz58_1 := blk_frozen BK716.out 1; obtain ⟨Ao59, co59, eo59⟩ := Kd.R_slice HO715.out; subst eo59) | ((with_reducible refine gate_callee (f := 28) rfl ?_); refine goesL_ (some 18) rfl rfl Try.func28 (by kernel_rfl) rfl #[.agg #[.int .i64 t712, .slice Ao59 t713.length co59]] rfl bM ?_; (with_reducible refine (impl_SynVoterOk.calls k t712 _ _ t713 t717 _ ?side1 ?side2 A10.out).mono ?_); (case side1 => refine (Kd.R_reads' (e := 64) (base := w.heap.size) (ok := fun k_ => (True ∧ some k_ ≠ (.slice Ao52 t708.length co52 : Value).ownBlock)) (n := t713.length) (c := co59) ?_).2.2; exact (pR (Kd.R_mono (Kd.R_far (p := ⟨gb716, 1, none⟩) (Kd.R_far (p := ⟨gb716, 0, none⟩) (Kd.R_types HO715.out BK716.out (by decide)) (fun _ hk => hk.2) (.int .i64 t712)) (fun _ hk => hk.2) (.slice Ao59 t713.length co59)) (fun _ h_ => h_.1)))); (case side2 => exact (Kd.R_reads' HO715.out).2.1); rintro e w60 ⟨rfl, hb⟩; refine ⟨_, rfl, ?_⟩; have n0_ := Aside0.mk (Kd.R_below (pR (Kd.R_mono (Kd.R_far (p := ⟨gb716, 1, none⟩) (Kd.R_far (p := ⟨gb716, 0, none⟩) (Kd.R_types HO710.out BK716.out (by decide)) (fun _ hk => hk.2) (.int .i64 t712)) (fun _ hk => hk.2) (.slice Ao59 t713.length co59)) (fun _ h_ => h_.1))) hb); have n1_ := Aside0.mk (Kd.R_below (pR (Kd.R_mono (Kd.R_far (p := ⟨gb716, 1, none⟩) (Kd.R_far (p := ⟨gb716, 0, none⟩) (Kd.R_types HO715.out BK716.out (by decide)) (fun _ hk => hk.2) (.int .i64 t712)) (fun _ hk => hk.2) (.slice Ao59 t713.length co59)) (fun _ h_ => h_.1))) hb); have n2_ := Aside0.mk (blk_below (g := gb705) (o := .cells #[.int .i64 a0_0, .slice A0_1 l0_1.length c0_1] 47 (0, 0)) (by (with_reducible repeat (first | refine blk_drewN ?_ _ | refine blk_drew ?_ | refine blk_alloc ?_ _)); refine blk_far ?_ NB705_716.out _; (with_reducible repeat (first | refine blk_drewN ?_ _ | refine blk_drew ?_ | refine blk_alloc ?_ _)); refine blk_far ?_ NB705_716.out _; (with_reducible repeat (first | refine blk_drewN ?_ _ | refine blk_drew ?_ | refine blk_alloc ?_ _)); exact BK705.out) hb); have n3_ := Aside0.mk (blk_below (g := gb716) (o := .cells #[.int .i64 t712, .slice Ao59 t713.length co59] 52 (0, 0)) (by (with_reducible repeat (first | refine blk_drewN ?_ _ | refine blk_drew ?_ | refine blk_alloc ?_ _)); refine blk_put (cs := #[.int .i64 t712, .slice none 0 0]) ?_ 1 _ rfl; (with_reducible repeat (first | refine blk_drewN ?_ _ | refine blk_drew ?_ | refine blk_alloc ?_ _)); refine blk_put (cs := #[.int .i64 0, .slice none 0 0]) ?_ 0 _ rfl; (with_reducible repeat (first | refine blk_drewN ?_ _ | refine blk_drew ?_ | refine blk_alloc ?_ _)); exact BK716.out) hb); have n4_ := Aside0.mk (below_step (pS HB.out) hb); clear HO710; clear HO715; clear BK705; clear BK716; clear HB; have HO710 := n0_; have HO715 := n1_; have BK705 := n2_; have BK716 := n3_; have HB := n4_; clear n0_ n1_ n2_ n3_ n4_; (try clear hb); (try clear hb2); (try clear hk); (try clear hi)))
    have n0_ := Aside0.mk (Kd.R_drew HO710.out)
    have n1_ := Aside0.mk (Kd.R_drew HO715.out)
    have n2_ := Aside0.mk (blk_drew BK705.out)
    have n3_ := Aside0.mk (blk_drew BK716.out)
    have n4_ := Aside0.mk (below_drew1 HB.out)
    clear HO710
    clear HO715
    clear BK705
    clear BK716
    clear HB
    have HO710 := n0_
    have HO715 := n1_
    have BK705 := n2_
    have BK716 := n3_
    have HB := n4_
    clear n0_ n1_ n2_ n3_ n4_
    refine start_ (n := 5) (S := fun w' => w'.cell? ⟨gb716, 0, none⟩ = some (.int .i64 t712) ∧ w'.cell? ⟨gb716, 1, none⟩ = some (.slice Ao59 t713.length co59) ∧ w'.cell? ⟨gb705, 0, none⟩ = some (.int .i64 a0_0) ∧ w'.cell? ⟨gb705, 1, none⟩ = some (.slice A0_1 l0_1.length c0_1)) (ds := []) #[false, false, false, false, false] (by kernel_rfl) rfl rfl ⟨(blk_cell BK716.out 0).trans rfl, (blk_cell BK716.out 1).trans rfl, (blk_cell BK705.out 0).trans rfl, (blk_cell BK705.out 1).trans rfl⟩ (fun hHeld => ?_)
    generalize w60.drew = w61 at HO710 HO715 BK705 BK716 HB hHeld ⊢
    refine take_ (i := 0) (N := some 22) (v := ?_) (a' := ?_) #[true, false, false, false, false] rfl rfl (by kernel_rfl) (fun _ _ _ h => h) (Or.inl ⟨by rfl, ?_⟩) hHeld ?_ ?_
    rotate_left
    ·rintro w' ⟨s0, s1, s2, s3⟩
     go_simp
     with_reducible rfl
    rotate_left
    ·simp only [Act.put, List.setIfInBounds_toArray, List.set_cons_zero, List.set_cons_succ, i64_w, i32_w]
     rfl
    refine take_ (i := 1) (N := some 23) (v := ?_) (a' := ?_) #[true, true, false, false, false] rfl rfl (by kernel_rfl) (fun _ _ _ h => h) (Or.inl ⟨by rfl, ?_⟩) hHeld ?_ ?_
    rotate_left
    ·rintro w' ⟨s0, s1, s2, s3⟩
     go_simp
     with_reducible rfl
    rotate_left
    ·simp only [Act.put, List.setIfInBounds_toArray, List.set_cons_zero, List.set_cons_succ, i64_w, i32_w]
     rfl
    refine one_ (i := 2) (N := some 24) #[true, true, true, false, false] rfl rfl (by kernel_rfl) (by decide) (fun K hK => ?_)
    refine goes_ Try.func27 (by kernel_rfl) rfl #[.agg #[.int .i64 a0_0, .slice A0_1 l0_1.length c0_1]] (by rfl) rfl rfl bM ?_
    with_reducible refine (laws_toSynVoter.calls k a0_0 _ _ l0_1 t718 t719 _ ?side1 ?side2 A26.out).mono ?_
    (case side1 => exact pC (Kd.C_below HR0_1.out HB.out))
    (case side2 => exact HC0_1.out)
    rintro e w62 ⟨v720, rfl, ho0, hb⟩
    refine ⟨_, rfl, ?_⟩
    have n0_ := Aside0.mk (Kd.R_elder' (pR HO710.out) (Kd.R_base ho0) hb)
    have n1_ := Aside0.mk (Kd.R_elder' (pR HO715.out) (Kd.R_base ho0) hb)
    have n2_ := Aside0.mk (Kd.R_lower (Kd.R_new' (Kd.R_new' ho0 (Kd.R_lt (pR HO710.out))) (Kd.R_lt (pR HO715.out))) (below_size (pS HB.out)))
    have n3_ := Aside0.mk (blk_below (pK BK705.out) hb)
    have n4_ := Aside0.mk (blk_below (pK BK716.out) hb)
    have n5_ := Aside0.mk (below_step (pS HB.out) hb)
    clear HO710
    clear HO715
    clear BK705
    clear BK716
    clear HB
    have HO710 := n0_
    have HO715 := n1_
    have HO721 := n2_
    have BK705 := n3_
    have BK716 := n4_
    have HB := n5_
    clear n0_ n1_ n2_ n3_ n4_ n5_
    (try clear hb)
    (try clear hb2)
    (try clear hk)
    (try clear hi)
    (try clear ho0)
    obtain ⟨Ao63, co63, eo63⟩ := Kd.R_slice HO721.out
    (first | subst eo63 | (injection eo63 with f1_ f2_ f3_; have f4_ := f1_.symm; have f5_ := f3_.symm; clear f1_ f2_ f3_; subst f4_; subst f5_))
    refine hK.out _ _ ⟨(blk_cell BK716.out 0).trans rfl, (blk_cell BK716.out 1).trans rfl, (blk_cell BK705.out 0).trans rfl, (blk_cell BK705.out 1).trans rfl⟩ (fun hHeld => ?_)
    clear hK K
    refine norm_ (a' := ?_) ?_ ?_
    rotate_left
    ·show Act.put _ (some 24) _ = _
     simp only [Act.put, List.setIfInBounds_toArray, List.set_cons_zero, List.set_cons_succ, i64_w, i32_w]
     rfl
    refine one_ (i := 3) (N := some 25) #[true, true, true, true, false] rfl rfl (by kernel_rfl) (by decide) (fun K hK => ?_)
    refine goes_ Try.func29 (by kernel_rfl) rfl #[.agg #[.int .i64 t712, .slice Ao59 t713.length co59], .agg #[.int .i64 t718, .slice Ao63 t719.length co63]] (by rfl) rfl rfl bM ?_
    with_reducible refine (laws_eqSynVoter.calls k t712 _ _ t713 t718 _ _ t719 false _ ?side1 ?side2 ?side3 ?side4 A27.out).mono ?_
    (case side1 => exact pC (Kd.R_reads' HO715.out).2.2)
    (case side2 => exact (Kd.R_reads' HO715.out).2.1)
    (case side3 => exact pC (Kd.R_reads' HO721.out).2.2)
    (case side4 => exact (Kd.R_reads' HO721.out).2.1)
    rintro e w64 ⟨rfl, hb⟩
    refine ⟨_, rfl, ?_⟩
    have n0_ := Aside0.mk (Kd.R_below (pR HO710.out) hb)
    have n1_ := Aside0.mk (Kd.R_below (pR HO715.out) hb)
    have n2_ := Aside0.mk (Kd.R_below (pR HO721.out) hb)
    have n3_ := Aside0.mk (blk_below (pK BK705.out) hb)
    have n4_ := Aside0.mk (blk_below (pK BK716.out) hb)
    have n5_ := Aside0.mk (below_step (pS HB.out) hb)
    clear HO710
    clear HO715
    clear HO721
    clear BK705
    clear BK716
    clear HB
    have HO710 := n0_
    have HO715 := n1_
    have HO721 := n2_
    have BK705 := n3_
    have BK716 := n4_
    have HB := n5_
    clear n0_ n1_ n2_ n3_ n4_ n5_
    (try clear hb)
    (try clear hb2)
    (try clear hk)
    (try clear hi)
    refine hK.out _ _ ⟨(blk_cell BK716.out 0).trans rfl, (blk_cell BK716.out 1).trans rfl, (blk_cell BK705.out 0).trans rfl, (blk_cell BK705.out 1).trans rfl⟩ (fun hHeld => ?_)
    clear hK K
    refine norm_ (a' := ?_) ?_ ?_
    rotate_left
    ·show Act.put _ (some 25) _ = _
     simp only [Act.put, List.setIfInBounds_toArray, List.set_cons_zero, List.set_cons_succ, i64_w, i32_w]
     rfl
    refine pure_ (i := 4) (N := some 26) (v := ?_) (a' := ?_) #[true, true, true, true, true] rfl rfl (by kernel_rfl) (fun _ _ _ h => h) (Or.inl ⟨by rfl, ?_⟩) ?_ ?_
    rotate_left
    ·intro w'
     go_simp
     with_reducible rfl
    rotate_left
    ·simp only [Act.put, List.setIfInBounds_toArray, List.set_cons_zero, List.set_cons_succ, i64_w, i32_w]
     rfl
    refine done_ (by kernel_rfl) ?_
    try go_wp2
    go_ret
    exact ⟨by first | rfl | (simp [errW_none, errW_some] <;> rfl) | (simp [*, errW_none, errW_some] <;> rfl), pS HB.out⟩

/-- THE ONE PURE STATEMENT of laws_FnExactSynVoterOk. -/
def laws_FnExactSynVoterOk.Pure : Prop := ∀ (a0_0 : Int) (l0_1 : List (S57)), wf47 (⟨a0_0, l0_1⟩ : S47) → ∃ k, laws_FnExactSynVoterOk.f k a0_0 l0_1 = some true
theorem laws_FnExactSynVoterOk.walk (P : laws_FnExactSynVoterOk.Pure) (a0_0 : Int) (A0_1 : Option Addr) (c0_1 : Nat) (l0_1 : List (S57)) (w : World) (hw0 : wf47 (⟨a0_0, l0_1⟩ : S47)) (hr0_1 : Kd.C k57 w A0_1 l0_1.length l0_1) (hc0_1 : l0_1.length ≤ c0_1) :
  Calls Try.prog 6 #[.agg #[.int .i64 a0_0, .slice A0_1 l0_1.length c0_1]] w fun e w' => e = .returned (.bool true) ∧ Below w.heap.size w w' := by
 obtain ⟨k, h⟩ := P a0_0 l0_1 hw0
 refine (laws_FnExactSynVoterOk.calls k a0_0 A0_1 c0_1 l0_1 true w hr0_1 hc0_1 h).mono ?_
 rintro e w' ⟨rfl, hd⟩
 exact ⟨rfl, hd⟩

end Go.Proofs.Ytoieojmfkkidnaa.P
