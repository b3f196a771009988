-- printed by pprint.py (this session's program over the kit's printer) out of the translation. Lean checks it.
import Derived.Test.YthkdhcaojhbfoaaPx0
import Derived.Test.YthkdhcaojhbfoaaPx3
import Derived.Test.YthkdhcaojhbfoaaPx10
import Derived.Test.YthkdhcaojhbfoaaPx13
import Derived.Test.YthkdhcaojhbfoaaPx14
import Derived.Test.YthkdhcaojhbfoaaPx15
import Derived.Test.YthkdhcaojhbfoaaPx19
namespace Go.Proofs.Ythkdhcaojhbfoaa.P
open Go.RowKit Go.Proofs.YthkdhcaojhbfoaaX Go.Proofs.YthkdhcaojhbfoaaW.PrintWords Go.Proofs.YthkdhcaojhbfoaaW.PrintLast Go.Proofs.YthkdhcaojhbfoaaW.PrintMore
attribute [local go_sem] max2_int min2_int max_two min_two max_three min_three max_four min_four   -- for this text's walks alone
set_option linter.unusedVariables false
set_option linter.unusedSimpArgs false

/-! ### laws_FnSecPut: function 9 -/
mutual
def laws_FnSecPut.j0 : Nat → Int → ByteArray → Bool → Bool → Bool → List ByteArray → List (S54) → List ByteArray → List (S54) → Option (Bool)
 | 0, _, _, _, _, _, _, _, _, _ => none
 | k + 1, x4, x5, x8, x10, x45, x596000, x596001, x613000, x613001 => if x45 = true then (some false) else (if x10 = true then (laws_FnSecPut.l0 k x4 x5 0 x596000 x596001 x613000 x613001) else (if x8 = true then ((laws_lpSec.f k x613000 x613001 x596000 x596001).bind fun t614 => (some t614)) else (if (x613000.length : Int) = 0 then (some true) else (some false))))
def laws_FnSecPut.l0 : Nat → Int → ByteArray → Int → List ByteArray → List (S54) → List ByteArray → List (S54) → Option (Bool)
 | 0, _, _, _, _, _, _, _ => none
 | k + 1, x4, x5, x11, x596000, x596001, x613000, x613001 => if x11 < (x596000.length : Int) then (if x11 = x4 then ((impl_SecLook.f k x613000 x613001 x11).bind fun t616 => (if t616.toList = x5.toList then (laws_FnSecPut.l0 k x4 x5 (wrap64 (x11 + 1)) x596000 x596001 x613000 x613001) else (some false))) else ((impl_SecLook.f k x613000 x613001 x11).bind fun t617 => ((impl_SecLook.f k x596000 x596001 x11).bind fun t618 => (if t617.toList = t618.toList then (laws_FnSecPut.l0 k x4 x5 (wrap64 (x11 + 1)) x596000 x596001 x613000 x613001) else (some false))))) else ((impl_SecOk.f k x613000 x613001).bind fun t615 => (some t615))
end
def laws_FnSecPut.f (k : Nat) (l0 : List Int) : Option (Bool) := if (l0.length : Int) > 1048576 then (some true) else ((spec_DrawSecPut.f k l0).bind fun bt587 => ((spec_SecPut.f k bt587.1 bt587.2.1 bt587.2.2.1 bt587.2.2.2).bind fun bt596 => ((spec_SecOk.f k bt587.1 bt587.2.1).bind fun t604 => ((impl_SecPut.f k bt587.1 bt587.2.1 bt587.2.2.1 bt587.2.2.2).bind fun bt605 => (if (bt605.2.2 != bt596.2.2) = true then (laws_FnSecPut.j0 k bt587.2.2.1 bt587.2.2.2 t604 bt605.2.2 true bt587.1 bt587.2.1 bt605.1 bt605.2.1) else ((laws_lpSec.f k bt605.1 bt605.2.1 bt596.1 bt596.2.1).bind fun t613 => (laws_FnSecPut.j0 k bt587.2.2.1 bt587.2.2.2 t604 bt605.2.2 (!t613) bt587.1 bt587.2.1 bt605.1 bt605.2.1)))))))
theorem laws_FnSecPut.mono_l : ∀ k, (∀ y0 y1 y2 y3 y4 y5 y6 y7 y8, LeO (laws_FnSecPut.j0 k y0 y1 y2 y3 y4 y5 y6 y7 y8) (laws_FnSecPut.j0 (k + 1) y0 y1 y2 y3 y4 y5 y6 y7 y8)) ∧ (∀ y0 y1 y2 y3 y4 y5 y6, LeO (laws_FnSecPut.l0 k y0 y1 y2 y3 y4 y5 y6) (laws_FnSecPut.l0 (k + 1) y0 y1 y2 y3 y4 y5 y6))
 | 0 => ⟨fun _ _ _ _ _ _ _ _ _ r h => by simp [laws_FnSecPut.j0] at h, fun _ _ _ _ _ _ _ r h => by simp [laws_FnSecPut.l0] at h⟩
 | k + 1 => by
  obtain ⟨ih0, ih1⟩ := laws_FnSecPut.mono_l k
  refine ⟨?_, ?_⟩
  ·intro y0 y1 y2 y3 y4 y5 y6 y7 y8
   unfold laws_FnSecPut.j0
   repeat' first
   | (with_reducible exact ih0 _ _ _ _ _ _ _ _ _)
   | (with_reducible exact ih1 _ _ _ _ _ _ _)
   | (with_reducible exact impl_SecLook.mono _ _ _ _)
   | (with_reducible exact impl_SecOk.mono _ _ _)
   | (with_reducible exact impl_SecPut.mono _ _ _ _ _)
   | (with_reducible exact laws_lpSec.mono _ _ _ _ _)
   | (with_reducible exact spec_DrawSecPut.mono _ _)
   | (with_reducible exact spec_SecOk.mono _ _ _)
   | (with_reducible exact spec_SecPut.mono _ _ _ _ _)
   | (with_reducible exact LeO.refl _)
   | (with_reducible exact LeO.none _)
   | (with_reducible refine LeO.ite ?_ ?_)
   | (with_reducible refine LeO.bind ?_ (fun _ => ?_))
   | exact ih0 _ _ _ _ _ _ _ _ _
   | exact ih1 _ _ _ _ _ _ _
   | exact impl_SecLook.mono _ _ _ _
   | exact impl_SecOk.mono _ _ _
   | exact impl_SecPut.mono _ _ _ _ _
   | exact laws_lpSec.mono _ _ _ _ _
   | exact spec_DrawSecPut.mono _ _
   | exact spec_SecOk.mono _ _ _
   | exact spec_SecPut.mono _ _ _ _ _
   | exact LeO.none _
   | refine LeO.ite ?_ ?_
   | refine LeO.bind ?_ (fun _ => ?_)
  ·intro y0 y1 y2 y3 y4 y5 y6
   unfold laws_FnSecPut.l0
   repeat' first
   | (with_reducible exact ih0 _ _ _ _ _ _ _ _ _)
   | (with_reducible exact ih1 _ _ _ _ _ _ _)
   | (with_reducible exact impl_SecLook.mono _ _ _ _)
   | (with_reducible exact impl_SecOk.mono _ _ _)
   | (with_reducible exact impl_SecPut.mono _ _ _ _ _)
   | (with_reducible exact laws_lpSec.mono _ _ _ _ _)
   | (with_reducible exact spec_DrawSecPut.mono _ _)
   | (with_reducible exact spec_SecOk.mono _ _ _)
   | (with_reducible exact spec_SecPut.mono _ _ _ _ _)
   | (with_reducible exact LeO.refl _)
   | (with_reducible exact LeO.none _)
   | (with_reducible refine LeO.ite ?_ ?_)
   | (with_reducible refine LeO.bind ?_ (fun _ => ?_))
   | exact ih0 _ _ _ _ _ _ _ _ _
   | exact ih1 _ _ _ _ _ _ _
   | exact impl_SecLook.mono _ _ _ _
   | exact impl_SecOk.mono _ _ _
   | exact impl_SecPut.mono _ _ _ _ _
   | exact laws_lpSec.mono _ _ _ _ _
   | exact spec_DrawSecPut.mono _ _
   | exact spec_SecOk.mono _ _ _
   | exact spec_SecPut.mono _ _ _ _ _
   | exact LeO.none _
   | refine LeO.ite ?_ ?_
   | refine LeO.bind ?_ (fun _ => ?_)
theorem laws_FnSecPut.mono : ∀ a0 k, LeO (laws_FnSecPut.f k a0) (laws_FnSecPut.f (k + 1) a0) := by
 intro a0 k
 obtain ⟨ih0, ih1⟩ := laws_FnSecPut.mono_l k
 unfold laws_FnSecPut.f
 repeat' first
   | (with_reducible exact ih0 _ _ _ _ _ _ _ _ _)
   | (with_reducible exact ih1 _ _ _ _ _ _ _)
   | (with_reducible exact impl_SecLook.mono _ _ _ _)
   | (with_reducible exact impl_SecOk.mono _ _ _)
   | (with_reducible exact impl_SecPut.mono _ _ _ _ _)
   | (with_reducible exact laws_lpSec.mono _ _ _ _ _)
   | (with_reducible exact spec_DrawSecPut.mono _ _)
   | (with_reducible exact spec_SecOk.mono _ _ _)
   | (with_reducible exact spec_SecPut.mono _ _ _ _ _)
   | (with_reducible exact LeO.refl _)
   | (with_reducible exact LeO.none _)
   | (with_reducible refine LeO.ite ?_ ?_)
   | (with_reducible refine LeO.bind ?_ (fun _ => ?_))
   | exact ih0 _ _ _ _ _ _ _ _ _
   | exact ih1 _ _ _ _ _ _ _
   | exact impl_SecLook.mono _ _ _ _
   | exact impl_SecOk.mono _ _ _
   | exact impl_SecPut.mono _ _ _ _ _
   | exact laws_lpSec.mono _ _ _ _ _
   | exact spec_DrawSecPut.mono _ _
   | exact spec_SecOk.mono _ _ _
   | exact spec_SecPut.mono _ _ _ _ _
   | exact LeO.none _
   | refine LeO.ite ?_ ?_
   | refine LeO.bind ?_ (fun _ => ?_)
def laws_FnSecPut.T14 : Bool × List (List Nat × List Nat) := (true, [([], []), ([], []), ([0, 1], [0, 1]), ([2], [2]), ([3], [3]), ([3], [3]), ([4, 5, 3, 3], [3, 4, 5]), ([3], [3]), ([6, 7, 3], [3, 6, 7]), ([3, 8], [3, 8]), ([9, 6], [9]), ([10], [10]), ([10], [10]), ([11, 12, 10], [10, 11, 12]), ([13, 10, 10], [10, 13]), ([14], [14]), ([14], [14]), ([15, 16, 14, 14], [14, 15, 16]), ([14], [14]), ([14], [14]), ([18, 19, 17, 14], [14, 18, 19]), ([17, 20, 14], [14, 17, 20]), ([14, 21, 10], [10, 14, 21]), ([10, 22], [10, 22])])
def laws_FnSecPut.B14 : List Nat := [0, 0, 3, 7, 15, 15, 63, 15, 255, 511, 1023, 2047, 2047, 8191, 16383, 32767, 32767, 131071, 32767, 32767, 1048575, 2097151, 4194303, 8388607]
theorem laws_FnSecPut.tab14 : rtab .any (opsOf Try.f9 14) = laws_FnSecPut.T14 := by kernel_rfl
theorem laws_FnSecPut.bits14 : waitsOk laws_FnSecPut.T14.2 laws_FnSecPut.B14 = true := by kernel_rfl
set_option maxHeartbeats 8000000 in
set_option maxRecDepth 100000 in
theorem laws_FnSecPut.calls (k : Nat) (A0 : Option Addr) (c0 : Nat) (l0 : List Int) (r : Bool) (w : World) (hr0 : Kd.C (Kd.int .u8) w A0 l0.length l0) (hc0 : l0.length ≤ c0) (h : laws_FnSecPut.f k l0 = some r) :
  Calls Try.prog 9 #[.slice A0 l0.length c0] w fun e w' => e = .returned (.bool r) ∧ Below w.heap.size w w' := by
 have hu26 := Try.underlying26
 have HR0 := Aside0.mk hr0
 have HC0 := Aside0.mk hc0
 clear hr0 hc0
 have HB := Aside0.mk (Below.refl w.heap.size w)
 have H : (if (l0.length : Int) > 1048576 then (some true) else ((spec_DrawSecPut.f k l0).bind fun bt587 => ((spec_SecPut.f k bt587.1 bt587.2.1 bt587.2.2.1 bt587.2.2.2).bind fun bt596 => ((spec_SecOk.f k bt587.1 bt587.2.1).bind fun t604 => ((impl_SecPut.f k bt587.1 bt587.2.1 bt587.2.2.1 bt587.2.2.2).bind fun bt605 => (if (bt605.2.2 != bt596.2.2) = true then (laws_FnSecPut.j0 k bt587.2.2.1 bt587.2.2.2 t604 bt605.2.2 true bt587.1 bt587.2.1 bt605.1 bt605.2.1) else ((laws_lpSec.f k bt605.1 bt605.2.1 bt596.1 bt596.2.1).bind fun t613 => (laws_FnSecPut.j0 k bt587.2.2.1 bt587.2.2.2 t604 bt605.2.2 (!t613) bt587.1 bt587.2.1 bt605.1 bt605.2.1)))))))) = some r := h
 clear h
 by_cases c2 : (l0.length : Int) > 1048576
 ·rw [if_pos c2] at H
  have c2b0 : decide (1048576 < (l0.length : Int)) = true := decide_eq_true c2
  have c2b1 : decide (1048576 < l0.length) = true := decide_eq_true (by omega)
  clear c2
  obtain rfl := Option.some.inj H
  go_enter Try.func9, Try.ntmps9
  go_wp2
  go_ret
  exact ⟨by first | rfl | (simp [errW_none, errW_some] <;> rfl) | (simp [*, errW_none, errW_some] <;> rfl), pB HB.out⟩
 ·rw [if_neg c2] at H
  have c2b0 : decide (1048576 < (l0.length : Int)) = false := decide_eq_false c2
  have c2b1 : decide (1048576 < l0.length) = false := decide_eq_false (by omega)
  clear c2
  replace H := Option.bind_eq_some_iff.mp H
  obtain ⟨⟨t587, t590, t593, t594⟩, A30, H⟩ := H
  replace H : ((spec_SecPut.f k t587 t590 t593 t594).bind fun bt596 => ((spec_SecOk.f k t587 t590).bind fun t604 => ((impl_SecPut.f k t587 t590 t593 t594).bind fun bt605 => (if (bt605.2.2 != bt596.2.2) = true then (laws_FnSecPut.j0 k t593 t594 t604 bt605.2.2 true t587 t590 bt605.1 bt605.2.1) else ((laws_lpSec.f k bt605.1 bt605.2.1 bt596.1 bt596.2.1).bind fun t613 => (laws_FnSecPut.j0 k t593 t594 t604 bt605.2.2 (!t613) t587 t590 bt605.1 bt605.2.1)))))) = some r := H
  have A3 := Aside0.mk A30
  clear A30
  replace H := Option.bind_eq_some_iff.mp H
  obtain ⟨⟨t596, t599, t602⟩, A40, H⟩ := H
  replace H : ((spec_SecOk.f k t587 t590).bind fun t604 => ((impl_SecPut.f k t587 t590 t593 t594).bind fun bt605 => (if (bt605.2.2 != t602) = true then (laws_FnSecPut.j0 k t593 t594 t604 bt605.2.2 true t587 t590 bt605.1 bt605.2.1) else ((laws_lpSec.f k bt605.1 bt605.2.1 t596 t599).bind fun t613 => (laws_FnSecPut.j0 k t593 t594 t604 bt605.2.2 (!t613) t587 t590 bt605.1 bt605.2.1))))) = some r := H
  have A4 := Aside0.mk A40
  clear A40
  replace H := Option.bind_eq_some_iff.mp H
  obtain ⟨t604, A50, H⟩ := H
  replace H : ((impl_SecPut.f k t587 t590 t593 t594).bind fun bt605 => (if (bt605.2.2 != t602) = true then (laws_FnSecPut.j0 k t593 t594 t604 bt605.2.2 true t587 t590 bt605.1 bt605.2.1) else ((laws_lpSec.f k bt605.1 bt605.2.1 t596 t599).bind fun t613 => (laws_FnSecPut.j0 k t593 t594 t604 bt605.2.2 (!t613) t587 t590 bt605.1 bt605.2.1)))) = some r := H
  have A5 := Aside0.mk A50
  clear A50
  replace H := Option.bind_eq_some_iff.mp H
  obtain ⟨⟨t605, t608, t611⟩, A60, H⟩ := H
  replace H : (if (t611 != t602) = true then (laws_FnSecPut.j0 k t593 t594 t604 t611 true t587 t590 t605 t608) else ((laws_lpSec.f k t605 t608 t596 t599).bind fun t613 => (laws_FnSecPut.j0 k t593 t594 t604 t611 (!t613) t587 t590 t605 t608))) = some r := H
  have A6 := Aside0.mk A60
  clear A60
  have HC7 := Aside0.mk H
  clear H
  go_enter Try.func9, Try.ntmps9
  go_upto_region 7 with (first | ((with_reducible refine gate_callee (f := 28) rfl ?_); refine goesL_ (some 17) rfl rfl Try.func28 (by kernel_rfl) rfl #[.slice A0 l0.length c0] rfl bM ?_; (with_reducible refine (spec_DrawSecPut.calls k _ _ l0 t587 t590 t593 t594 _ ?side1 ?side2 A3.out).mono ?_); (case side1 => exact pC HR0.out); (case side2 => exact HC0.out); rintro e w8 ⟨v588, v591, rfl, ho0, ho1, hb⟩; refine ⟨_, rfl, ?_⟩; have n0_ := Aside0.mk (Kd.R_lower ho0 (below_size (pB HB.out))); have n1_ := Aside0.mk (Kd.R_lower ho1 (below_size (pB HB.out))); have n2_ := Aside0.mk (below_step (pB HB.out) hb); clear HB; have HO589 := n0_; have HO592 := n1_; have HB := n2_; clear n0_ n1_ n2_; (try clear hb); (try clear hb2); (try clear hk); (try clear hi); (try clear ho0); (try clear ho1)) | ((with_reducible refine gate_dst (N := 3) rfl ?_); (try (refine gate_guard (by rfl) ?_; dsimp only)); refine box_event ?hg (N := 3) ?hd (cs := #[.slice none 0 0, .slice none 0 0]) (t := 26) ?hr ?_; (case hd => rfl); (case hg => rfl); (case hr => first | (go_simp; done) | (go_simp; rfl)); intro gb595 hg w9 hbox hb; have n0_ := Aside0.mk (Kd.R_below (pR HO589.out) hb); have n1_ := Aside0.mk (Kd.R_below (pR HO592.out) hb); have n2_ := Aside0.mk (below_step (pB HB.out) hb); have n3_ := Aside0.mk (hbox); have n4_ := Aside0.mk ((by rw [hg]; exact (below_size (pB HB.out)) : w.heap.size ≤ gb595)); have n5_ := Aside0.mk ((by rw [hg]; exact (below_size (pB HB.out)) : w.heap.size ≤ gb595)); clear HO589; clear HO592; clear HB; have HO589 := n0_; have HO592 := n1_; have HB := n2_; have BK595 := n3_; have GW595 := n4_; have GE595 := n5_; clear n0_ n1_ n2_ n3_ n4_ n5_; clear hb hbox hg; obtain ⟨Ao10, co10, eo10⟩ := Kd.R_slice HO589.out; subst eo10; have hcz11_0 : w9.cell? ⟨gb595, 0, none⟩ = some (.slice none 0 0) := (blk_cell BK595.out 0).trans rfl; have hcz11_1 : w9.cell? ⟨gb595, 1, none⟩ = some (.slice none 0 0) := (blk_cell BK595.out 1).trans rfl; have hfz11_0 := blk_frozen BK595.out 0; have hfz11_1 := blk_frozen BK595.out 1; obtain ⟨Ao12, co12, eo12⟩ := Kd.R_slice HO592.out; subst eo12) | ((with_reducible refine gate_callee (f := 29) rfl ?_); refine goesL_ (some 25) rfl rfl Try.func29 (by kernel_rfl) rfl #[.agg #[.slice Ao10 t587.length co10, .slice Ao12 t590.length co12], .int .i64 t593, .string t594] rfl bM ?_; (with_reducible refine (spec_SecPut.calls k _ _ t587 _ _ t590 t593 t594 t596 t599 t602 _ ?side1 ?side2 ?side3 ?side4 A4.out).mono ?_); (case side1 => refine (Kd.R_reads' (e := 9) (base := w.heap.size) (ok := fun k_ => True) (n := t587.length) (c := co10) ?_).2.2; exact (pR (Kd.R_mono (Kd.R_far (p := ⟨gb595, 1, none⟩) (Kd.R_far (p := ⟨gb595, 0, none⟩) (Kd.R_types HO589.out BK595.out (by decide)) (fun _ hk => hk.2) (.slice Ao10 t587.length co10)) (fun _ hk => hk.2) (.slice Ao12 t590.length co12)) (fun _ h_ => h_.1)))); (case side2 => exact (Kd.R_reads' HO589.out).2.1); (case side3 => refine (Kd.R_reads' (e := 54) (base := w.heap.size) (ok := fun k_ => True) (n := t590.length) (c := co12) ?_).2.2; exact (pR (Kd.R_mono (Kd.R_far (p := ⟨gb595, 1, none⟩) (Kd.R_far (p := ⟨gb595, 0, none⟩) (Kd.R_types HO592.out BK595.out (by decide)) (fun _ hk => hk.2) (.slice Ao10 t587.length co10)) (fun _ hk => hk.2) (.slice Ao12 t590.length co12)) (fun _ h_ => h_.1)))); (case side4 => exact (Kd.R_reads' HO592.out).2.1); rintro e w13 ⟨v597, v600, rfl, ho0, ho1, hb⟩; refine ⟨_, rfl, ?_⟩; have n0_ := Aside0.mk (Kd.R_elder' (pR (Kd.R_mono (Kd.R_far (p := ⟨gb595, 1, none⟩) (Kd.R_far (p := ⟨gb595, 0, none⟩) (Kd.R_types HO589.out BK595.out (by decide)) (fun _ hk => hk.2) (.slice Ao10 t587.length co10)) (fun _ hk => hk.2) (.slice Ao12 t590.length co12)) (fun _ h_ => h_.1))) (Kd.R_base ho0) hb); have n1_ := Aside0.mk (Kd.R_elder' (pR (Kd.R_mono (Kd.R_far (p := ⟨gb595, 1, none⟩) (Kd.R_far (p := ⟨gb595, 0, none⟩) (Kd.R_types HO592.out BK595.out (by decide)) (fun _ hk => hk.2) (.slice Ao10 t587.length co10)) (fun _ hk => hk.2) (.slice Ao12 t590.length co12)) (fun _ h_ => h_.1))) (Kd.R_base ho1) hb); have n2_ := Aside0.mk (Kd.R_lower (Kd.R_new' ho0 (Kd.R_lt (pR (Kd.R_mono (Kd.R_far (p := ⟨gb595, 1, none⟩) (Kd.R_far (p := ⟨gb595, 0, none⟩) (Kd.R_types HO589.out BK595.out (by decide)) (fun _ hk => hk.2) (.slice Ao10 t587.length co10)) (fun _ hk => hk.2) (.slice Ao12 t590.length co12)) (fun _ h_ => h_.1))))) (below_size (by repeat (first | (with_reducible first | exact HB.out | apply below_alloc | apply pw_below_drewN | apply below_drew1 | refine below_set ?_ GE595.out) | exact HB.out)))); have n3_ := Aside0.mk (Kd.R_lower (Kd.R_new' ho1 (Kd.R_lt (pR (Kd.R_mono (Kd.R_far (p := ⟨gb595, 1, none⟩) (Kd.R_far (p := ⟨gb595, 0, none⟩) (Kd.R_types HO592.out BK595.out (by decide)) (fun _ hk => hk.2) (.slice Ao10 t587.length co10)) (fun _ hk => hk.2) (.slice Ao12 t590.length co12)) (fun _ h_ => h_.1))))) (below_size (by repeat (first | (with_reducible first | exact HB.out | apply below_alloc | apply pw_below_drewN | apply below_drew1 | refine below_set ?_ GE595.out) | exact HB.out)))); have n4_ := Aside0.mk (blk_below (g := gb595) (o := .cells #[.slice Ao10 t587.length co10, .slice Ao12 t590.length co12] 26 (0, 0)) (by (with_reducible repeat (first | refine blk_drewN ?_ _ | refine blk_drew ?_ | refine blk_alloc ?_ _)); refine blk_put (cs := #[.slice Ao10 t587.length co10, .slice none 0 0]) ?_ 1 _ rfl; (with_reducible repeat (first | refine blk_drewN ?_ _ | refine blk_drew ?_ | refine blk_alloc ?_ _)); refine blk_put (cs := #[.slice none 0 0, .slice none 0 0]) ?_ 0 _ rfl; (with_reducible repeat (first | refine blk_drewN ?_ _ | refine blk_drew ?_ | refine blk_alloc ?_ _)); exact BK595.out) hb); have n5_ := Aside0.mk (below_step (by repeat (first | (with_reducible first | exact HB.out | apply below_alloc | apply pw_below_drewN | apply below_drew1 | refine below_set ?_ GE595.out) | exact HB.out)) hb); clear HO589; clear HO592; clear BK595; clear HB; have HO589 := n0_; have HO592 := n1_; have HO598 := n2_; have HO601 := n3_; have BK595 := n4_; have HB := n5_; clear n0_ n1_ n2_ n3_ n4_ n5_; (try clear hb); (try clear hb2); (try clear hk); (try clear hi); (try clear ho0); (try clear ho1)) | ((with_reducible refine gate_dst (N := 6) rfl ?_); (try (refine gate_guard (by rfl) ?_; dsimp only)); refine box_event ?hg (N := 6) ?hd (cs := #[.slice none 0 0, .slice none 0 0]) (t := 26) ?hr ?_; (case hd => rfl); (case hg => rfl); (case hr => first | (go_simp; done) | (go_simp; rfl)); intro gb603 hg w14 hbox hb; have n0_ := Aside0.mk (Kd.R_below (pR HO589.out) hb); have n1_ := Aside0.mk (Kd.R_below (pR HO592.out) hb); have n2_ := Aside0.mk (Kd.R_below (pR HO598.out) hb); have n3_ := Aside0.mk (Kd.R_below (pR HO601.out) hb); have n4_ := Aside0.mk (blk_below (g := gb595) (o := .cells #[.slice Ao10 t587.length co10, .slice Ao12 t590.length co12] 26 (0, 0)) (pK BK595.out) hb); have n5_ := Aside0.mk (below_step (by repeat (first | (with_reducible first | exact HB.out | apply below_alloc | apply pw_below_drewN | apply below_drew1 | refine below_set ?_ GE595.out) | exact HB.out)) hb); have n6_ := Aside0.mk (hbox); have n7_ := Aside0.mk ((by rw [hg]; exact (below_size (by repeat (first | (with_reducible first | exact HB.out | apply below_alloc | apply pw_below_drewN | apply below_drew1 | refine below_set ?_ GE595.out) | exact HB.out))) : w.heap.size ≤ gb603)); have n8_ := Aside0.mk ((by rw [hg]; exact (below_size (by repeat (first | (with_reducible first | exact HB.out | apply below_alloc | apply pw_below_drewN | apply below_drew1 | refine below_set ?_ GE595.out) | exact HB.out))) : w.heap.size ≤ gb603)); have n9_ := Aside0.mk ((by rw [hg]; exact Nat.ne_of_lt (blk_lt (g := gb595) (o := .cells #[.slice Ao10 t587.length co10, .slice Ao12 t590.length co12] 26 (0, 0)) (pK BK595.out)) : gb595 ≠ gb603)); have n10_ := Aside0.mk ((by rw [hg]; exact Nat.ne_of_gt (blk_lt (g := gb595) (o := .cells #[.slice Ao10 t587.length co10, .slice Ao12 t590.length co12] 26 (0, 0)) (pK BK595.out)) : gb603 ≠ gb595)); clear HO589; clear HO592; clear HO598; clear HO601; clear BK595; clear HB; have HO589 := n0_; have HO592 := n1_; have HO598 := n2_; have HO601 := n3_; have BK595 := n4_; have HB := n5_; have BK603 := n6_; have GW603 := n7_; have GE603 := n8_; have NB595_603 := n9_; have NB603_595 := n10_; clear n0_ n1_ n2_ n3_ n4_ n5_ n6_ n7_ n8_ n9_ n10_; clear hb hbox hg; obtain ⟨Ao15, co15, eo15⟩ := Kd.R_slice HO598.out; subst eo15; have hnb16 := NB603_595.out; have hnc16 := NB595_603.out; have hcz17_0 : w14.cell? ⟨gb603, 0, none⟩ = some (.slice none 0 0) := (blk_cell BK603.out 0).trans rfl; have hcz17_1 : w14.cell? ⟨gb603, 1, none⟩ = some (.slice none 0 0) := (blk_cell BK603.out 1).trans rfl; have hfz17_0 := blk_frozen BK603.out 0; have hfz17_1 := blk_frozen BK603.out 1; obtain ⟨Ao18, co18, eo18⟩ := Kd.R_slice HO601.out; subst eo18; have hcz19_0 : w14.cell? ⟨gb595, 0, none⟩ = some (.slice Ao10 t587.length co10) := (blk_cell BK595.out 0).trans rfl; have hcz19_1 : w14.cell? ⟨gb595, 1, none⟩ = some (.slice Ao12 t590.length co12) := (blk_cell BK595.out 1).trans rfl; have hfz19_0 := blk_frozen BK595.out 0; have hfz19_1 := blk_frozen BK595.out 1) | ((with_reducible refine gate_callee (f := 23) rfl ?_); refine goesL_ (some 29) rfl rfl Try.func23 (by kernel_rfl) rfl #[.agg #[.slice Ao10 t587.length co10, .slice Ao12 t590.length co12]] rfl bM ?_; (with_reducible refine (spec_SecOk.calls k _ _ t587 _ _ t590 t604 _ ?side1 ?side2 ?side3 ?side4 A5.out).mono ?_); (case side1 => refine (Kd.R_reads' (e := 9) (base := w.heap.size) (ok := fun k_ => (True ∧ some k_ ≠ (.slice Ao15 t596.length co15 : Value).ownBlock)) (n := t587.length) (c := co10) ?_).2.2; exact (pR (Kd.R_mono (Kd.R_far (p := ⟨gb603, 1, none⟩) (Kd.R_far (p := ⟨gb603, 0, none⟩) (Kd.R_types HO589.out BK603.out (by decide)) (fun _ hk => hk.2) (.slice Ao15 t596.length co15)) (fun _ hk => hk.2) (.slice Ao18 t599.length co18)) (fun _ h_ => h_.1)))); (case side2 => exact (Kd.R_reads' HO589.out).2.1); (case side3 => refine (Kd.R_reads' (e := 54) (base := w.heap.size) (ok := fun k_ => (True ∧ some k_ ≠ (.slice Ao18 t599.length co18 : Value).ownBlock)) (n := t590.length) (c := co12) ?_).2.2; exact (pR (Kd.R_mono (Kd.R_far (p := ⟨gb603, 1, none⟩) (Kd.R_far (p := ⟨gb603, 0, none⟩) (Kd.R_types HO592.out BK603.out (by decide)) (fun _ hk => hk.2) (.slice Ao15 t596.length co15)) (fun _ hk => hk.2) (.slice Ao18 t599.length co18)) (fun _ h_ => h_.1)))); (case side4 => exact (Kd.R_reads' HO592.out).2.1); rintro e w20 ⟨rfl, hb⟩; refine ⟨_, rfl, ?_⟩; have n0_ := Aside0.mk (Kd.R_below (pR (Kd.R_mono (Kd.R_far (p := ⟨gb603, 1, none⟩) (Kd.R_far (p := ⟨gb603, 0, none⟩) (Kd.R_types HO589.out BK603.out (by decide)) (fun _ hk => hk.2) (.slice Ao15 t596.length co15)) (fun _ hk => hk.2) (.slice Ao18 t599.length co18)) (fun _ h_ => h_.1))) hb); have n1_ := Aside0.mk (Kd.R_below (pR (Kd.R_mono (Kd.R_far (p := ⟨gb603, 1, none⟩) (Kd.R_far (p := ⟨gb603, 0, none⟩) (Kd.R_types HO592.out BK603.out (by decide)) (fun _ hk => hk.2) (.slice Ao15 t596.length co15)) (fun _ hk => hk.2) (.slice Ao18 t599.length co18)) (fun _ h_ => h_.1))) hb); have n2_ := Aside0.mk (Kd.R_below (pR (Kd.R_mono (Kd.R_far (p := ⟨gb603, 1, none⟩) (Kd.R_far (p := ⟨gb603, 0, none⟩) (Kd.R_types HO598.out BK603.out (by decide)) (fun _ hk => hk.2) (.slice Ao15 t596.length co15)) (fun _ hk => hk.2) (.slice Ao18 t599.length co18)) (fun _ h_ => h_.1))) hb); have n3_ := Aside0.mk (Kd.R_below (pR (Kd.R_mono (Kd.R_far (p := ⟨gb603, 1, none⟩) (Kd.R_far (p := ⟨gb603, 0, none⟩) (Kd.R_types HO601.out BK603.out (by decide)) (fun _ hk => hk.2) (.slice Ao15 t596.length co15)) (fun _ hk => hk.2) (.slice Ao18 t599.length co18)) (fun _ h_ => h_.1))) hb); have n4_ := Aside0.mk (blk_below (g := gb595) (o := .cells #[.slice Ao10 t587.length co10, .slice Ao12 t590.length co12] 26 (0, 0)) (by (with_reducible repeat (first | refine blk_drewN ?_ _ | refine blk_drew ?_ | refine blk_alloc ?_ _)); refine blk_far ?_ NB595_603.out _; (with_reducible repeat (first | refine blk_drewN ?_ _ | refine blk_drew ?_ | refine blk_alloc ?_ _)); refine blk_far ?_ NB595_603.out _; (with_reducible repeat (first | refine blk_drewN ?_ _ | refine blk_drew ?_ | refine blk_alloc ?_ _)); exact BK595.out) hb); have n5_ := Aside0.mk (blk_below (g := gb603) (o := .cells #[.slice Ao15 t596.length co15, .slice Ao18 t599.length co18] 26 (0, 0)) (by (with_reducible repeat (first | refine blk_drewN ?_ _ | refine blk_drew ?_ | refine blk_alloc ?_ _)); refine blk_put (cs := #[.slice Ao15 t596.length co15, .slice none 0 0]) ?_ 1 _ rfl; (with_reducible repeat (first | refine blk_drewN ?_ _ | refine blk_drew ?_ | refine blk_alloc ?_ _)); refine blk_put (cs := #[.slice none 0 0, .slice none 0 0]) ?_ 0 _ rfl; (with_reducible repeat (first | refine blk_drewN ?_ _ | refine blk_drew ?_ | refine blk_alloc ?_ _)); exact BK603.out) hb); have n6_ := Aside0.mk (below_step (by repeat (first | (with_reducible first | exact HB.out | apply below_alloc | apply pw_below_drewN | apply below_drew1 | refine below_set ?_ GE595.out | refine below_set ?_ GE603.out) | exact HB.out)) hb); clear HO589; clear HO592; clear HO598; clear HO601; clear BK595; clear BK603; clear HB; have HO589 := n0_; have HO592 := n1_; have HO598 := n2_; have HO601 := n3_; have BK595 := n4_; have BK603 := n5_; have HB := n6_; clear n0_ n1_ n2_ n3_ n4_ n5_ n6_; (try clear hb); (try clear hb2); (try clear hk); (try clear hi); have hcz21_0 : w20.cell? ⟨gb595, 0, none⟩ = some (.slice Ao10 t587.length co10) := (blk_cell BK595.out 0).trans rfl; have hcz21_1 : w20.cell? ⟨gb595, 1, none⟩ = some (.slice Ao12 t590.length co12) := (blk_cell BK595.out 1).trans rfl; have hfz21_0 := blk_frozen BK595.out 0; have hfz21_1 := blk_frozen BK595.out 1) | ((with_reducible refine gate_callee (f := 30) rfl ?_); refine goesL_ (some 34) rfl rfl Try.func30 (by kernel_rfl) rfl #[.agg #[.slice Ao10 t587.length co10, .slice Ao12 t590.length co12], .int .i64 t593, .string t594] rfl bM ?_; (with_reducible refine (impl_SecPut.calls k _ _ t587 _ _ t590 t593 t594 t605 t608 t611 _ ?side1 ?side2 ?side3 ?side4 A6.out).mono ?_); (case side1 => exact pC (Kd.R_reads' HO589.out).2.2); (case side2 => exact (Kd.R_reads' HO589.out).2.1); (case side3 => exact pC (Kd.R_reads' HO592.out).2.2); (case side4 => exact (Kd.R_reads' HO592.out).2.1); rintro e w22 ⟨v606, v609, rfl, ho0, ho1, hb⟩; refine ⟨_, rfl, ?_⟩; have n0_ := Aside0.mk (Kd.R_elder' (pR HO589.out) (Kd.R_base ho0) hb); have n1_ := Aside0.mk (Kd.R_elder' (pR HO592.out) (Kd.R_base ho1) hb); have n2_ := Aside0.mk (Kd.R_elder' (pR HO598.out) (Kd.R_base ho0) hb); have n3_ := Aside0.mk (Kd.R_elder' (pR HO601.out) (Kd.R_base ho1) hb); have n4_ := Aside0.mk (Kd.R_lower (Kd.R_new' (Kd.R_new' ho0 (Kd.R_lt (pR HO589.out))) (Kd.R_lt (pR HO598.out))) (below_size (by repeat (first | (with_reducible first | exact HB.out | apply below_alloc | apply pw_below_drewN | apply below_drew1 | refine below_set ?_ GE595.out | refine below_set ?_ GE603.out) | exact HB.out)))); have n5_ := Aside0.mk (Kd.R_lower (Kd.R_new' (Kd.R_new' ho1 (Kd.R_lt (pR HO592.out))) (Kd.R_lt (pR HO601.out))) (below_size (by repeat (first | (with_reducible first | exact HB.out | apply below_alloc | apply pw_below_drewN | apply below_drew1 | refine below_set ?_ GE595.out | refine below_set ?_ GE603.out) | exact HB.out)))); have n6_ := Aside0.mk (blk_below (g := gb595) (o := .cells #[.slice Ao10 t587.length co10, .slice Ao12 t590.length co12] 26 (0, 0)) (pK BK595.out) hb); have n7_ := Aside0.mk (blk_below (g := gb603) (o := .cells #[.slice Ao15 t596.length co15, .slice Ao18 t599.length co18] 26 (0, 0)) (pK BK603.out) hb); have n8_ := Aside0.mk (below_step (by repeat (first | (with_reducible first | exact HB.out | apply below_alloc | apply pw_below_drewN | apply below_drew1 | refine below_set ?_ GE595.out | refine below_set ?_ GE603.out) | exact HB.out)) hb); clear HO589; clear HO592; clear HO598; clear HO601; clear BK595; clear BK603; clear HB; have HO589 := n0_; have HO592 := n1_; have HO598 := n2_; have HO601 := n3_; have HO607 := n4_; have HO610 := n5_; have BK595 := n6_; have BK603 := n7_; have HB := n8_; clear n0_ n1_ n2_ n3_ n4_ n5_ n6_ n7_ n8_; (try clear hb); (try clear hb2); (try clear hk); (try clear hi); (try clear ho0); (try clear ho1)) | ((with_reducible refine gate_dst (N := 9) rfl ?_); (try (refine gate_guard (by rfl) ?_; dsimp only)); refine box_event ?hg (N := 9) ?hd (cs := #[.slice none 0 0, .slice none 0 0]) (t := 26) ?hr ?_; (case hd => rfl); (case hg => rfl); (case hr => first | (go_simp; done) | (go_simp; rfl)); intro gb612 hg w23 hbox hb; have n0_ := Aside0.mk (Kd.R_below (pR HO589.out) hb); have n1_ := Aside0.mk (Kd.R_below (pR HO592.out) hb); have n2_ := Aside0.mk (Kd.R_below (pR HO598.out) hb); have n3_ := Aside0.mk (Kd.R_below (pR HO601.out) hb); have n4_ := Aside0.mk (Kd.R_below (pR HO607.out) hb); have n5_ := Aside0.mk (Kd.R_below (pR HO610.out) hb); have n6_ := Aside0.mk (blk_below (g := gb595) (o := .cells #[.slice Ao10 t587.length co10, .slice Ao12 t590.length co12] 26 (0, 0)) (pK BK595.out) hb); have n7_ := Aside0.mk (blk_below (g := gb603) (o := .cells #[.slice Ao15 t596.length co15, .slice Ao18 t599.length co18] 26 (0, 0)) (pK BK603.out) hb); have n8_ := Aside0.mk (below_step (by repeat (first | (with_reducible first | exact HB.out | apply below_alloc | apply pw_below_drewN | apply below_drew1 | refine below_set ?_ GE595.out | refine below_set ?_ GE603.out) | exact HB.out)) hb); have n9_ := Aside0.mk (hbox); have n10_ := Aside0.mk ((by rw [hg]; exact (below_size (by repeat (first | (with_reducible first | exact HB.out | apply below_alloc | apply pw_below_drewN | apply below_drew1 | refine below_set ?_ GE595.out | refine below_set ?_ GE603.out) | exact HB.out))) : w.heap.size ≤ gb612)); have n11_ := Aside0.mk ((by rw [hg]; exact (below_size (by repeat (first | (with_reducible first | exact HB.out | apply below_alloc | apply pw_below_drewN | apply below_drew1 | refine below_set ?_ GE595.out | refine below_set ?_ GE603.out) | exact HB.out))) : w.heap.size ≤ gb612)); have n12_ := Aside0.mk ((by rw [hg]; exact Nat.ne_of_lt (blk_lt (g := gb595) (o := .cells #[.slice Ao10 t587.length co10, .slice Ao12 t590.length co12] 26 (0, 0)) (pK BK595.out)) : gb595 ≠ gb612)); have n13_ := Aside0.mk ((by rw [hg]; exact Nat.ne_of_gt (blk_lt (g := gb595) (o := .cells #[.slice Ao10 t587.length co10, .slice Ao12 t590.length co12] 26 (0, 0)) (pK BK595.out)) : gb612 ≠ gb595)); have n14_ := Aside0.mk ((by rw [hg]; exact Nat.ne_of_lt (blk_lt (g := gb603) (o := .cells #[.slice Ao15 t596.length co15, .slice Ao18 t599.length co18] 26 (0, 0)) (pK BK603.out)) : gb603 ≠ gb612)); have n15_ := Aside0.mk ((by rw [hg]; exact Nat.ne_of_gt (blk_lt (g := gb603) (o := .cells #[.slice Ao15 t596.length co15, .slice Ao18 t599.length co18] 26 (0, 0)) (pK BK603.out)) : gb612 ≠ gb603)); clear HO589; clear HO592; clear HO598; clear HO601; clear HO607; clear HO610; clear BK595; clear BK603; clear HB; have HO589 := n0_; have HO592 := n1_; have HO598 := n2_; have HO601 := n3_; have HO607 := n4_; have HO610 := n5_; have BK595 := n6_; have BK603 := n7_; have HB := n8_; have BK612 := n9_; have GW612 := n10_; have GE612 := n11_; have NB595_612 := n12_; have NB612_595 := n13_; have NB603_612 := n14_; have NB612_603 := n15_; clear n0_ n1_ n2_ n3_ n4_ n5_ n6_ n7_ n8_ n9_ n10_ n11_ n12_ n13_ n14_ n15_; clear hb hbox hg; obtain ⟨Ao24, co24, eo24⟩ := Kd.R_slice HO607.out; subst eo24; have hnb25 := NB612_595.out; have hnc25 := NB595_612.out; have hnb26 := NB612_603.out; have hnc26 := NB603_612.out; have hcz27_0 : w23.cell? ⟨gb612, 0, none⟩ = some (.slice none 0 0) := (blk_cell BK612.out 0).trans rfl; have hcz27_1 : w23.cell? ⟨gb612, 1, none⟩ = some (.slice none 0 0) := (blk_cell BK612.out 1).trans rfl; have hfz27_0 := blk_frozen BK612.out 0; have hfz27_1 := blk_frozen BK612.out 1; obtain ⟨Ao28, co28, eo28⟩ := Kd.R_slice HO610.out; subst eo28))
  (try simp only [Act.put, List.setIfInBounds_toArray, List.set_cons_zero, List.set_cons_succ])
  go_cut [45] (fun v45 wc => ∃ (kq : Nat) (x45_6 : Bool), v45 = .bool x45_6 ∧ Aside0 (laws_FnSecPut.j0 kq t593 t594 t604 t611 x45_6 t587 t590 t605 t608 = some r) ∧ Aside0 (kq ≤ k) ∧ Aside0 (Kd.R Kd.string 9 wc w.heap.size (fun k_ => some k_ ≠ ((.slice Ao15 t596.length co15) : Value).ownBlock ∧ some k_ ≠ ((.slice Ao24 t605.length co24) : Value).ownBlock) (.slice Ao10 t587.length co10) t587) ∧ Aside0 (Kd.R k54 54 wc w.heap.size (fun k_ => some k_ ≠ ((.slice Ao18 t599.length co18) : Value).ownBlock ∧ some k_ ≠ ((.slice Ao28 t608.length co28) : Value).ownBlock) (.slice Ao12 t590.length co12) t590) ∧ Aside0 (Kd.R Kd.string 9 wc w.heap.size (fun k_ => some k_ ≠ ((.slice Ao10 t587.length co10) : Value).ownBlock ∧ some k_ ≠ ((.slice Ao24 t605.length co24) : Value).ownBlock) (.slice Ao15 t596.length co15) t596) ∧ Aside0 (Kd.R k54 54 wc w.heap.size (fun k_ => some k_ ≠ ((.slice Ao12 t590.length co12) : Value).ownBlock ∧ some k_ ≠ ((.slice Ao28 t608.length co28) : Value).ownBlock) (.slice Ao18 t599.length co18) t599) ∧ Aside0 (Kd.R Kd.string 9 wc w.heap.size (fun k_ => some k_ ≠ ((.slice Ao10 t587.length co10) : Value).ownBlock ∧ some k_ ≠ ((.slice Ao15 t596.length co15) : Value).ownBlock) (.slice Ao24 t605.length co24) t605) ∧ Aside0 (Kd.R k54 54 wc w.heap.size (fun k_ => some k_ ≠ ((.slice Ao12 t590.length co12) : Value).ownBlock ∧ some k_ ≠ ((.slice Ao18 t599.length co18) : Value).ownBlock) (.slice Ao28 t608.length co28) t608) ∧ Aside0 (wc.heap[gb595]? = some (.cells #[(.slice Ao10 t587.length co10), (.slice Ao12 t590.length co12)] 26 (0, 0))) ∧ Aside0 (wc.heap[gb603]? = some (.cells #[(.slice Ao15 t596.length co15), (.slice Ao18 t599.length co18)] 26 (0, 0))) ∧ Aside0 (wc.heap[gb612]? = some (.cells #[(.slice Ao24 t605.length co24), (.slice Ao28 t608.length co28)] 26 (0, 0))) ∧ Aside0 (Below w.heap.size w wc))
  case first =>
   have H := HC7.out
   clear HC7
   by_cases c29 : (t611 != t602) = true
   ·rw [if_pos c29] at H
    have c29b0 : (t611 != t602) = true := c29
    (try (have c29b1 : decide (t611 = t602) = false := by simpa using c29))
    (try (have c29b2 : (t611 == t602) = false := by simpa using c29))
    (try (have c29b3 : ¬ (t611 = t602) := by simpa using c29))
    clear c29
    (first | rw [c29b0] | (simp only [i64_w, i32_w]; rw [c29b0]) | skip)
    have H' := Aside0.mk H
    clear H
    go_wp2
    go_meet
    case rel => exact ⟨_, (true), (by first | rfl | (simp; done) | (simp [*]; done)), H', ⟨by first | omega | exact Nat.le_refl _⟩, ⟨pR (Kd.R_mono (Kd.R_far (p := ⟨gb612, 1, none⟩) (Kd.R_far (p := ⟨gb612, 0, none⟩) (Kd.R_types HO589.out BK612.out (by decide)) (fun _ hk => hk.2) (.slice Ao24 t605.length co24)) (fun _ hk => hk.2) (.slice Ao28 t608.length co28)) (fun _ hk => ⟨hk.1.1.2, hk.1.2⟩))⟩, ⟨pR (Kd.R_mono (Kd.R_far (p := ⟨gb612, 1, none⟩) (Kd.R_far (p := ⟨gb612, 0, none⟩) (Kd.R_types HO592.out BK612.out (by decide)) (fun _ hk => hk.2) (.slice Ao24 t605.length co24)) (fun _ hk => hk.2) (.slice Ao28 t608.length co28)) (fun _ hk => ⟨hk.1.1.2, hk.1.2⟩))⟩, ⟨pR (Kd.R_mono (Kd.R_far (p := ⟨gb612, 1, none⟩) (Kd.R_far (p := ⟨gb612, 0, none⟩) (Kd.R_types HO598.out BK612.out (by decide)) (fun _ hk => hk.2) (.slice Ao24 t605.length co24)) (fun _ hk => hk.2) (.slice Ao28 t608.length co28)) (fun _ hk => ⟨hk.1.1.2, hk.1.2⟩))⟩, ⟨pR (Kd.R_mono (Kd.R_far (p := ⟨gb612, 1, none⟩) (Kd.R_far (p := ⟨gb612, 0, none⟩) (Kd.R_types HO601.out BK612.out (by decide)) (fun _ hk => hk.2) (.slice Ao24 t605.length co24)) (fun _ hk => hk.2) (.slice Ao28 t608.length co28)) (fun _ hk => ⟨hk.1.1.2, hk.1.2⟩))⟩, ⟨pR (Kd.R_mono (Kd.R_far (p := ⟨gb612, 1, none⟩) (Kd.R_far (p := ⟨gb612, 0, none⟩) (Kd.R_types HO607.out BK612.out (by decide)) (fun _ hk => hk.2) (.slice Ao24 t605.length co24)) (fun _ hk => hk.2) (.slice Ao28 t608.length co28)) (fun _ hk => ⟨hk.1.1.2, hk.1.2⟩))⟩, ⟨pR (Kd.R_mono (Kd.R_far (p := ⟨gb612, 1, none⟩) (Kd.R_far (p := ⟨gb612, 0, none⟩) (Kd.R_types HO610.out BK612.out (by decide)) (fun _ hk => hk.2) (.slice Ao24 t605.length co24)) (fun _ hk => hk.2) (.slice Ao28 t608.length co28)) (fun _ hk => ⟨hk.1.1.2, hk.1.2⟩))⟩, ⟨by (with_reducible repeat (first | refine blk_drewN ?_ _ | refine blk_drew ?_ | refine blk_alloc ?_ _)); refine blk_far ?_ NB595_612.out _; (with_reducible repeat (first | refine blk_drewN ?_ _ | refine blk_drew ?_ | refine blk_alloc ?_ _)); refine blk_far ?_ NB595_612.out _; (with_reducible repeat (first | refine blk_drewN ?_ _ | refine blk_drew ?_ | refine blk_alloc ?_ _)); exact BK595.out⟩, ⟨by (with_reducible repeat (first | refine blk_drewN ?_ _ | refine blk_drew ?_ | refine blk_alloc ?_ _)); refine blk_far ?_ NB603_612.out _; (with_reducible repeat (first | refine blk_drewN ?_ _ | refine blk_drew ?_ | refine blk_alloc ?_ _)); refine blk_far ?_ NB603_612.out _; (with_reducible repeat (first | refine blk_drewN ?_ _ | refine blk_drew ?_ | refine blk_alloc ?_ _)); exact BK603.out⟩, ⟨by (with_reducible repeat (first | refine blk_drewN ?_ _ | refine blk_drew ?_ | refine blk_alloc ?_ _)); refine blk_put (cs := #[.slice Ao24 t605.length co24, .slice none 0 0]) ?_ 1 _ rfl; (with_reducible repeat (first | refine blk_drewN ?_ _ | refine blk_drew ?_ | refine blk_alloc ?_ _)); refine blk_put (cs := #[.slice none 0 0, .slice none 0 0]) ?_ 0 _ rfl; (with_reducible repeat (first | refine blk_drewN ?_ _ | refine blk_drew ?_ | refine blk_alloc ?_ _)); exact BK612.out⟩, ⟨by repeat (first | (with_reducible first | exact HB.out | apply below_alloc | apply pw_below_drewN | apply below_drew1 | refine below_set ?_ GE595.out | refine below_set ?_ GE603.out | refine below_set ?_ GE612.out) | exact HB.out)⟩⟩
   ·rw [if_neg c29] at H
    have c29b0 : (t611 != t602) = false := by simpa using c29
    (try (have c29b1 : decide (t611 = t602) = true := by simpa using c29))
    (try (have c29b2 : (t611 == t602) = true := by simpa using c29))
    clear c29
    (first | rw [c29b0] | (simp only [i64_w, i32_w]; rw [c29b0]) | skip)
    replace H := Option.bind_eq_some_iff.mp H
    obtain ⟨t613, A300, H⟩ := H
    replace H : (laws_FnSecPut.j0 k t593 t594 t604 t611 (!t613) t587 t590 t605 t608) = some r := H
    have A30 := Aside0.mk A300
    clear A300
    have H' := Aside0.mk H
    clear H
    have hnb31 := NB612_595.out
    have hnc31 := NB595_612.out
    have hnb32 := NB612_603.out
    have hnc32 := NB603_612.out
    have hcz33_0 : w23.cell? ⟨gb612, 0, none⟩ = some (.slice none 0 0) := (blk_cell BK612.out 0).trans rfl
    have hcz33_1 : w23.cell? ⟨gb612, 1, none⟩ = some (.slice none 0 0) := (blk_cell BK612.out 1).trans rfl
    have hfz33_0 := blk_frozen BK612.out 0
    have hfz33_1 := blk_frozen BK612.out 1
    have hnb34 := NB603_595.out
    have hnc34 := NB595_603.out
    have hcz35_0 : w23.cell? ⟨gb603, 0, none⟩ = some (.slice Ao15 t596.length co15) := (blk_cell BK603.out 0).trans rfl
    have hcz35_1 : w23.cell? ⟨gb603, 1, none⟩ = some (.slice Ao18 t599.length co18) := (blk_cell BK603.out 1).trans rfl
    have hfz35_0 := blk_frozen BK603.out 0
    have hfz35_1 := blk_frozen BK603.out 1
    go_wp2_with (first | (go_at_call 31; (with_reducible refine (laws_lpSec.calls k _ _ t605 _ _ t608 _ _ t596 _ _ t599 t613 _ ?side1 ?side2 ?side3 ?side4 ?side5 ?side6 ?side7 ?side8 A30.out).mono ?_); (case side1 => refine (Kd.R_reads' (e := 9) (base := w.heap.size) (ok := fun k_ => ((True ∧ some k_ ≠ (.slice Ao10 t587.length co10 : Value).ownBlock) ∧ some k_ ≠ (.slice Ao15 t596.length co15 : Value).ownBlock)) (n := t605.length) (c := co24) ?_).2.2; exact (pR (Kd.R_mono (Kd.R_far (p := ⟨gb612, 1, none⟩) (Kd.R_far (p := ⟨gb612, 0, none⟩) (Kd.R_types HO607.out BK612.out (by decide)) (fun _ hk => hk.2) (.slice Ao24 t605.length co24)) (fun _ hk => hk.2) (.slice Ao28 t608.length co28)) (fun _ h_ => h_.1)))); (case side2 => exact (Kd.R_reads' HO607.out).2.1); (case side3 => refine (Kd.R_reads' (e := 54) (base := w.heap.size) (ok := fun k_ => ((True ∧ some k_ ≠ (.slice Ao12 t590.length co12 : Value).ownBlock) ∧ some k_ ≠ (.slice Ao18 t599.length co18 : Value).ownBlock)) (n := t608.length) (c := co28) ?_).2.2; exact (pR (Kd.R_mono (Kd.R_far (p := ⟨gb612, 1, none⟩) (Kd.R_far (p := ⟨gb612, 0, none⟩) (Kd.R_types HO610.out BK612.out (by decide)) (fun _ hk => hk.2) (.slice Ao24 t605.length co24)) (fun _ hk => hk.2) (.slice Ao28 t608.length co28)) (fun _ h_ => h_.1)))); (case side4 => exact (Kd.R_reads' HO610.out).2.1); (case side5 => refine (Kd.R_reads' (e := 9) (base := w.heap.size) (ok := fun k_ => ((True ∧ some k_ ≠ (.slice Ao10 t587.length co10 : Value).ownBlock) ∧ some k_ ≠ (.slice Ao24 t605.length co24 : Value).ownBlock)) (n := t596.length) (c := co15) ?_).2.2; exact (pR (Kd.R_mono (Kd.R_far (p := ⟨gb612, 1, none⟩) (Kd.R_far (p := ⟨gb612, 0, none⟩) (Kd.R_types HO598.out BK612.out (by decide)) (fun _ hk => hk.2) (.slice Ao24 t605.length co24)) (fun _ hk => hk.2) (.slice Ao28 t608.length co28)) (fun _ h_ => h_.1)))); (case side6 => exact (Kd.R_reads' HO598.out).2.1); (case side7 => refine (Kd.R_reads' (e := 54) (base := w.heap.size) (ok := fun k_ => ((True ∧ some k_ ≠ (.slice Ao12 t590.length co12 : Value).ownBlock) ∧ some k_ ≠ (.slice Ao28 t608.length co28 : Value).ownBlock)) (n := t599.length) (c := co18) ?_).2.2; exact (pR (Kd.R_mono (Kd.R_far (p := ⟨gb612, 1, none⟩) (Kd.R_far (p := ⟨gb612, 0, none⟩) (Kd.R_types HO601.out BK612.out (by decide)) (fun _ hk => hk.2) (.slice Ao24 t605.length co24)) (fun _ hk => hk.2) (.slice Ao28 t608.length co28)) (fun _ h_ => h_.1)))); (case side8 => exact (Kd.R_reads' HO601.out).2.1); rintro e w36 ⟨rfl, hb⟩; have n0_ := Aside0.mk (Kd.R_below (pR (Kd.R_mono (Kd.R_far (p := ⟨gb612, 1, none⟩) (Kd.R_far (p := ⟨gb612, 0, none⟩) (Kd.R_types HO589.out BK612.out (by decide)) (fun _ hk => hk.2) (.slice Ao24 t605.length co24)) (fun _ hk => hk.2) (.slice Ao28 t608.length co28)) (fun _ h_ => h_.1))) hb); have n1_ := Aside0.mk (Kd.R_below (pR (Kd.R_mono (Kd.R_far (p := ⟨gb612, 1, none⟩) (Kd.R_far (p := ⟨gb612, 0, none⟩) (Kd.R_types HO592.out BK612.out (by decide)) (fun _ hk => hk.2) (.slice Ao24 t605.length co24)) (fun _ hk => hk.2) (.slice Ao28 t608.length co28)) (fun _ h_ => h_.1))) hb); have n2_ := Aside0.mk (Kd.R_below (pR (Kd.R_mono (Kd.R_far (p := ⟨gb612, 1, none⟩) (Kd.R_far (p := ⟨gb612, 0, none⟩) (Kd.R_types HO598.out BK612.out (by decide)) (fun _ hk => hk.2) (.slice Ao24 t605.length co24)) (fun _ hk => hk.2) (.slice Ao28 t608.length co28)) (fun _ h_ => h_.1))) hb); have n3_ := Aside0.mk (Kd.R_below (pR (Kd.R_mono (Kd.R_far (p := ⟨gb612, 1, none⟩) (Kd.R_far (p := ⟨gb612, 0, none⟩) (Kd.R_types HO601.out BK612.out (by decide)) (fun _ hk => hk.2) (.slice Ao24 t605.length co24)) (fun _ hk => hk.2) (.slice Ao28 t608.length co28)) (fun _ h_ => h_.1))) hb); have n4_ := Aside0.mk (Kd.R_below (pR (Kd.R_mono (Kd.R_far (p := ⟨gb612, 1, none⟩) (Kd.R_far (p := ⟨gb612, 0, none⟩) (Kd.R_types HO607.out BK612.out (by decide)) (fun _ hk => hk.2) (.slice Ao24 t605.length co24)) (fun _ hk => hk.2) (.slice Ao28 t608.length co28)) (fun _ h_ => h_.1))) hb); have n5_ := Aside0.mk (Kd.R_below (pR (Kd.R_mono (Kd.R_far (p := ⟨gb612, 1, none⟩) (Kd.R_far (p := ⟨gb612, 0, none⟩) (Kd.R_types HO610.out BK612.out (by decide)) (fun _ hk => hk.2) (.slice Ao24 t605.length co24)) (fun _ hk => hk.2) (.slice Ao28 t608.length co28)) (fun _ h_ => h_.1))) hb); have n6_ := Aside0.mk (blk_below (g := gb595) (o := .cells #[.slice Ao10 t587.length co10, .slice Ao12 t590.length co12] 26 (0, 0)) (by (with_reducible repeat (first | refine blk_drewN ?_ _ | refine blk_drew ?_ | refine blk_alloc ?_ _)); refine blk_far ?_ NB595_612.out _; (with_reducible repeat (first | refine blk_drewN ?_ _ | refine blk_drew ?_ | refine blk_alloc ?_ _)); refine blk_far ?_ NB595_612.out _; (with_reducible repeat (first | refine blk_drewN ?_ _ | refine blk_drew ?_ | refine blk_alloc ?_ _)); exact BK595.out) hb); have n7_ := Aside0.mk (blk_below (g := gb603) (o := .cells #[.slice Ao15 t596.length co15, .slice Ao18 t599.length co18] 26 (0, 0)) (by (with_reducible repeat (first | refine blk_drewN ?_ _ | refine blk_drew ?_ | refine blk_alloc ?_ _)); refine blk_far ?_ NB603_612.out _; (with_reducible repeat (first | refine blk_drewN ?_ _ | refine blk_drew ?_ | refine blk_alloc ?_ _)); refine blk_far ?_ NB603_612.out _; (with_reducible repeat (first | refine blk_drewN ?_ _ | refine blk_drew ?_ | refine blk_alloc ?_ _)); exact BK603.out) hb); have n8_ := Aside0.mk (blk_below (g := gb612) (o := .cells #[.slice Ao24 t605.length co24, .slice Ao28 t608.length co28] 26 (0, 0)) (by (with_reducible repeat (first | refine blk_drewN ?_ _ | refine blk_drew ?_ | refine blk_alloc ?_ _)); refine blk_put (cs := #[.slice Ao24 t605.length co24, .slice none 0 0]) ?_ 1 _ rfl; (with_reducible repeat (first | refine blk_drewN ?_ _ | refine blk_drew ?_ | refine blk_alloc ?_ _)); refine blk_put (cs := #[.slice none 0 0, .slice none 0 0]) ?_ 0 _ rfl; (with_reducible repeat (first | refine blk_drewN ?_ _ | refine blk_drew ?_ | refine blk_alloc ?_ _)); exact BK612.out) hb); have n9_ := Aside0.mk (below_step (by repeat (first | (with_reducible first | exact HB.out | apply below_alloc | apply pw_below_drewN | apply below_drew1 | refine below_set ?_ GE595.out | refine below_set ?_ GE603.out | refine below_set ?_ GE612.out) | exact HB.out)) hb); clear HO589; clear HO592; clear HO598; clear HO601; clear HO607; clear HO610; clear BK595; clear BK603; clear BK612; clear HB; have HO589 := n0_; have HO592 := n1_; have HO598 := n2_; have HO601 := n3_; have HO607 := n4_; have HO610 := n5_; have BK595 := n6_; have BK603 := n7_; have BK612 := n8_; have HB := n9_; clear n0_ n1_ n2_ n3_ n4_ n5_ n6_ n7_ n8_ n9_; (try clear hb); (try clear hb2); (try clear hk); (try clear hi)))
    go_meet
    case rel => exact ⟨_, (!t613), (by first | rfl | (simp; done) | (simp [*]; done)), H', ⟨by first | omega | exact Nat.le_refl _⟩, ⟨pR (Kd.R_mono HO589.out (fun _ hk => ⟨hk.1.2, hk.2⟩))⟩, ⟨pR (Kd.R_mono HO592.out (fun _ hk => ⟨hk.1.2, hk.2⟩))⟩, ⟨pR (Kd.R_mono HO598.out (fun _ hk => ⟨hk.1.2, hk.2⟩))⟩, ⟨pR (Kd.R_mono HO601.out (fun _ hk => ⟨hk.1.2, hk.2⟩))⟩, ⟨pR (Kd.R_mono HO607.out (fun _ hk => ⟨hk.1.2, hk.2⟩))⟩, ⟨pR (Kd.R_mono HO610.out (fun _ hk => ⟨hk.1.2, hk.2⟩))⟩, ⟨pK BK595.out⟩, ⟨pK BK603.out⟩, ⟨pK BK612.out⟩, ⟨by repeat (first | (with_reducible first | exact HB.out | apply below_alloc | apply pw_below_drewN | apply below_drew1 | refine below_set ?_ GE595.out | refine below_set ?_ GE603.out | refine below_set ?_ GE612.out) | exact HB.out)⟩⟩
  case rest =>
   clear HC7
   try clear c1
   try clear c2
   try clear c2b0
   try clear c2b1
   try clear p2
   try clear c3
   try clear c9
   try clear c16
   try clear c23
   try clear c25
   try clear c26
   try clear c28
   try clear c29
   try clear c29b0
   try clear c29b1
   try clear c29b2
   try clear c30
   try clear c31
   try clear c32
   try clear c34
   try clear hcz11_0
   try clear hcz11_1
   try clear hcz17_0
   try clear hcz17_1
   try clear hcz19_0
   try clear hcz19_1
   try clear hcz21_0
   try clear hcz21_1
   try clear hcz27_0
   try clear hcz27_1
   try clear hcz33_0
   try clear hcz33_1
   try clear hcz35_0
   try clear hcz35_1
   try clear hfz11_0
   try clear hfz11_1
   try clear hfz17_0
   try clear hfz17_1
   try clear hfz19_0
   try clear hfz19_1
   try clear hfz21_0
   try clear hfz21_1
   try clear hfz27_0
   try clear hfz27_1
   try clear hfz33_0
   try clear hfz33_1
   try clear hfz35_0
   try clear hfz35_1
   obtain ⟨kq, x45_6, rfl, HA, HJ6, HO_596000, HO_596001, HO_604000, HO_604001, HO_613000, HO_613001, BK595, BK603, BK612, HB⟩ := hcut
   cases kq with
   | zero => exact absurd HA.out (by simp [laws_FnSecPut.j0])
   | succ kj6 =>
    have H := HA.out
    clear HA
    simp only [laws_FnSecPut.j0] at H
    by_cases c37 : x45_6 = true
    ·subst c37
     have H1 : (some false) = some r := by rw [if_pos rfl] at H; exact H
     clear H
     have H := H1
     clear H1
     obtain rfl := Option.some.inj H
     go_wp2
     go_ret
     exact ⟨by first | rfl | (simp [errW_none, errW_some] <;> rfl) | (simp [*, errW_none, errW_some] <;> rfl), by repeat (first | (with_reducible first | exact HB.out | apply below_alloc | apply pw_below_drewN | apply below_drew1 | refine below_set ?_ GE595.out | refine below_set ?_ GE603.out | refine below_set ?_ GE612.out) | exact HB.out)⟩
    ·replace c37 := Bool.eq_false_iff.mpr c37
     subst c37
     have H1 : (if t611 = true then (laws_FnSecPut.l0 kj6 t593 t594 0 t587 t590 t605 t608) else (if t604 = true then ((laws_lpSec.f kj6 t605 t608 t587 t590).bind fun t614 => (some t614)) else (if (t605.length : Int) = 0 then (some true) else (some false)))) = some r := by rw [if_neg (show ¬ (false = true) by decide)] at H; exact H
     clear H
     have H := H1
     clear H1
     by_cases c38 : t611 = true
     ·subst c38
      have H1 : (laws_FnSecPut.l0 kj6 t593 t594 0 t587 t590 t605 t608) = some r := by rw [if_pos rfl] at H; exact H
      clear H
      have H := H1
      clear H1
      have H' := Aside0.mk H
      clear H
      go_wp2
      go_loopg [11] kj6 (fun kq v11 w' => ∃ (x11_2 : Int), v11 = .int .i64 x11_2 ∧ Aside0 (laws_FnSecPut.l0 kq t593 t594 x11_2 t587 t590 t605 t608 = some r) ∧ Aside0 (kq ≤ kj6) ∧ Aside0 (Kd.R Kd.string 9 w' w.heap.size (fun k_ => some k_ ≠ ((.slice Ao15 t596.length co15) : Value).ownBlock ∧ some k_ ≠ ((.slice Ao24 t605.length co24) : Value).ownBlock) (.slice Ao10 t587.length co10) t587) ∧ Aside0 (Kd.R k54 54 w' w.heap.size (fun k_ => some k_ ≠ ((.slice Ao18 t599.length co18) : Value).ownBlock ∧ some k_ ≠ ((.slice Ao28 t608.length co28) : Value).ownBlock) (.slice Ao12 t590.length co12) t590) ∧ Aside0 (Kd.R Kd.string 9 w' w.heap.size (fun k_ => some k_ ≠ ((.slice Ao10 t587.length co10) : Value).ownBlock ∧ some k_ ≠ ((.slice Ao24 t605.length co24) : Value).ownBlock) (.slice Ao15 t596.length co15) t596) ∧ Aside0 (Kd.R k54 54 w' w.heap.size (fun k_ => some k_ ≠ ((.slice Ao12 t590.length co12) : Value).ownBlock ∧ some k_ ≠ ((.slice Ao28 t608.length co28) : Value).ownBlock) (.slice Ao18 t599.length co18) t599) ∧ Aside0 (Kd.R Kd.string 9 w' w.heap.size (fun k_ => some k_ ≠ ((.slice Ao10 t587.length co10) : Value).ownBlock ∧ some k_ ≠ ((.slice Ao15 t596.length co15) : Value).ownBlock) (.slice Ao24 t605.length co24) t605) ∧ Aside0 (Kd.R k54 54 w' w.heap.size (fun k_ => some k_ ≠ ((.slice Ao12 t590.length co12) : Value).ownBlock ∧ some k_ ≠ ((.slice Ao18 t599.length co18) : Value).ownBlock) (.slice Ao28 t608.length co28) t608) ∧ Aside0 (w'.heap[gb595]? = some (.cells #[(.slice Ao10 t587.length co10), (.slice Ao12 t590.length co12)] 26 (0, 0))) ∧ Aside0 (w'.heap[gb603]? = some (.cells #[(.slice Ao15 t596.length co15), (.slice Ao18 t599.length co18)] 26 (0, 0))) ∧ Aside0 (w'.heap[gb612]? = some (.cells #[(.slice Ao24 t605.length co24), (.slice Ao28 t608.length co28)] 26 (0, 0))) ∧ Aside0 (Below w.heap.size w w'))
      case atStart => exact ⟨(0), (by first | rfl | (simp; done) | (simp [*]; done)), H', ⟨Nat.le_refl _⟩, ⟨pR HO_596000.out⟩, ⟨pR HO_596001.out⟩, ⟨pR HO_604000.out⟩, ⟨pR HO_604001.out⟩, ⟨pR HO_613000.out⟩, ⟨pR HO_613001.out⟩, ⟨pK BK595.out⟩, ⟨pK BK603.out⟩, ⟨pK BK612.out⟩, ⟨by repeat (first | (with_reducible first | exact HB.out | apply below_alloc | apply pw_below_drewN | apply below_drew1 | refine below_set ?_ GE595.out | refine below_set ?_ GE603.out | refine below_set ?_ GE612.out) | exact HB.out)⟩⟩
      case round =>
       clear H'
       try clear c1
       try clear c2
       try clear c2b0
       try clear c2b1
       try clear p2
       try clear c3
       try clear c9
       try clear c16
       try clear c23
       try clear c25
       try clear c26
       try clear c28
       try clear c29
       try clear c29b0
       try clear c29b1
       try clear c29b2
       try clear c30
       try clear c31
       try clear c32
       try clear c34
       try clear c37
       try clear c38
       try clear hcz11_0
       try clear hcz11_1
       try clear hcz17_0
       try clear hcz17_1
       try clear hcz19_0
       try clear hcz19_1
       try clear hcz21_0
       try clear hcz21_1
       try clear hcz27_0
       try clear hcz27_1
       try clear hcz33_0
       try clear hcz33_1
       try clear hcz35_0
       try clear hcz35_1
       try clear hfz11_0
       try clear hfz11_1
       try clear hfz17_0
       try clear hfz17_1
       try clear hfz19_0
       try clear hfz19_1
       try clear hfz21_0
       try clear hfz21_1
       try clear hfz27_0
       try clear hfz27_1
       try clear hfz33_0
       try clear hfz33_1
       try clear hfz35_0
       try clear hfz35_1
       try clear p2
       obtain ⟨x11_2, rfl, HA, HK2, HO_596000, HO_596001, HO_604000, HO_604001, HO_613000, HO_613001, BK595, BK603, BK612, HB⟩ := hrel
       cases gk with
       | zero => exact absurd HA.out (by simp [laws_FnSecPut.l0])
       | succ k2 =>
        have H := HA.out
        clear HA
        simp only [laws_FnSecPut.l0] at H
        by_cases c39 : x11_2 < (t587.length : Int)
        ·rw [if_pos c39] at H
         have c39b0 : decide (x11_2 < (t587.length : Int)) = true := decide_eq_true c39
         clear c39
         by_cases c40 : x11_2 = t593
         ·rw [if_pos c40] at H
          have c40b0 : (x11_2 == t593) = true := beq_iff_eq.mpr c40
          have c40b1 : (x11_2 != t593) = false := bne_eq_false_iff_eq.mpr c40
          clear c40
          replace H := Option.bind_eq_some_iff.mp H
          obtain ⟨t616, A410, H⟩ := H
          replace H : (if t616.toList = t594.toList then (laws_FnSecPut.l0 k2 t593 t594 (wrap64 (x11_2 + 1)) t587 t590 t605 t608) else (some false)) = some r := H
          have A41 := Aside0.mk A410
          clear A410
          by_cases c42 : t616.toList = t594.toList
          ·rw [if_pos c42] at H
           have c42b0 : (t616.toList == t594.toList) = true := beq_iff_eq.mpr c42
           have c42b1 : (t616.toList != t594.toList) = false := bne_eq_false_iff_eq.mpr c42
           clear c42
           have H' := Aside0.mk H
           clear H
           have hnb43 := NB595_603.out
           have hnc43 := NB603_595.out
           have hnb44 := NB595_612.out
           have hnc44 := NB612_595.out
           have hcz45_0 : wr.cell? ⟨gb595, 0, none⟩ = some (.slice Ao10 t587.length co10) := (blk_cell BK595.out 0).trans rfl
           have hcz45_1 : wr.cell? ⟨gb595, 1, none⟩ = some (.slice Ao12 t590.length co12) := (blk_cell BK595.out 1).trans rfl
           have hfz45_0 := blk_frozen BK595.out 0
           have hfz45_1 := blk_frozen BK595.out 1
           try go_wp2
           have n0_ := Aside0.mk (Kd.R_drew HO_596000.out)
           have n1_ := Aside0.mk (Kd.R_drew HO_596001.out)
           have n2_ := Aside0.mk (Kd.R_drew HO_604000.out)
           have n3_ := Aside0.mk (Kd.R_drew HO_604001.out)
           have n4_ := Aside0.mk (Kd.R_drew HO_613000.out)
           have n5_ := Aside0.mk (Kd.R_drew HO_613001.out)
           have n6_ := Aside0.mk (blk_drew BK595.out)
           have n7_ := Aside0.mk (blk_drew BK603.out)
           have n8_ := Aside0.mk (blk_drew BK612.out)
           have n9_ := Aside0.mk (below_drew1 HB.out)
           clear HO_596000
           clear HO_596001
           clear HO_604000
           clear HO_604001
           clear HO_613000
           clear HO_613001
           clear BK595
           clear BK603
           clear BK612
           clear HB
           have HO_596000 := n0_
           have HO_596001 := n1_
           have HO_604000 := n2_
           have HO_604001 := n3_
           have HO_613000 := n4_
           have HO_613001 := n5_
           have BK595 := n6_
           have BK603 := n7_
           have BK612 := n8_
           have HB := n9_
           clear n0_ n1_ n2_ n3_ n4_ n5_ n6_ n7_ n8_ n9_
           refine start_ (n := 24) (S := fun w' => w'.cell? ⟨gb612, 0, none⟩ = some (.slice Ao24 t605.length co24) ∧ w'.cell? ⟨gb612, 1, none⟩ = some (.slice Ao28 t608.length co28)) (ds := []) #[false, false, false, false, false, false, false, false, false, false, false, false, false, false, false, false, false, false, false, false, false, false, false, false] (by kernel_rfl) rfl rfl ⟨(blk_cell BK612.out 0).trans rfl, (blk_cell BK612.out 1).trans rfl⟩ (fun hHeld => ?_); refine with_tabW laws_FnSecPut.tab14 laws_FnSecPut.bits14 (fun HT_ HW_ => ?_)
           generalize wr.drew = w46 at HO_596000 HO_596001 HO_604000 HO_604001 HO_613000 HO_613001 BK595 BK603 BK612 HB hHeld ⊢
           refine pure_ (i := 0) (N := some 71) (v := ?_) (a' := ?_) #[true, false, false, false, false, false, false, false, false, false, false, false, false, false, false, false, false, false, false, false, false, false, false, false] rfl rfl (any_of HT_.out (by kernel_rfl)) (fun _ _ _ h => h) (Or.inl ⟨by rfl, ?_⟩) ?_ ?_
           rotate_left
           ·intro w'
            go_simp
            with_reducible rfl
           rotate_left
           ·simp only [Act.put, List.setIfInBounds_toArray, List.set_cons_zero, List.set_cons_succ, i64_w, i32_w]
            rfl
           refine pure_ (i := 1) (N := some 72) (v := ?_) (a' := ?_) #[true, true, false, false, false, false, false, false, false, false, false, false, false, false, false, false, false, false, false, false, false, false, false, false] rfl rfl (any_of HT_.out (by kernel_rfl)) (fun _ _ _ h => h) (Or.inl ⟨by rfl, ?_⟩) ?_ ?_
           rotate_left
           ·intro w'
            go_simp
            with_reducible rfl
           rotate_left
           ·simp only [Act.put, List.setIfInBounds_toArray, List.set_cons_zero, List.set_cons_succ, i64_w, i32_w]
            rfl
           refine pure_ (i := 2) (N := some 73) (v := ?_) (a' := ?_) #[true, true, true, false, false, false, false, false, false, false, false, false, false, false, false, false, false, false, false, false, false, false, false, false] rfl rfl (any_of HT_.out (by kernel_rfl)) (fun _ _ _ h => h) (Or.inl ⟨by rfl, ?_⟩) ?_ ?_
           rotate_left
           ·intro w'
            go_simp
            with_reducible rfl
           rotate_left
           ·simp only [Act.put, List.setIfInBounds_toArray, List.set_cons_zero, List.set_cons_succ, i64_w, i32_w]
            rfl
           refine pure_ (i := 3) (N := some 74) (v := ?_) (a' := ?_) #[true, true, true, true, false, false, false, false, false, false, false, false, false, false, false, false, false, false, false, false, false, false, false, false] rfl rfl (any_of HT_.out (by kernel_rfl)) (fun _ _ _ h => h) (Or.inl ⟨by rfl, ?_⟩) ?_ ?_
           rotate_left
           ·intro w'
            go_simp
            with_reducible rfl
           rotate_left
           ·simp only [Act.put, List.setIfInBounds_toArray, List.set_cons_zero, List.set_cons_succ, i64_w, i32_w]
            rfl
           refine pure_ (i := 5) (N := some 76) (v := ?_) (a' := ?_) #[true, true, true, true, false, true, false, false, false, false, false, false, false, false, false, false, false, false, false, false, false, false, false, false] rfl rfl (any_of HT_.out (by kernel_rfl)) (fun _ _ _ h => h) (Or.inl ⟨by rfl, ?_⟩) ?_ ?_
           rotate_left
           ·intro w'
            go_simp
            with_reducible rfl
           rotate_left
           ·simp only [Act.put, List.setIfInBounds_toArray, List.set_cons_zero, List.set_cons_succ, i64_w, i32_w]
            rfl
           refine pure_ (i := 7) (N := some 78) (v := ?_) (a' := ?_) #[true, true, true, true, false, true, false, true, false, false, false, false, false, false, false, false, false, false, false, false, false, false, false, false] rfl rfl (any_of HT_.out (by kernel_rfl)) (fun _ _ _ h => h) (Or.inl ⟨by rfl, ?_⟩) ?_ ?_
           rotate_left
           ·intro w'
            go_simp
            with_reducible rfl
           rotate_left
           ·simp only [Act.put, List.setIfInBounds_toArray, List.set_cons_zero, List.set_cons_succ, i64_w, i32_w]
            rfl
           refine take_ (i := 4) (N := some 75) (v := ?_) (a' := ?_) #[true, true, true, true, true, true, false, true, false, false, false, false, false, false, false, false, false, false, false, false, false, false, false, false] rfl rfl (take_ofW HT_.out HW_.out (by kernel_rfl)) (fun _ _ _ h => h) (Or.inl ⟨by rfl, ?_⟩) hHeld ?_ ?_
           rotate_left
           ·rintro w' ⟨s0, s1⟩
            go_simp
            with_reducible rfl
           rotate_left
           ·simp only [Act.put, List.setIfInBounds_toArray, List.set_cons_zero, List.set_cons_succ, i64_w, i32_w]
            rfl
           refine one_ (i := 6) (N := some 77) #[true, true, true, true, true, true, true, true, false, false, false, false, false, false, false, false, false, false, false, false, false, false, false, false] rfl rfl (one_of HT_.out (by kernel_rfl)) (by decide) (fun K hK => ?_)
           refine goes_ Try.func27 (by kernel_rfl) rfl #[.agg #[.slice Ao24 t605.length co24, .slice Ao28 t608.length co28], .int .i64 x11_2] (by rfl) rfl rfl bM ?_
           with_reducible refine (impl_SecLook.calls k2 _ _ t605 _ _ t608 x11_2 t616 _ ?side1 ?side2 ?side3 ?side4 A41.out).mono ?_
           (case side1 => exact pC (Kd.R_reads' HO_613000.out).2.2)
           (case side2 => exact (Kd.R_reads' HO_613000.out).2.1)
           (case side3 => exact pC (Kd.R_reads' HO_613001.out).2.2)
           (case side4 => exact (Kd.R_reads' HO_613001.out).2.1)
           rintro e w47 ⟨rfl, hb⟩
           refine ⟨_, rfl, ?_⟩
           have n0_ := Aside0.mk (Kd.R_below (pR HO_596000.out) hb)
           have n1_ := Aside0.mk (Kd.R_below (pR HO_596001.out) hb)
           have n2_ := Aside0.mk (Kd.R_below (pR HO_604000.out) hb)
           have n3_ := Aside0.mk (Kd.R_below (pR HO_604001.out) hb)
           have n4_ := Aside0.mk (Kd.R_below (pR HO_613000.out) hb)
           have n5_ := Aside0.mk (Kd.R_below (pR HO_613001.out) hb)
           have n6_ := Aside0.mk (blk_below (g := gb595) (o := .cells #[.slice Ao10 t587.length co10, .slice Ao12 t590.length co12] 26 (0, 0)) (pK BK595.out) hb)
           have n7_ := Aside0.mk (blk_below (g := gb603) (o := .cells #[.slice Ao15 t596.length co15, .slice Ao18 t599.length co18] 26 (0, 0)) (pK BK603.out) hb)
           have n8_ := Aside0.mk (blk_below (g := gb612) (o := .cells #[.slice Ao24 t605.length co24, .slice Ao28 t608.length co28] 26 (0, 0)) (pK BK612.out) hb)
           have n9_ := Aside0.mk (below_step (by repeat (first | (with_reducible first | exact HB.out | apply below_alloc | apply pw_below_drewN | apply below_drew1 | refine below_set ?_ GE595.out | refine below_set ?_ GE603.out | refine below_set ?_ GE612.out) | exact HB.out)) hb)
           clear HO_596000
           clear HO_596001
           clear HO_604000
           clear HO_604001
           clear HO_613000
           clear HO_613001
           clear BK595
           clear BK603
           clear BK612
           clear HB
           have HO_596000 := n0_
           have HO_596001 := n1_
           have HO_604000 := n2_
           have HO_604001 := n3_
           have HO_613000 := n4_
           have HO_613001 := n5_
           have BK595 := n6_
           have BK603 := n7_
           have BK612 := n8_
           have HB := n9_
           clear n0_ n1_ n2_ n3_ n4_ n5_ n6_ n7_ n8_ n9_
           (try clear hb)
           (try clear hb2)
           (try clear hk)
           (try clear hi)
           refine hK.out _ _ ⟨(blk_cell BK612.out 0).trans rfl, (blk_cell BK612.out 1).trans rfl⟩ (fun hHeld => ?_)
           clear hK K
           refine norm_ (a' := ?_) ?_ ?_
           rotate_left
           ·show Act.put _ (some 77) _ = _
            simp only [Act.put, List.setIfInBounds_toArray, List.set_cons_zero, List.set_cons_succ, i64_w, i32_w]
            rfl
           refine pure_ (i := 8) (N := some 79) (v := ?_) (a' := ?_) #[true, true, true, true, true, true, true, true, true, false, false, false, false, false, false, false, false, false, false, false, false, false, false, false] rfl rfl (any_of HT_.out (by kernel_rfl)) (fun _ _ _ h => h) (Or.inl ⟨by rfl, ?_⟩) ?_ ?_
           rotate_left
           ·intro w'
            go_simp
            with_reducible rfl
           rotate_left
           ·simp only [Act.put, List.setIfInBounds_toArray, List.set_cons_zero, List.set_cons_succ, i64_w, i32_w]
            rfl
           refine pure_ (i := 9) (N := some 80) (v := ?_) (a' := ?_) #[true, true, true, true, true, true, true, true, true, true, false, false, false, false, false, false, false, false, false, false, false, false, false, false] rfl rfl (any_of HT_.out (by kernel_rfl)) (fun _ _ _ h => h) (Or.inl ⟨by rfl, ?_⟩) ?_ ?_
           rotate_left
           ·intro w'
            go_simp
            with_reducible rfl
           rotate_left
           ·simp only [Act.put, List.setIfInBounds_toArray, List.set_cons_zero, List.set_cons_succ, i64_w, i32_w]
            rfl
           refine pure_ (i := 10) (N := some 81) (v := ?_) (a' := ?_) #[true, true, true, true, true, true, true, true, true, true, true, false, false, false, false, false, false, false, false, false, false, false, false, false] rfl rfl (any_of HT_.out (by kernel_rfl)) (fun _ _ _ h => h) (Or.inl ⟨by rfl, ?_⟩) ?_ ?_
           rotate_left
           ·intro w'
            go_simp
            with_reducible rfl
           rotate_left
           ·simp only [Act.put, List.setIfInBounds_toArray, List.set_cons_zero, List.set_cons_succ, i64_w, i32_w]
            rfl
           refine pure_ (i := 11) (N := some 82) (v := ?_) (a' := ?_) #[true, true, true, true, true, true, true, true, true, true, true, true, false, false, false, false, false, false, false, false, false, false, false, false] rfl rfl (any_of HT_.out (by kernel_rfl)) (fun _ _ _ h => h) (Or.inl ⟨by rfl, ?_⟩) ?_ ?_
           rotate_left
           ·intro w'
            go_simp
            with_reducible rfl
           rotate_left
           ·simp only [Act.put, List.setIfInBounds_toArray, List.set_cons_zero, List.set_cons_succ, i64_w, i32_w]
            rfl
           refine pure_ (i := 12) (N := some 83) (v := ?_) (a' := ?_) #[true, true, true, true, true, true, true, true, true, true, true, true, true, false, false, false, false, false, false, false, false, false, false, false] rfl rfl (any_of HT_.out (by kernel_rfl)) (fun _ _ _ h => h) (Or.inl ⟨by rfl, ?_⟩) ?_ ?_
           rotate_left
           ·intro w'
            go_simp
            with_reducible rfl
           rotate_left
           ·simp only [Act.put, List.setIfInBounds_toArray, List.set_cons_zero, List.set_cons_succ, i64_w, i32_w]
            rfl
           refine pure_ (i := 13) (N := some 84) (v := ?_) (a' := ?_) #[true, true, true, true, true, true, true, true, true, true, true, true, true, true, false, false, false, false, false, false, false, false, false, false] rfl rfl (any_of HT_.out (by kernel_rfl)) (fun _ _ _ h => h) (Or.inl ⟨by rfl, ?_⟩) ?_ ?_
           rotate_left
           ·intro w'
            go_simp
            with_reducible rfl
           rotate_left
           ·simp only [Act.put, List.setIfInBounds_toArray, List.set_cons_zero, List.set_cons_succ, i64_w, i32_w]
            rfl
           refine pure_ (i := 14) (N := some 85) (v := ?_) (a' := ?_) #[true, true, true, true, true, true, true, true, true, true, true, true, true, true, true, false, false, false, false, false, false, false, false, false] rfl rfl (any_of HT_.out (by kernel_rfl)) (fun _ _ _ h => h) (Or.inl ⟨by rfl, ?_⟩) ?_ ?_
           rotate_left
           ·intro w'
            go_simp
            with_reducible rfl
           rotate_left
           ·simp only [Act.put, List.setIfInBounds_toArray, List.set_cons_zero, List.set_cons_succ, i64_w, i32_w]
            rfl
           refine pure_ (i := 15) (N := some 86) (v := undef) (a' := ?_) #[true, true, true, true, true, true, true, true, true, true, true, true, true, true, true, true, false, false, false, false, false, false, false, false] rfl rfl (any_of HT_.out (by kernel_rfl)) (fun _ _ _ h => h) (Or.inr ⟨by rfl, rfl⟩) ?_ ?_
           rotate_left
           ·simp only [Act.put, List.setIfInBounds_toArray, List.set_cons_zero, List.set_cons_succ, i64_w, i32_w]
            rfl
           refine pure_ (i := 16) (N := some 87) (v := undef) (a' := ?_) #[true, true, true, true, true, true, true, true, true, true, true, true, true, true, true, true, true, false, false, false, false, false, false, false] rfl rfl (any_of HT_.out (by kernel_rfl)) (fun _ _ _ h => h) (Or.inr ⟨by rfl, rfl⟩) ?_ ?_
           rotate_left
           ·simp only [Act.put, List.setIfInBounds_toArray, List.set_cons_zero, List.set_cons_succ, i64_w, i32_w]
            rfl
           refine pure_ (i := 17) (N := some 88) (v := undef) (a' := ?_) #[true, true, true, true, true, true, true, true, true, true, true, true, true, true, true, true, true, true, false, false, false, false, false, false] rfl rfl (any_of HT_.out (by kernel_rfl)) (fun _ _ _ h => h) (Or.inr ⟨by rfl, rfl⟩) ?_ ?_
           rotate_left
           ·simp only [Act.put, List.setIfInBounds_toArray, List.set_cons_zero, List.set_cons_succ, i64_w, i32_w]
            rfl
           refine pure_ (i := 18) (N := some 89) (v := undef) (a' := ?_) #[true, true, true, true, true, true, true, true, true, true, true, true, true, true, true, true, true, true, true, false, false, false, false, false] rfl rfl (any_of HT_.out (by kernel_rfl)) (fun _ _ _ h => h) (Or.inr ⟨by rfl, rfl⟩) ?_ ?_
           rotate_left
           ·simp only [Act.put, List.setIfInBounds_toArray, List.set_cons_zero, List.set_cons_succ, i64_w, i32_w]
            rfl
           refine pure_ (i := 19) (N := some 90) (v := undef) (a' := ?_) #[true, true, true, true, true, true, true, true, true, true, true, true, true, true, true, true, true, true, true, true, false, false, false, false] rfl rfl (any_of HT_.out (by kernel_rfl)) (fun _ _ _ h => h) (Or.inr ⟨by rfl, rfl⟩) ?_ ?_
           rotate_left
           ·simp only [Act.put, List.setIfInBounds_toArray, List.set_cons_zero, List.set_cons_succ, i64_w, i32_w]
            rfl
           refine pure_ (i := 20) (N := some 91) (v := undef) (a' := ?_) #[true, true, true, true, true, true, true, true, true, true, true, true, true, true, true, true, true, true, true, true, true, false, false, false] rfl rfl (any_of HT_.out (by kernel_rfl)) (fun _ _ _ h => h) (Or.inr ⟨by rfl, rfl⟩) ?_ ?_
           rotate_left
           ·simp only [Act.put, List.setIfInBounds_toArray, List.set_cons_zero, List.set_cons_succ, i64_w, i32_w]
            rfl
           refine pure_ (i := 21) (N := some 92) (v := undef) (a' := ?_) #[true, true, true, true, true, true, true, true, true, true, true, true, true, true, true, true, true, true, true, true, true, true, false, false] rfl rfl (any_of HT_.out (by kernel_rfl)) (fun _ _ _ h => h) (Or.inr ⟨by rfl, rfl⟩) ?_ ?_
           rotate_left
           ·simp only [Act.put, List.setIfInBounds_toArray, List.set_cons_zero, List.set_cons_succ, i64_w, i32_w]
            rfl
           refine pure_ (i := 22) (N := some 93) (v := ?_) (a' := ?_) #[true, true, true, true, true, true, true, true, true, true, true, true, true, true, true, true, true, true, true, true, true, true, true, false] rfl rfl (any_of HT_.out (by kernel_rfl)) (fun _ _ _ h => h) (Or.inl ⟨by rfl, ?_⟩) ?_ ?_
           rotate_left
           ·intro w'
            go_simp
            with_reducible rfl
           rotate_left
           ·simp only [Act.put, List.setIfInBounds_toArray, List.set_cons_zero, List.set_cons_succ, i64_w, i32_w]
            rfl
           refine pure_ (i := 23) (N := some 94) (v := ?_) (a' := ?_) #[true, true, true, true, true, true, true, true, true, true, true, true, true, true, true, true, true, true, true, true, true, true, true, true] rfl rfl (any_of HT_.out (by kernel_rfl)) (fun _ _ _ h => h) (Or.inl ⟨by rfl, ?_⟩) ?_ ?_
           rotate_left
           ·intro w'
            go_simp
            with_reducible rfl
           rotate_left
           ·simp only [Act.put, List.setIfInBounds_toArray, List.set_cons_zero, List.set_cons_succ, i64_w, i32_w]
            rfl
           refine done_ (done_of HT_.out (by kernel_rfl)) ?_
           try go_wp2
           go_roundg k2
           case measure => have := HJ6.out; have := HK2.out; omega
           case rel => exact ⟨(wrap64 (x11_2 + 1)), (by first | rfl | (simp; done) | (simp [*]; done)), H', ⟨by have := HJ6.out; have := HK2.out; omega⟩, ⟨pR HO_596000.out⟩, ⟨pR HO_596001.out⟩, ⟨pR HO_604000.out⟩, ⟨pR HO_604001.out⟩, ⟨pR HO_613000.out⟩, ⟨pR HO_613001.out⟩, ⟨pK BK595.out⟩, ⟨pK BK603.out⟩, ⟨pK BK612.out⟩, ⟨by repeat (first | (with_reducible first | exact HB.out | apply below_alloc | apply pw_below_drewN | apply below_drew1 | refine below_set ?_ GE595.out | refine below_set ?_ GE603.out | refine below_set ?_ GE612.out) | exact HB.out)⟩⟩
          ·rw [if_neg c42] at H
           have c42b0 : (t616.toList == t594.toList) = false := beq_eq_false_iff_ne.mpr c42
           have c42b1 : (t616.toList != t594.toList) = true := bne_iff_ne.mpr c42
           obtain rfl := Option.some.inj H
           have hnb48 := NB595_603.out
           have hnc48 := NB603_595.out
           have hnb49 := NB595_612.out
           have hnc49 := NB612_595.out
           have hcz50_0 : wr.cell? ⟨gb595, 0, none⟩ = some (.slice Ao10 t587.length co10) := (blk_cell BK595.out 0).trans rfl
           have hcz50_1 : wr.cell? ⟨gb595, 1, none⟩ = some (.slice Ao12 t590.length co12) := (blk_cell BK595.out 1).trans rfl
           have hfz50_0 := blk_frozen BK595.out 0
           have hfz50_1 := blk_frozen BK595.out 1
           try go_wp2
           have n0_ := Aside0.mk (Kd.R_drew HO_596000.out)
           have n1_ := Aside0.mk (Kd.R_drew HO_596001.out)
           have n2_ := Aside0.mk (Kd.R_drew HO_604000.out)
           have n3_ := Aside0.mk (Kd.R_drew HO_604001.out)
           have n4_ := Aside0.mk (Kd.R_drew HO_613000.out)
           have n5_ := Aside0.mk (Kd.R_drew HO_613001.out)
           have n6_ := Aside0.mk (blk_drew BK595.out)
           have n7_ := Aside0.mk (blk_drew BK603.out)
           have n8_ := Aside0.mk (blk_drew BK612.out)
           have n9_ := Aside0.mk (below_drew1 HB.out)
           clear HO_596000
           clear HO_596001
           clear HO_604000
           clear HO_604001
           clear HO_613000
           clear HO_613001
           clear BK595
           clear BK603
           clear BK612
           clear HB
           have HO_596000 := n0_
           have HO_596001 := n1_
           have HO_604000 := n2_
           have HO_604001 := n3_
           have HO_613000 := n4_
           have HO_613001 := n5_
           have BK595 := n6_
           have BK603 := n7_
           have BK612 := n8_
           have HB := n9_
           clear n0_ n1_ n2_ n3_ n4_ n5_ n6_ n7_ n8_ n9_
           refine start_ (n := 24) (S := fun w' => w'.cell? ⟨gb612, 0, none⟩ = some (.slice Ao24 t605.length co24) ∧ w'.cell? ⟨gb612, 1, none⟩ = some (.slice Ao28 t608.length co28)) (ds := []) #[false, false, false, false, false, false, false, false, false, false, false, false, false, false, false, false, false, false, false, false, false, false, false, false] (by kernel_rfl) rfl rfl ⟨(blk_cell BK612.out 0).trans rfl, (blk_cell BK612.out 1).trans rfl⟩ (fun hHeld => ?_); refine with_tabW laws_FnSecPut.tab14 laws_FnSecPut.bits14 (fun HT_ HW_ => ?_)
           generalize wr.drew = w51 at HO_596000 HO_596001 HO_604000 HO_604001 HO_613000 HO_613001 BK595 BK603 BK612 HB hHeld ⊢
           refine pure_ (i := 0) (N := some 71) (v := ?_) (a' := ?_) #[true, false, false, false, false, false, false, false, false, false, false, false, false, false, false, false, false, false, false, false, false, false, false, false] rfl rfl (any_of HT_.out (by kernel_rfl)) (fun _ _ _ h => h) (Or.inl ⟨by rfl, ?_⟩) ?_ ?_
           rotate_left
           ·intro w'
            go_simp
            with_reducible rfl
           rotate_left
           ·simp only [Act.put, List.setIfInBounds_toArray, List.set_cons_zero, List.set_cons_succ, i64_w, i32_w]
            rfl
           refine pure_ (i := 1) (N := some 72) (v := ?_) (a' := ?_) #[true, true, false, false, false, false, false, false, false, false, false, false, false, false, false, false, false, false, false, false, false, false, false, false] rfl rfl (any_of HT_.out (by kernel_rfl)) (fun _ _ _ h => h) (Or.inl ⟨by rfl, ?_⟩) ?_ ?_
           rotate_left
           ·intro w'
            go_simp
            with_reducible rfl
           rotate_left
           ·simp only [Act.put, List.setIfInBounds_toArray, List.set_cons_zero, List.set_cons_succ, i64_w, i32_w]
            rfl
           refine pure_ (i := 2) (N := some 73) (v := ?_) (a' := ?_) #[true, true, true, false, false, false, false, false, false, false, false, false, false, false, false, false, false, false, false, false, false, false, false, false] rfl rfl (any_of HT_.out (by kernel_rfl)) (fun _ _ _ h => h) (Or.inl ⟨by rfl, ?_⟩) ?_ ?_
           rotate_left
           ·intro w'
            go_simp
            with_reducible rfl
           rotate_left
           ·simp only [Act.put, List.setIfInBounds_toArray, List.set_cons_zero, List.set_cons_succ, i64_w, i32_w]
            rfl
           refine pure_ (i := 3) (N := some 74) (v := ?_) (a' := ?_) #[true, true, true, true, false, false, false, false, false, false, false, false, false, false, false, false, false, false, false, false, false, false, false, false] rfl rfl (any_of HT_.out (by kernel_rfl)) (fun _ _ _ h => h) (Or.inl ⟨by rfl, ?_⟩) ?_ ?_
           rotate_left
           ·intro w'
            go_simp
            with_reducible rfl
           rotate_left
           ·simp only [Act.put, List.setIfInBounds_toArray, List.set_cons_zero, List.set_cons_succ, i64_w, i32_w]
            rfl
           refine pure_ (i := 5) (N := some 76) (v := ?_) (a' := ?_) #[true, true, true, true, false, true, false, false, false, false, false, false, false, false, false, false, false, false, false, false, false, false, false, false] rfl rfl (any_of HT_.out (by kernel_rfl)) (fun _ _ _ h => h) (Or.inl ⟨by rfl, ?_⟩) ?_ ?_
           rotate_left
           ·intro w'
            go_simp
            with_reducible rfl
           rotate_left
           ·simp only [Act.put, List.setIfInBounds_toArray, List.set_cons_zero, List.set_cons_succ, i64_w, i32_w]
            rfl
           refine pure_ (i := 7) (N := some 78) (v := ?_) (a' := ?_) #[true, true, true, true, false, true, false, true, false, false, false, false, false, false, false, false, false, false, false, false, false, false, false, false] rfl rfl (any_of HT_.out (by kernel_rfl)) (fun _ _ _ h => h) (Or.inl ⟨by rfl, ?_⟩) ?_ ?_
           rotate_left
           ·intro w'
            go_simp
            with_reducible rfl
           rotate_left
           ·simp only [Act.put, List.setIfInBounds_toArray, List.set_cons_zero, List.set_cons_succ, i64_w, i32_w]
            rfl
           refine take_ (i := 4) (N := some 75) (v := ?_) (a' := ?_) #[true, true, true, true, true, true, false, true, false, false, false, false, false, false, false, false, false, false, false, false, false, false, false, false] rfl rfl (take_ofW HT_.out HW_.out (by kernel_rfl)) (fun _ _ _ h => h) (Or.inl ⟨by rfl, ?_⟩) hHeld ?_ ?_
           rotate_left
           ·rintro w' ⟨s0, s1⟩
            go_simp
            with_reducible rfl
           rotate_left
           ·simp only [Act.put, List.setIfInBounds_toArray, List.set_cons_zero, List.set_cons_succ, i64_w, i32_w]
            rfl
           refine one_ (i := 6) (N := some 77) #[true, true, true, true, true, true, true, true, false, false, false, false, false, false, false, false, false, false, false, false, false, false, false, false] rfl rfl (one_of HT_.out (by kernel_rfl)) (by decide) (fun K hK => ?_)
           refine goes_ Try.func27 (by kernel_rfl) rfl #[.agg #[.slice Ao24 t605.length co24, .slice Ao28 t608.length co28], .int .i64 x11_2] (by rfl) rfl rfl bM ?_
           with_reducible refine (impl_SecLook.calls k2 _ _ t605 _ _ t608 x11_2 t616 _ ?side1 ?side2 ?side3 ?side4 A41.out).mono ?_
           (case side1 => exact pC (Kd.R_reads' HO_613000.out).2.2)
           (case side2 => exact (Kd.R_reads' HO_613000.out).2.1)
           (case side3 => exact pC (Kd.R_reads' HO_613001.out).2.2)
           (case side4 => exact (Kd.R_reads' HO_613001.out).2.1)
           rintro e w52 ⟨rfl, hb⟩
           refine ⟨_, rfl, ?_⟩
           have n0_ := Aside0.mk (Kd.R_below (pR HO_596000.out) hb)
           have n1_ := Aside0.mk (Kd.R_below (pR HO_596001.out) hb)
           have n2_ := Aside0.mk (Kd.R_below (pR HO_604000.out) hb)
           have n3_ := Aside0.mk (Kd.R_below (pR HO_604001.out) hb)
           have n4_ := Aside0.mk (Kd.R_below (pR HO_613000.out) hb)
           have n5_ := Aside0.mk (Kd.R_below (pR HO_613001.out) hb)
           have n6_ := Aside0.mk (blk_below (g := gb595) (o := .cells #[.slice Ao10 t587.length co10, .slice Ao12 t590.length co12] 26 (0, 0)) (pK BK595.out) hb)
           have n7_ := Aside0.mk (blk_below (g := gb603) (o := .cells #[.slice Ao15 t596.length co15, .slice Ao18 t599.length co18] 26 (0, 0)) (pK BK603.out) hb)
           have n8_ := Aside0.mk (blk_below (g := gb612) (o := .cells #[.slice Ao24 t605.length co24, .slice Ao28 t608.length co28] 26 (0, 0)) (pK BK612.out) hb)
           have n9_ := Aside0.mk (below_step (by repeat (first | (with_reducible first | exact HB.out | apply below_alloc | apply pw_below_drewN | apply below_drew1 | refine below_set ?_ GE595.out | refine below_set ?_ GE603.out | refine below_set ?_ GE612.out) | exact HB.out)) hb)
           clear HO_596000
           clear HO_596001
           clear HO_604000
           clear HO_604001
           clear HO_613000
           clear HO_613001
           clear BK595
           clear BK603
           clear BK612
           clear HB
           have HO_596000 := n0_
           have HO_596001 := n1_
           have HO_604000 := n2_
           have HO_604001 := n3_
           have HO_613000 := n4_
           have HO_613001 := n5_
           have BK595 := n6_
           have BK603 := n7_
           have BK612 := n8_
           have HB := n9_
           clear n0_ n1_ n2_ n3_ n4_ n5_ n6_ n7_ n8_ n9_
           (try clear hb)
           (try clear hb2)
           (try clear hk)
           (try clear hi)
           refine hK.out _ _ ⟨(blk_cell BK612.out 0).trans rfl, (blk_cell BK612.out 1).trans rfl⟩ (fun hHeld => ?_)
           clear hK K
           refine norm_ (a' := ?_) ?_ ?_
           rotate_left
           ·show Act.put _ (some 77) _ = _
            simp only [Act.put, List.setIfInBounds_toArray, List.set_cons_zero, List.set_cons_succ, i64_w, i32_w]
            rfl
           refine pure_ (i := 8) (N := some 79) (v := ?_) (a' := ?_) #[true, true, true, true, true, true, true, true, true, false, false, false, false, false, false, false, false, false, false, false, false, false, false, false] rfl rfl (any_of HT_.out (by kernel_rfl)) (fun _ _ _ h => h) (Or.inl ⟨by rfl, ?_⟩) ?_ ?_
           rotate_left
           ·intro w'
            go_simp
            with_reducible rfl
           rotate_left
           ·simp only [Act.put, List.setIfInBounds_toArray, List.set_cons_zero, List.set_cons_succ, i64_w, i32_w]
            rfl
           refine pure_ (i := 9) (N := some 80) (v := ?_) (a' := ?_) #[true, true, true, true, true, true, true, true, true, true, false, false, false, false, false, false, false, false, false, false, false, false, false, false] rfl rfl (any_of HT_.out (by kernel_rfl)) (fun _ _ _ h => h) (Or.inl ⟨by rfl, ?_⟩) ?_ ?_
           rotate_left
           ·intro w'
            go_simp
            with_reducible rfl
           rotate_left
           ·simp only [Act.put, List.setIfInBounds_toArray, List.set_cons_zero, List.set_cons_succ, i64_w, i32_w]
            rfl
           refine pure_ (i := 10) (N := some 81) (v := ?_) (a' := ?_) #[true, true, true, true, true, true, true, true, true, true, true, false, false, false, false, false, false, false, false, false, false, false, false, false] rfl rfl (any_of HT_.out (by kernel_rfl)) (fun _ _ _ h => h) (Or.inl ⟨by rfl, ?_⟩) ?_ ?_
           rotate_left
           ·intro w'
            go_simp
            with_reducible rfl
           rotate_left
           ·simp only [Act.put, List.setIfInBounds_toArray, List.set_cons_zero, List.set_cons_succ, i64_w, i32_w]
            rfl
           refine pure_ (i := 11) (N := some 82) (v := undef) (a' := ?_) #[true, true, true, true, true, true, true, true, true, true, true, true, false, false, false, false, false, false, false, false, false, false, false, false] rfl rfl (any_of HT_.out (by kernel_rfl)) (fun _ _ _ h => h) (Or.inr ⟨by rfl, rfl⟩) ?_ ?_
           rotate_left
           ·simp only [Act.put, List.setIfInBounds_toArray, List.set_cons_zero, List.set_cons_succ, i64_w, i32_w]
            rfl
           refine pure_ (i := 12) (N := some 83) (v := undef) (a' := ?_) #[true, true, true, true, true, true, true, true, true, true, true, true, true, false, false, false, false, false, false, false, false, false, false, false] rfl rfl (any_of HT_.out (by kernel_rfl)) (fun _ _ _ h => h) (Or.inr ⟨by rfl, rfl⟩) ?_ ?_
           rotate_left
           ·simp only [Act.put, List.setIfInBounds_toArray, List.set_cons_zero, List.set_cons_succ, i64_w, i32_w]
            rfl
           refine pure_ (i := 13) (N := some 84) (v := undef) (a' := ?_) #[true, true, true, true, true, true, true, true, true, true, true, true, true, true, false, false, false, false, false, false, false, false, false, false] rfl rfl (any_of HT_.out (by kernel_rfl)) (fun _ _ _ h => h) (Or.inr ⟨by rfl, rfl⟩) ?_ ?_
           rotate_left
           ·simp only [Act.put, List.setIfInBounds_toArray, List.set_cons_zero, List.set_cons_succ, i64_w, i32_w]
            rfl
           refine pure_ (i := 14) (N := some 85) (v := undef) (a' := ?_) #[true, true, true, true, true, true, true, true, true, true, true, true, true, true, true, false, false, false, false, false, false, false, false, false] rfl rfl (any_of HT_.out (by kernel_rfl)) (fun _ _ _ h => h) (Or.inr ⟨by rfl, rfl⟩) ?_ ?_
           rotate_left
           ·simp only [Act.put, List.setIfInBounds_toArray, List.set_cons_zero, List.set_cons_succ, i64_w, i32_w]
            rfl
           refine pure_ (i := 15) (N := some 86) (v := undef) (a' := ?_) #[true, true, true, true, true, true, true, true, true, true, true, true, true, true, true, true, false, false, false, false, false, false, false, false] rfl rfl (any_of HT_.out (by kernel_rfl)) (fun _ _ _ h => h) (Or.inr ⟨by rfl, rfl⟩) ?_ ?_
           rotate_left
           ·simp only [Act.put, List.setIfInBounds_toArray, List.set_cons_zero, List.set_cons_succ, i64_w, i32_w]
            rfl
           refine pure_ (i := 16) (N := some 87) (v := undef) (a' := ?_) #[true, true, true, true, true, true, true, true, true, true, true, true, true, true, true, true, true, false, false, false, false, false, false, false] rfl rfl (any_of HT_.out (by kernel_rfl)) (fun _ _ _ h => h) (Or.inr ⟨by rfl, rfl⟩) ?_ ?_
           rotate_left
           ·simp only [Act.put, List.setIfInBounds_toArray, List.set_cons_zero, List.set_cons_succ, i64_w, i32_w]
            rfl
           refine pure_ (i := 17) (N := some 88) (v := undef) (a' := ?_) #[true, true, true, true, true, true, true, true, true, true, true, true, true, true, true, true, true, true, false, false, false, false, false, false] rfl rfl (any_of HT_.out (by kernel_rfl)) (fun _ _ _ h => h) (Or.inr ⟨by rfl, rfl⟩) ?_ ?_
           rotate_left
           ·simp only [Act.put, List.setIfInBounds_toArray, List.set_cons_zero, List.set_cons_succ, i64_w, i32_w]
            rfl
           refine pure_ (i := 18) (N := some 89) (v := undef) (a' := ?_) #[true, true, true, true, true, true, true, true, true, true, true, true, true, true, true, true, true, true, true, false, false, false, false, false] rfl rfl (any_of HT_.out (by kernel_rfl)) (fun _ _ _ h => h) (Or.inr ⟨by rfl, rfl⟩) ?_ ?_
           rotate_left
           ·simp only [Act.put, List.setIfInBounds_toArray, List.set_cons_zero, List.set_cons_succ, i64_w, i32_w]
            rfl
           refine pure_ (i := 19) (N := some 90) (v := undef) (a' := ?_) #[true, true, true, true, true, true, true, true, true, true, true, true, true, true, true, true, true, true, true, true, false, false, false, false] rfl rfl (any_of HT_.out (by kernel_rfl)) (fun _ _ _ h => h) (Or.inr ⟨by rfl, rfl⟩) ?_ ?_
           rotate_left
           ·simp only [Act.put, List.setIfInBounds_toArray, List.set_cons_zero, List.set_cons_succ, i64_w, i32_w]
            rfl
           refine pure_ (i := 20) (N := some 91) (v := undef) (a' := ?_) #[true, true, true, true, true, true, true, true, true, true, true, true, true, true, true, true, true, true, true, true, true, false, false, false] rfl rfl (any_of HT_.out (by kernel_rfl)) (fun _ _ _ h => h) (Or.inr ⟨by rfl, rfl⟩) ?_ ?_
           rotate_left
           ·simp only [Act.put, List.setIfInBounds_toArray, List.set_cons_zero, List.set_cons_succ, i64_w, i32_w]
            rfl
           refine pure_ (i := 21) (N := some 92) (v := undef) (a' := ?_) #[true, true, true, true, true, true, true, true, true, true, true, true, true, true, true, true, true, true, true, true, true, true, false, false] rfl rfl (any_of HT_.out (by kernel_rfl)) (fun _ _ _ h => h) (Or.inr ⟨by rfl, rfl⟩) ?_ ?_
           rotate_left
           ·simp only [Act.put, List.setIfInBounds_toArray, List.set_cons_zero, List.set_cons_succ, i64_w, i32_w]
            rfl
           refine pure_ (i := 22) (N := some 93) (v := undef) (a' := ?_) #[true, true, true, true, true, true, true, true, true, true, true, true, true, true, true, true, true, true, true, true, true, true, true, false] rfl rfl (any_of HT_.out (by kernel_rfl)) (fun _ _ _ h => h) (Or.inr ⟨by rfl, rfl⟩) ?_ ?_
           rotate_left
           ·simp only [Act.put, List.setIfInBounds_toArray, List.set_cons_zero, List.set_cons_succ, i64_w, i32_w]
            rfl
           refine pure_ (i := 23) (N := some 94) (v := ?_) (a' := ?_) #[true, true, true, true, true, true, true, true, true, true, true, true, true, true, true, true, true, true, true, true, true, true, true, true] rfl rfl (any_of HT_.out (by kernel_rfl)) (fun _ _ _ h => h) (Or.inl ⟨by rfl, ?_⟩) ?_ ?_
           rotate_left
           ·intro w'
            go_simp
            with_reducible rfl
           rotate_left
           ·simp only [Act.put, List.setIfInBounds_toArray, List.set_cons_zero, List.set_cons_succ, i64_w, i32_w]
            rfl
           refine done_ (done_of HT_.out (by kernel_rfl)) ?_
           try go_wp2
           go_ret
           exact ⟨by first | rfl | (simp [errW_none, errW_some] <;> rfl) | (simp [*, errW_none, errW_some] <;> rfl), by repeat (first | (with_reducible first | exact HB.out | apply below_alloc | apply pw_below_drewN | apply below_drew1 | refine below_set ?_ GE595.out | refine below_set ?_ GE603.out | refine below_set ?_ GE612.out) | exact HB.out)⟩
         ·rw [if_neg c40] at H
          have c40b0 : (x11_2 == t593) = false := beq_eq_false_iff_ne.mpr c40
          have c40b1 : (x11_2 != t593) = true := bne_iff_ne.mpr c40
          replace H := Option.bind_eq_some_iff.mp H
          obtain ⟨t617, A530, H⟩ := H
          replace H : ((impl_SecLook.f k2 t587 t590 x11_2).bind fun t618 => (if t617.toList = t618.toList then (laws_FnSecPut.l0 k2 t593 t594 (wrap64 (x11_2 + 1)) t587 t590 t605 t608) else (some false))) = some r := H
          have A53 := Aside0.mk A530
          clear A530
          replace H := Option.bind_eq_some_iff.mp H
          obtain ⟨t618, A540, H⟩ := H
          replace H : (if t617.toList = t618.toList then (laws_FnSecPut.l0 k2 t593 t594 (wrap64 (x11_2 + 1)) t587 t590 t605 t608) else (some false)) = some r := H
          have A54 := Aside0.mk A540
          clear A540
          by_cases c55 : t617.toList = t618.toList
          ·rw [if_pos c55] at H
           have c55b0 : (t617.toList == t618.toList) = true := beq_iff_eq.mpr c55
           have c55b1 : (t617.toList != t618.toList) = false := bne_eq_false_iff_eq.mpr c55
           clear c55
           have H' := Aside0.mk H
           clear H
           have hnb56 := NB595_603.out
           have hnc56 := NB603_595.out
           have hnb57 := NB595_612.out
           have hnc57 := NB612_595.out
           have hcz58_0 : wr.cell? ⟨gb595, 0, none⟩ = some (.slice Ao10 t587.length co10) := (blk_cell BK595.out 0).trans rfl
           have hcz58_1 : wr.cell? ⟨gb595, 1, none⟩ = some (.slice Ao12 t590.length co12) := (blk_cell BK595.out 1).trans rfl
           have hfz58_0 := blk_frozen BK595.out 0
           have hfz58_1 := blk_frozen BK595.out 1
           try go_wp2
           have n0_ := Aside0.mk (Kd.R_drew HO_596000.out)
           have n1_ := Aside0.mk (Kd.R_drew HO_596001.out)
           have n2_ := Aside0.mk (Kd.R_drew HO_604000.out)
           have n3_ := Aside0.mk (Kd.R_drew HO_604001.out)
           have n4_ := Aside0.mk (Kd.R_drew HO_613000.out)
           have n5_ := Aside0.mk (Kd.R_drew HO_613001.out)
           have n6_ := Aside0.mk (blk_drew BK595.out)
           have n7_ := Aside0.mk (blk_drew BK603.out)
           have n8_ := Aside0.mk (blk_drew BK612.out)
           have n9_ := Aside0.mk (below_drew1 HB.out)
           clear HO_596000
           clear HO_596001
           clear HO_604000
           clear HO_604001
           clear HO_613000
           clear HO_613001
           clear BK595
           clear BK603
           clear BK612
           clear HB
           have HO_596000 := n0_
           have HO_596001 := n1_
           have HO_604000 := n2_
           have HO_604001 := n3_
           have HO_613000 := n4_
           have HO_613001 := n5_
           have BK595 := n6_
           have BK603 := n7_
           have BK612 := n8_
           have HB := n9_
           clear n0_ n1_ n2_ n3_ n4_ n5_ n6_ n7_ n8_ n9_
           refine start_ (n := 24) (S := fun w' => w'.cell? ⟨gb612, 0, none⟩ = some (.slice Ao24 t605.length co24) ∧ w'.cell? ⟨gb612, 1, none⟩ = some (.slice Ao28 t608.length co28) ∧ w'.cell? ⟨gb595, 0, none⟩ = some (.slice Ao10 t587.length co10) ∧ w'.cell? ⟨gb595, 1, none⟩ = some (.slice Ao12 t590.length co12)) (ds := []) #[false, false, false, false, false, false, false, false, false, false, false, false, false, false, false, false, false, false, false, false, false, false, false, false] (by kernel_rfl) rfl rfl ⟨(blk_cell BK612.out 0).trans rfl, (blk_cell BK612.out 1).trans rfl, (blk_cell BK595.out 0).trans rfl, (blk_cell BK595.out 1).trans rfl⟩ (fun hHeld => ?_); refine with_tabW laws_FnSecPut.tab14 laws_FnSecPut.bits14 (fun HT_ HW_ => ?_)
           generalize wr.drew = w59 at HO_596000 HO_596001 HO_604000 HO_604001 HO_613000 HO_613001 BK595 BK603 BK612 HB hHeld ⊢
           refine pure_ (i := 0) (N := some 71) (v := ?_) (a' := ?_) #[true, false, false, false, false, false, false, false, false, false, false, false, false, false, false, false, false, false, false, false, false, false, false, false] rfl rfl (any_of HT_.out (by kernel_rfl)) (fun _ _ _ h => h) (Or.inl ⟨by rfl, ?_⟩) ?_ ?_
           rotate_left
           ·intro w'
            go_simp
            with_reducible rfl
           rotate_left
           ·simp only [Act.put, List.setIfInBounds_toArray, List.set_cons_zero, List.set_cons_succ, i64_w, i32_w]
            rfl
           refine pure_ (i := 1) (N := some 72) (v := ?_) (a' := ?_) #[true, true, false, false, false, false, false, false, false, false, false, false, false, false, false, false, false, false, false, false, false, false, false, false] rfl rfl (any_of HT_.out (by kernel_rfl)) (fun _ _ _ h => h) (Or.inl ⟨by rfl, ?_⟩) ?_ ?_
           rotate_left
           ·intro w'
            go_simp
            with_reducible rfl
           rotate_left
           ·simp only [Act.put, List.setIfInBounds_toArray, List.set_cons_zero, List.set_cons_succ, i64_w, i32_w]
            rfl
           refine pure_ (i := 2) (N := some 73) (v := ?_) (a' := ?_) #[true, true, true, false, false, false, false, false, false, false, false, false, false, false, false, false, false, false, false, false, false, false, false, false] rfl rfl (any_of HT_.out (by kernel_rfl)) (fun _ _ _ h => h) (Or.inl ⟨by rfl, ?_⟩) ?_ ?_
           rotate_left
           ·intro w'
            go_simp
            with_reducible rfl
           rotate_left
           ·simp only [Act.put, List.setIfInBounds_toArray, List.set_cons_zero, List.set_cons_succ, i64_w, i32_w]
            rfl
           refine pure_ (i := 3) (N := some 74) (v := ?_) (a' := ?_) #[true, true, true, true, false, false, false, false, false, false, false, false, false, false, false, false, false, false, false, false, false, false, false, false] rfl rfl (any_of HT_.out (by kernel_rfl)) (fun _ _ _ h => h) (Or.inl ⟨by rfl, ?_⟩) ?_ ?_
           rotate_left
           ·intro w'
            go_simp
            with_reducible rfl
           rotate_left
           ·simp only [Act.put, List.setIfInBounds_toArray, List.set_cons_zero, List.set_cons_succ, i64_w, i32_w]
            rfl
           refine pure_ (i := 4) (N := some 75) (v := undef) (a' := ?_) #[true, true, true, true, true, false, false, false, false, false, false, false, false, false, false, false, false, false, false, false, false, false, false, false] rfl rfl (any_of HT_.out (by kernel_rfl)) (fun _ _ _ h => h) (Or.inr ⟨by rfl, rfl⟩) ?_ ?_
           rotate_left
           ·simp only [Act.put, List.setIfInBounds_toArray, List.set_cons_zero, List.set_cons_succ, i64_w, i32_w]
            rfl
           refine pure_ (i := 5) (N := some 76) (v := undef) (a' := ?_) #[true, true, true, true, true, true, false, false, false, false, false, false, false, false, false, false, false, false, false, false, false, false, false, false] rfl rfl (any_of HT_.out (by kernel_rfl)) (fun _ _ _ h => h) (Or.inr ⟨by rfl, rfl⟩) ?_ ?_
           rotate_left
           ·simp only [Act.put, List.setIfInBounds_toArray, List.set_cons_zero, List.set_cons_succ, i64_w, i32_w]
            rfl
           refine pure_ (i := 6) (N := some 77) (v := undef) (a' := ?_) #[true, true, true, true, true, true, true, false, false, false, false, false, false, false, false, false, false, false, false, false, false, false, false, false] rfl rfl (any_of HT_.out (by kernel_rfl)) (fun _ _ _ h => h) (Or.inr ⟨by rfl, rfl⟩) ?_ ?_
           rotate_left
           ·simp only [Act.put, List.setIfInBounds_toArray, List.set_cons_zero, List.set_cons_succ, i64_w, i32_w]
            rfl
           refine pure_ (i := 7) (N := some 78) (v := undef) (a' := ?_) #[true, true, true, true, true, true, true, true, false, false, false, false, false, false, false, false, false, false, false, false, false, false, false, false] rfl rfl (any_of HT_.out (by kernel_rfl)) (fun _ _ _ h => h) (Or.inr ⟨by rfl, rfl⟩) ?_ ?_
           rotate_left
           ·simp only [Act.put, List.setIfInBounds_toArray, List.set_cons_zero, List.set_cons_succ, i64_w, i32_w]
            rfl
           refine pure_ (i := 8) (N := some 79) (v := undef) (a' := ?_) #[true, true, true, true, true, true, true, true, true, false, false, false, false, false, false, false, false, false, false, false, false, false, false, false] rfl rfl (any_of HT_.out (by kernel_rfl)) (fun _ _ _ h => h) (Or.inr ⟨by rfl, rfl⟩) ?_ ?_
           rotate_left
           ·simp only [Act.put, List.setIfInBounds_toArray, List.set_cons_zero, List.set_cons_succ, i64_w, i32_w]
            rfl
           refine pure_ (i := 9) (N := some 80) (v := ?_) (a' := ?_) #[true, true, true, true, true, true, true, true, true, true, false, false, false, false, false, false, false, false, false, false, false, false, false, false] rfl rfl (any_of HT_.out (by kernel_rfl)) (fun _ _ _ h => h) (Or.inl ⟨by rfl, ?_⟩) ?_ ?_
           rotate_left
           ·intro w'
            go_simp
            with_reducible rfl
           rotate_left
           ·simp only [Act.put, List.setIfInBounds_toArray, List.set_cons_zero, List.set_cons_succ, i64_w, i32_w]
            rfl
           refine pure_ (i := 10) (N := some 81) (v := ?_) (a' := ?_) #[true, true, true, true, true, true, true, true, true, true, true, false, false, false, false, false, false, false, false, false, false, false, false, false] rfl rfl (any_of HT_.out (by kernel_rfl)) (fun _ _ _ h => h) (Or.inl ⟨by rfl, ?_⟩) ?_ ?_
           rotate_left
           ·intro w'
            go_simp
            with_reducible rfl
           rotate_left
           ·simp only [Act.put, List.setIfInBounds_toArray, List.set_cons_zero, List.set_cons_succ, i64_w, i32_w]
            rfl
           refine pure_ (i := 11) (N := some 82) (v := ?_) (a' := ?_) #[true, true, true, true, true, true, true, true, true, true, true, true, false, false, false, false, false, false, false, false, false, false, false, false] rfl rfl (any_of HT_.out (by kernel_rfl)) (fun _ _ _ h => h) (Or.inl ⟨by rfl, ?_⟩) ?_ ?_
           rotate_left
           ·intro w'
            go_simp
            with_reducible rfl
           rotate_left
           ·simp only [Act.put, List.setIfInBounds_toArray, List.set_cons_zero, List.set_cons_succ, i64_w, i32_w]
            rfl
           refine pure_ (i := 12) (N := some 83) (v := ?_) (a' := ?_) #[true, true, true, true, true, true, true, true, true, true, true, true, true, false, false, false, false, false, false, false, false, false, false, false] rfl rfl (any_of HT_.out (by kernel_rfl)) (fun _ _ _ h => h) (Or.inl ⟨by rfl, ?_⟩) ?_ ?_
           rotate_left
           ·intro w'
            go_simp
            with_reducible rfl
           rotate_left
           ·simp only [Act.put, List.setIfInBounds_toArray, List.set_cons_zero, List.set_cons_succ, i64_w, i32_w]
            rfl
           refine pure_ (i := 13) (N := some 84) (v := ?_) (a' := ?_) #[true, true, true, true, true, true, true, true, true, true, true, true, true, true, false, false, false, false, false, false, false, false, false, false] rfl rfl (any_of HT_.out (by kernel_rfl)) (fun _ _ _ h => h) (Or.inl ⟨by rfl, ?_⟩) ?_ ?_
           rotate_left
           ·intro w'
            go_simp
            with_reducible rfl
           rotate_left
           ·simp only [Act.put, List.setIfInBounds_toArray, List.set_cons_zero, List.set_cons_succ, i64_w, i32_w]
            rfl
           refine pure_ (i := 14) (N := some 85) (v := ?_) (a' := ?_) #[true, true, true, true, true, true, true, true, true, true, true, true, true, true, true, false, false, false, false, false, false, false, false, false] rfl rfl (any_of HT_.out (by kernel_rfl)) (fun _ _ _ h => h) (Or.inl ⟨by rfl, ?_⟩) ?_ ?_
           rotate_left
           ·intro w'
            go_simp
            with_reducible rfl
           rotate_left
           ·simp only [Act.put, List.setIfInBounds_toArray, List.set_cons_zero, List.set_cons_succ, i64_w, i32_w]
            rfl
           refine pure_ (i := 16) (N := some 87) (v := ?_) (a' := ?_) #[true, true, true, true, true, true, true, true, true, true, true, true, true, true, true, false, true, false, false, false, false, false, false, false] rfl rfl (any_of HT_.out (by kernel_rfl)) (fun _ _ _ h => h) (Or.inl ⟨by rfl, ?_⟩) ?_ ?_
           rotate_left
           ·intro w'
            go_simp
            with_reducible rfl
           rotate_left
           ·simp only [Act.put, List.setIfInBounds_toArray, List.set_cons_zero, List.set_cons_succ, i64_w, i32_w]
            rfl
           refine pure_ (i := 19) (N := some 90) (v := ?_) (a' := ?_) #[true, true, true, true, true, true, true, true, true, true, true, true, true, true, true, false, true, false, false, true, false, false, false, false] rfl rfl (any_of HT_.out (by kernel_rfl)) (fun _ _ _ h => h) (Or.inl ⟨by rfl, ?_⟩) ?_ ?_
           rotate_left
           ·intro w'
            go_simp
            with_reducible rfl
           rotate_left
           ·simp only [Act.put, List.setIfInBounds_toArray, List.set_cons_zero, List.set_cons_succ, i64_w, i32_w]
            rfl
           refine take_ (i := 15) (N := some 86) (v := ?_) (a' := ?_) #[true, true, true, true, true, true, true, true, true, true, true, true, true, true, true, true, true, false, false, true, false, false, false, false] rfl rfl (take_ofW HT_.out HW_.out (by kernel_rfl)) (fun _ _ _ h => h) (Or.inl ⟨by rfl, ?_⟩) hHeld ?_ ?_
           rotate_left
           ·rintro w' ⟨s0, s1, s2, s3⟩
            go_simp
            with_reducible rfl
           rotate_left
           ·simp only [Act.put, List.setIfInBounds_toArray, List.set_cons_zero, List.set_cons_succ, i64_w, i32_w]
            rfl
           refine take_ (i := 18) (N := some 89) (v := ?_) (a' := ?_) #[true, true, true, true, true, true, true, true, true, true, true, true, true, true, true, true, true, false, true, true, false, false, false, false] rfl rfl (take_ofW HT_.out HW_.out (by kernel_rfl)) (fun _ _ _ h => h) (Or.inl ⟨by rfl, ?_⟩) hHeld ?_ ?_
           rotate_left
           ·rintro w' ⟨s0, s1, s2, s3⟩
            go_simp
            with_reducible rfl
           rotate_left
           ·simp only [Act.put, List.setIfInBounds_toArray, List.set_cons_zero, List.set_cons_succ, i64_w, i32_w]
            rfl
           refine one_ (i := 17) (N := some 88) #[true, true, true, true, true, true, true, true, true, true, true, true, true, true, true, true, true, true, true, true, false, false, false, false] rfl rfl (one_of HT_.out (by kernel_rfl)) (by decide) (fun K hK => ?_)
           refine goes_ Try.func27 (by kernel_rfl) rfl #[.agg #[.slice Ao24 t605.length co24, .slice Ao28 t608.length co28], .int .i64 x11_2] (by rfl) rfl rfl bM ?_
           with_reducible refine (impl_SecLook.calls k2 _ _ t605 _ _ t608 x11_2 t617 _ ?side1 ?side2 ?side3 ?side4 A53.out).mono ?_
           (case side1 => exact pC (Kd.R_reads' HO_613000.out).2.2)
           (case side2 => exact (Kd.R_reads' HO_613000.out).2.1)
           (case side3 => exact pC (Kd.R_reads' HO_613001.out).2.2)
           (case side4 => exact (Kd.R_reads' HO_613001.out).2.1)
           rintro e w60 ⟨rfl, hb⟩
           refine ⟨_, rfl, ?_⟩
           have n0_ := Aside0.mk (Kd.R_below (pR HO_596000.out) hb)
           have n1_ := Aside0.mk (Kd.R_below (pR HO_596001.out) hb)
           have n2_ := Aside0.mk (Kd.R_below (pR HO_604000.out) hb)
           have n3_ := Aside0.mk (Kd.R_below (pR HO_604001.out) hb)
           have n4_ := Aside0.mk (Kd.R_below (pR HO_613000.out) hb)
           have n5_ := Aside0.mk (Kd.R_below (pR HO_613001.out) hb)
           have n6_ := Aside0.mk (blk_below (g := gb595) (o := .cells #[.slice Ao10 t587.length co10, .slice Ao12 t590.length co12] 26 (0, 0)) (pK BK595.out) hb)
           have n7_ := Aside0.mk (blk_below (g := gb603) (o := .cells #[.slice Ao15 t596.length co15, .slice Ao18 t599.length co18] 26 (0, 0)) (pK BK603.out) hb)
           have n8_ := Aside0.mk (blk_below (g := gb612) (o := .cells #[.slice Ao24 t605.length co24, .slice Ao28 t608.length co28] 26 (0, 0)) (pK BK612.out) hb)
           have n9_ := Aside0.mk (below_step (by repeat (first | (with_reducible first | exact HB.out | apply below_alloc | apply pw_below_drewN | apply below_drew1 | refine below_set ?_ GE595.out | refine below_set ?_ GE603.out | refine below_set ?_ GE612.out) | exact HB.out)) hb)
           clear HO_596000
           clear HO_596001
           clear HO_604000
           clear HO_604001
           clear HO_613000
           clear HO_613001
           clear BK595
           clear BK603
           clear BK612
           clear HB
           have HO_596000 := n0_
           have HO_596001 := n1_
           have HO_604000 := n2_
           have HO_604001 := n3_
           have HO_613000 := n4_
           have HO_613001 := n5_
           have BK595 := n6_
           have BK603 := n7_
           have BK612 := n8_
           have HB := n9_
           clear n0_ n1_ n2_ n3_ n4_ n5_ n6_ n7_ n8_ n9_
           (try clear hb)
           (try clear hb2)
           (try clear hk)
           (try clear hi)
           refine hK.out _ _ ⟨(blk_cell BK612.out 0).trans rfl, (blk_cell BK612.out 1).trans rfl, (blk_cell BK595.out 0).trans rfl, (blk_cell BK595.out 1).trans rfl⟩ (fun hHeld => ?_)
           clear hK K
           refine norm_ (a' := ?_) ?_ ?_
           rotate_left
           ·show Act.put _ (some 88) _ = _
            simp only [Act.put, List.setIfInBounds_toArray, List.set_cons_zero, List.set_cons_succ, i64_w, i32_w]
            rfl
           refine one_ (i := 20) (N := some 91) #[true, true, true, true, true, true, true, true, true, true, true, true, true, true, true, true, true, true, true, true, true, false, false, false] rfl rfl (one_of HT_.out (by kernel_rfl)) (by decide) (fun K hK => ?_)
           refine goes_ Try.func27 (by kernel_rfl) rfl #[.agg #[.slice Ao10 t587.length co10, .slice Ao12 t590.length co12], .int .i64 x11_2] (by rfl) rfl rfl bM ?_
           with_reducible refine (impl_SecLook.calls k2 _ _ t587 _ _ t590 x11_2 t618 _ ?side1 ?side2 ?side3 ?side4 A54.out).mono ?_
           (case side1 => exact pC (Kd.R_reads' HO_596000.out).2.2)
           (case side2 => exact (Kd.R_reads' HO_596000.out).2.1)
           (case side3 => exact pC (Kd.R_reads' HO_596001.out).2.2)
           (case side4 => exact (Kd.R_reads' HO_596001.out).2.1)
           rintro e w61 ⟨rfl, hb⟩
           refine ⟨_, rfl, ?_⟩
           have n0_ := Aside0.mk (Kd.R_below (pR HO_596000.out) hb)
           have n1_ := Aside0.mk (Kd.R_below (pR HO_596001.out) hb)
           have n2_ := Aside0.mk (Kd.R_below (pR HO_604000.out) hb)
           have n3_ := Aside0.mk (Kd.R_below (pR HO_604001.out) hb)
           have n4_ := Aside0.mk (Kd.R_below (pR HO_613000.out) hb)
           have n5_ := Aside0.mk (Kd.R_below (pR HO_613001.out) hb)
           have n6_ := Aside0.mk (blk_below (g := gb595) (o := .cells #[.slice Ao10 t587.length co10, .slice Ao12 t590.length co12] 26 (0, 0)) (pK BK595.out) hb)
           have n7_ := Aside0.mk (blk_below (g := gb603) (o := .cells #[.slice Ao15 t596.length co15, .slice Ao18 t599.length co18] 26 (0, 0)) (pK BK603.out) hb)
           have n8_ := Aside0.mk (blk_below (g := gb612) (o := .cells #[.slice Ao24 t605.length co24, .slice Ao28 t608.length co28] 26 (0, 0)) (pK BK612.out) hb)
           have n9_ := Aside0.mk (below_step (by repeat (first | (with_reducible first | exact HB.out | apply below_alloc | apply pw_below_drewN | apply below_drew1 | refine below_set ?_ GE595.out | refine below_set ?_ GE603.out | refine below_set ?_ GE612.out) | exact HB.out)) hb)
           clear HO_596000
           clear HO_596001
           clear HO_604000
           clear HO_604001
           clear HO_613000
           clear HO_613001
           clear BK595
           clear BK603
           clear BK612
           clear HB
           have HO_596000 := n0_
           have HO_596001 := n1_
           have HO_604000 := n2_
           have HO_604001 := n3_
           have HO_613000 := n4_
           have HO_613001 := n5_
           have BK595 := n6_
           have BK603 := n7_
           have BK612 := n8_
           have HB := n9_
           clear n0_ n1_ n2_ n3_ n4_ n5_ n6_ n7_ n8_ n9_
           (try clear hb)
           (try clear hb2)
           (try clear hk)
           (try clear hi)
           refine hK.out _ _ ⟨(blk_cell BK612.out 0).trans rfl, (blk_cell BK612.out 1).trans rfl, (blk_cell BK595.out 0).trans rfl, (blk_cell BK595.out 1).trans rfl⟩ (fun hHeld => ?_)
           clear hK K
           refine norm_ (a' := ?_) ?_ ?_
           rotate_left
           ·show Act.put _ (some 91) _ = _
            simp only [Act.put, List.setIfInBounds_toArray, List.set_cons_zero, List.set_cons_succ, i64_w, i32_w]
            rfl
           refine pure_ (i := 21) (N := some 92) (v := ?_) (a' := ?_) #[true, true, true, true, true, true, true, true, true, true, true, true, true, true, true, true, true, true, true, true, true, true, false, false] rfl rfl (any_of HT_.out (by kernel_rfl)) (fun _ _ _ h => h) (Or.inl ⟨by rfl, ?_⟩) ?_ ?_
           rotate_left
           ·intro w'
            go_simp
            with_reducible rfl
           rotate_left
           ·simp only [Act.put, List.setIfInBounds_toArray, List.set_cons_zero, List.set_cons_succ, i64_w, i32_w]
            rfl
           refine pure_ (i := 22) (N := some 93) (v := ?_) (a' := ?_) #[true, true, true, true, true, true, true, true, true, true, true, true, true, true, true, true, true, true, true, true, true, true, true, false] rfl rfl (any_of HT_.out (by kernel_rfl)) (fun _ _ _ h => h) (Or.inl ⟨by rfl, ?_⟩) ?_ ?_
           rotate_left
           ·intro w'
            go_simp
            with_reducible rfl
           rotate_left
           ·simp only [Act.put, List.setIfInBounds_toArray, List.set_cons_zero, List.set_cons_succ, i64_w, i32_w]
            rfl
           refine pure_ (i := 23) (N := some 94) (v := ?_) (a' := ?_) #[true, true, true, true, true, true, true, true, true, true, true, true, true, true, true, true, true, true, true, true, true, true, true, true] rfl rfl (any_of HT_.out (by kernel_rfl)) (fun _ _ _ h => h) (Or.inl ⟨by rfl, ?_⟩) ?_ ?_
           rotate_left
           ·intro w'
            go_simp
            with_reducible rfl
           rotate_left
           ·simp only [Act.put, List.setIfInBounds_toArray, List.set_cons_zero, List.set_cons_succ, i64_w, i32_w]
            rfl
           refine done_ (done_of HT_.out (by kernel_rfl)) ?_
           try go_wp2
           go_roundg k2
           case measure => have := HJ6.out; have := HK2.out; omega
           case rel => exact ⟨(wrap64 (x11_2 + 1)), (by first | rfl | (simp; done) | (simp [*]; done)), H', ⟨by have := HJ6.out; have := HK2.out; omega⟩, ⟨pR HO_596000.out⟩, ⟨pR HO_596001.out⟩, ⟨pR HO_604000.out⟩, ⟨pR HO_604001.out⟩, ⟨pR HO_613000.out⟩, ⟨pR HO_613001.out⟩, ⟨pK BK595.out⟩, ⟨pK BK603.out⟩, ⟨pK BK612.out⟩, ⟨by repeat (first | (with_reducible first | exact HB.out | apply below_alloc | apply pw_below_drewN | apply below_drew1 | refine below_set ?_ GE595.out | refine below_set ?_ GE603.out | refine below_set ?_ GE612.out) | exact HB.out)⟩⟩
          ·rw [if_neg c55] at H
           have c55b0 : (t617.toList == t618.toList) = false := beq_eq_false_iff_ne.mpr c55
           have c55b1 : (t617.toList != t618.toList) = true := bne_iff_ne.mpr c55
           obtain rfl := Option.some.inj H
           have hnb62 := NB595_603.out
           have hnc62 := NB603_595.out
           have hnb63 := NB595_612.out
           have hnc63 := NB612_595.out
           have hcz64_0 : wr.cell? ⟨gb595, 0, none⟩ = some (.slice Ao10 t587.length co10) := (blk_cell BK595.out 0).trans rfl
           have hcz64_1 : wr.cell? ⟨gb595, 1, none⟩ = some (.slice Ao12 t590.length co12) := (blk_cell BK595.out 1).trans rfl
           have hfz64_0 := blk_frozen BK595.out 0
           have hfz64_1 := blk_frozen BK595.out 1
           try go_wp2
           have n0_ := Aside0.mk (Kd.R_drew HO_596000.out)
           have n1_ := Aside0.mk (Kd.R_drew HO_596001.out)
           have n2_ := Aside0.mk (Kd.R_drew HO_604000.out)
           have n3_ := Aside0.mk (Kd.R_drew HO_604001.out)
           have n4_ := Aside0.mk (Kd.R_drew HO_613000.out)
           have n5_ := Aside0.mk (Kd.R_drew HO_613001.out)
           have n6_ := Aside0.mk (blk_drew BK595.out)
           have n7_ := Aside0.mk (blk_drew BK603.out)
           have n8_ := Aside0.mk (blk_drew BK612.out)
           have n9_ := Aside0.mk (below_drew1 HB.out)
           clear HO_596000
           clear HO_596001
           clear HO_604000
           clear HO_604001
           clear HO_613000
           clear HO_613001
           clear BK595
           clear BK603
           clear BK612
           clear HB
           have HO_596000 := n0_
           have HO_596001 := n1_
           have HO_604000 := n2_
           have HO_604001 := n3_
           have HO_613000 := n4_
           have HO_613001 := n5_
           have BK595 := n6_
           have BK603 := n7_
           have BK612 := n8_
           have HB := n9_
           clear n0_ n1_ n2_ n3_ n4_ n5_ n6_ n7_ n8_ n9_
           refine start_ (n := 24) (S := fun w' => w'.cell? ⟨gb612, 0, none⟩ = some (.slice Ao24 t605.length co24) ∧ w'.cell? ⟨gb612, 1, none⟩ = some (.slice Ao28 t608.length co28) ∧ w'.cell? ⟨gb595, 0, none⟩ = some (.slice Ao10 t587.length co10) ∧ w'.cell? ⟨gb595, 1, none⟩ = some (.slice Ao12 t590.length co12)) (ds := []) #[false, false, false, false, false, false, false, false, false, false, false, false, false, false, false, false, false, false, false, false, false, false, false, false] (by kernel_rfl) rfl rfl ⟨(blk_cell BK612.out 0).trans rfl, (blk_cell BK612.out 1).trans rfl, (blk_cell BK595.out 0).trans rfl, (blk_cell BK595.out 1).trans rfl⟩ (fun hHeld => ?_); refine with_tabW laws_FnSecPut.tab14 laws_FnSecPut.bits14 (fun HT_ HW_ => ?_)
           generalize wr.drew = w65 at HO_596000 HO_596001 HO_604000 HO_604001 HO_613000 HO_613001 BK595 BK603 BK612 HB hHeld ⊢
           refine pure_ (i := 0) (N := some 71) (v := ?_) (a' := ?_) #[true, false, false, false, false, false, false, false, false, false, false, false, false, false, false, false, false, false, false, false, false, false, false, false] rfl rfl (any_of HT_.out (by kernel_rfl)) (fun _ _ _ h => h) (Or.inl ⟨by rfl, ?_⟩) ?_ ?_
           rotate_left
           ·intro w'
            go_simp
            with_reducible rfl
           rotate_left
           ·simp only [Act.put, List.setIfInBounds_toArray, List.set_cons_zero, List.set_cons_succ, i64_w, i32_w]
            rfl
           refine pure_ (i := 1) (N := some 72) (v := ?_) (a' := ?_) #[true, true, false, false, false, false, false, false, false, false, false, false, false, false, false, false, false, false, false, false, false, false, false, false] rfl rfl (any_of HT_.out (by kernel_rfl)) (fun _ _ _ h => h) (Or.inl ⟨by rfl, ?_⟩) ?_ ?_
           rotate_left
           ·intro w'
            go_simp
            with_reducible rfl
           rotate_left
           ·simp only [Act.put, List.setIfInBounds_toArray, List.set_cons_zero, List.set_cons_succ, i64_w, i32_w]
            rfl
           refine pure_ (i := 2) (N := some 73) (v := ?_) (a' := ?_) #[true, true, true, false, false, false, false, false, false, false, false, false, false, false, false, false, false, false, false, false, false, false, false, false] rfl rfl (any_of HT_.out (by kernel_rfl)) (fun _ _ _ h => h) (Or.inl ⟨by rfl, ?_⟩) ?_ ?_
           rotate_left
           ·intro w'
            go_simp
            with_reducible rfl
           rotate_left
           ·simp only [Act.put, List.setIfInBounds_toArray, List.set_cons_zero, List.set_cons_succ, i64_w, i32_w]
            rfl
           refine pure_ (i := 3) (N := some 74) (v := ?_) (a' := ?_) #[true, true, true, true, false, false, false, false, false, false, false, false, false, false, false, false, false, false, false, false, false, false, false, false] rfl rfl (any_of HT_.out (by kernel_rfl)) (fun _ _ _ h => h) (Or.inl ⟨by rfl, ?_⟩) ?_ ?_
           rotate_left
           ·intro w'
            go_simp
            with_reducible rfl
           rotate_left
           ·simp only [Act.put, List.setIfInBounds_toArray, List.set_cons_zero, List.set_cons_succ, i64_w, i32_w]
            rfl
           refine pure_ (i := 4) (N := some 75) (v := undef) (a' := ?_) #[true, true, true, true, true, false, false, false, false, false, false, false, false, false, false, false, false, false, false, false, false, false, false, false] rfl rfl (any_of HT_.out (by kernel_rfl)) (fun _ _ _ h => h) (Or.inr ⟨by rfl, rfl⟩) ?_ ?_
           rotate_left
           ·simp only [Act.put, List.setIfInBounds_toArray, List.set_cons_zero, List.set_cons_succ, i64_w, i32_w]
            rfl
           refine pure_ (i := 5) (N := some 76) (v := undef) (a' := ?_) #[true, true, true, true, true, true, false, false, false, false, false, false, false, false, false, false, false, false, false, false, false, false, false, false] rfl rfl (any_of HT_.out (by kernel_rfl)) (fun _ _ _ h => h) (Or.inr ⟨by rfl, rfl⟩) ?_ ?_
           rotate_left
           ·simp only [Act.put, List.setIfInBounds_toArray, List.set_cons_zero, List.set_cons_succ, i64_w, i32_w]
            rfl
           refine pure_ (i := 6) (N := some 77) (v := undef) (a' := ?_) #[true, true, true, true, true, true, true, false, false, false, false, false, false, false, false, false, false, false, false, false, false, false, false, false] rfl rfl (any_of HT_.out (by kernel_rfl)) (fun _ _ _ h => h) (Or.inr ⟨by rfl, rfl⟩) ?_ ?_
           rotate_left
           ·simp only [Act.put, List.setIfInBounds_toArray, List.set_cons_zero, List.set_cons_succ, i64_w, i32_w]
            rfl
           refine pure_ (i := 7) (N := some 78) (v := undef) (a' := ?_) #[true, true, true, true, true, true, true, true, false, false, false, false, false, false, false, false, false, false, false, false, false, false, false, false] rfl rfl (any_of HT_.out (by kernel_rfl)) (fun _ _ _ h => h) (Or.inr ⟨by rfl, rfl⟩) ?_ ?_
           rotate_left
           ·simp only [Act.put, List.setIfInBounds_toArray, List.set_cons_zero, List.set_cons_succ, i64_w, i32_w]
            rfl
           refine pure_ (i := 8) (N := some 79) (v := undef) (a' := ?_) #[true, true, true, true, true, true, true, true, true, false, false, false, false, false, false, false, false, false, false, false, false, false, false, false] rfl rfl (any_of HT_.out (by kernel_rfl)) (fun _ _ _ h => h) (Or.inr ⟨by rfl, rfl⟩) ?_ ?_
           rotate_left
           ·simp only [Act.put, List.setIfInBounds_toArray, List.set_cons_zero, List.set_cons_succ, i64_w, i32_w]
            rfl
           refine pure_ (i := 9) (N := some 80) (v := ?_) (a' := ?_) #[true, true, true, true, true, true, true, true, true, true, false, false, false, false, false, false, false, false, false, false, false, false, false, false] rfl rfl (any_of HT_.out (by kernel_rfl)) (fun _ _ _ h => h) (Or.inl ⟨by rfl, ?_⟩) ?_ ?_
           rotate_left
           ·intro w'
            go_simp
            with_reducible rfl
           rotate_left
           ·simp only [Act.put, List.setIfInBounds_toArray, List.set_cons_zero, List.set_cons_succ, i64_w, i32_w]
            rfl
           refine pure_ (i := 10) (N := some 81) (v := ?_) (a' := ?_) #[true, true, true, true, true, true, true, true, true, true, true, false, false, false, false, false, false, false, false, false, false, false, false, false] rfl rfl (any_of HT_.out (by kernel_rfl)) (fun _ _ _ h => h) (Or.inl ⟨by rfl, ?_⟩) ?_ ?_
           rotate_left
           ·intro w'
            go_simp
            with_reducible rfl
           rotate_left
           ·simp only [Act.put, List.setIfInBounds_toArray, List.set_cons_zero, List.set_cons_succ, i64_w, i32_w]
            rfl
           refine pure_ (i := 11) (N := some 82) (v := ?_) (a' := ?_) #[true, true, true, true, true, true, true, true, true, true, true, true, false, false, false, false, false, false, false, false, false, false, false, false] rfl rfl (any_of HT_.out (by kernel_rfl)) (fun _ _ _ h => h) (Or.inl ⟨by rfl, ?_⟩) ?_ ?_
           rotate_left
           ·intro w'
            go_simp
            with_reducible rfl
           rotate_left
           ·simp only [Act.put, List.setIfInBounds_toArray, List.set_cons_zero, List.set_cons_succ, i64_w, i32_w]
            rfl
           refine pure_ (i := 12) (N := some 83) (v := ?_) (a' := ?_) #[true, true, true, true, true, true, true, true, true, true, true, true, true, false, false, false, false, false, false, false, false, false, false, false] rfl rfl (any_of HT_.out (by kernel_rfl)) (fun _ _ _ h => h) (Or.inl ⟨by rfl, ?_⟩) ?_ ?_
           rotate_left
           ·intro w'
            go_simp
            with_reducible rfl
           rotate_left
           ·simp only [Act.put, List.setIfInBounds_toArray, List.set_cons_zero, List.set_cons_succ, i64_w, i32_w]
            rfl
           refine pure_ (i := 13) (N := some 84) (v := ?_) (a' := ?_) #[true, true, true, true, true, true, true, true, true, true, true, true, true, true, false, false, false, false, false, false, false, false, false, false] rfl rfl (any_of HT_.out (by kernel_rfl)) (fun _ _ _ h => h) (Or.inl ⟨by rfl, ?_⟩) ?_ ?_
           rotate_left
           ·intro w'
            go_simp
            with_reducible rfl
           rotate_left
           ·simp only [Act.put, List.setIfInBounds_toArray, List.set_cons_zero, List.set_cons_succ, i64_w, i32_w]
            rfl
           refine pure_ (i := 14) (N := some 85) (v := ?_) (a' := ?_) #[true, true, true, true, true, true, true, true, true, true, true, true, true, true, true, false, false, false, false, false, false, false, false, false] rfl rfl (any_of HT_.out (by kernel_rfl)) (fun _ _ _ h => h) (Or.inl ⟨by rfl, ?_⟩) ?_ ?_
           rotate_left
           ·intro w'
            go_simp
            with_reducible rfl
           rotate_left
           ·simp only [Act.put, List.setIfInBounds_toArray, List.set_cons_zero, List.set_cons_succ, i64_w, i32_w]
            rfl
           refine pure_ (i := 16) (N := some 87) (v := ?_) (a' := ?_) #[true, true, true, true, true, true, true, true, true, true, true, true, true, true, true, false, true, false, false, false, false, false, false, false] rfl rfl (any_of HT_.out (by kernel_rfl)) (fun _ _ _ h => h) (Or.inl ⟨by rfl, ?_⟩) ?_ ?_
           rotate_left
           ·intro w'
            go_simp
            with_reducible rfl
           rotate_left
           ·simp only [Act.put, List.setIfInBounds_toArray, List.set_cons_zero, List.set_cons_succ, i64_w, i32_w]
            rfl
           refine pure_ (i := 19) (N := some 90) (v := ?_) (a' := ?_) #[true, true, true, true, true, true, true, true, true, true, true, true, true, true, true, false, true, false, false, true, false, false, false, false] rfl rfl (any_of HT_.out (by kernel_rfl)) (fun _ _ _ h => h) (Or.inl ⟨by rfl, ?_⟩) ?_ ?_
           rotate_left
           ·intro w'
            go_simp
            with_reducible rfl
           rotate_left
           ·simp only [Act.put, List.setIfInBounds_toArray, List.set_cons_zero, List.set_cons_succ, i64_w, i32_w]
            rfl
           refine take_ (i := 15) (N := some 86) (v := ?_) (a' := ?_) #[true, true, true, true, true, true, true, true, true, true, true, true, true, true, true, true, true, false, false, true, false, false, false, false] rfl rfl (take_ofW HT_.out HW_.out (by kernel_rfl)) (fun _ _ _ h => h) (Or.inl ⟨by rfl, ?_⟩) hHeld ?_ ?_
           rotate_left
           ·rintro w' ⟨s0, s1, s2, s3⟩
            go_simp
            with_reducible rfl
           rotate_left
           ·simp only [Act.put, List.setIfInBounds_toArray, List.set_cons_zero, List.set_cons_succ, i64_w, i32_w]
            rfl
           refine take_ (i := 18) (N := some 89) (v := ?_) (a' := ?_) #[true, true, true, true, true, true, true, true, true, true, true, true, true, true, true, true, true, false, true, true, false, false, false, false] rfl rfl (take_ofW HT_.out HW_.out (by kernel_rfl)) (fun _ _ _ h => h) (Or.inl ⟨by rfl, ?_⟩) hHeld ?_ ?_
           rotate_left
           ·rintro w' ⟨s0, s1, s2, s3⟩
            go_simp
            with_reducible rfl
           rotate_left
           ·simp only [Act.put, List.setIfInBounds_toArray, List.set_cons_zero, List.set_cons_succ, i64_w, i32_w]
            rfl
           refine one_ (i := 17) (N := some 88) #[true, true, true, true, true, true, true, true, true, true, true, true, true, true, true, true, true, true, true, true, false, false, false, false] rfl rfl (one_of HT_.out (by kernel_rfl)) (by decide) (fun K hK => ?_)
           refine goes_ Try.func27 (by kernel_rfl) rfl #[.agg #[.slice Ao24 t605.length co24, .slice Ao28 t608.length co28], .int .i64 x11_2] (by rfl) rfl rfl bM ?_
           with_reducible refine (impl_SecLook.calls k2 _ _ t605 _ _ t608 x11_2 t617 _ ?side1 ?side2 ?side3 ?side4 A53.out).mono ?_
           (case side1 => exact pC (Kd.R_reads' HO_613000.out).2.2)
           (case side2 => exact (Kd.R_reads' HO_613000.out).2.1)
           (case side3 => exact pC (Kd.R_reads' HO_613001.out).2.2)
           (case side4 => exact (Kd.R_reads' HO_613001.out).2.1)
           rintro e w66 ⟨rfl, hb⟩
           refine ⟨_, rfl, ?_⟩
           have n0_ := Aside0.mk (Kd.R_below (pR HO_596000.out) hb)
           have n1_ := Aside0.mk (Kd.R_below (pR HO_596001.out) hb)
           have n2_ := Aside0.mk (Kd.R_below (pR HO_604000.out) hb)
           have n3_ := Aside0.mk (Kd.R_below (pR HO_604001.out) hb)
           have n4_ := Aside0.mk (Kd.R_below (pR HO_613000.out) hb)
           have n5_ := Aside0.mk (Kd.R_below (pR HO_613001.out) hb)
           have n6_ := Aside0.mk (blk_below (g := gb595) (o := .cells #[.slice Ao10 t587.length co10, .slice Ao12 t590.length co12] 26 (0, 0)) (pK BK595.out) hb)
           have n7_ := Aside0.mk (blk_below (g := gb603) (o := .cells #[.slice Ao15 t596.length co15, .slice Ao18 t599.length co18] 26 (0, 0)) (pK BK603.out) hb)
           have n8_ := Aside0.mk (blk_below (g := gb612) (o := .cells #[.slice Ao24 t605.length co24, .slice Ao28 t608.length co28] 26 (0, 0)) (pK BK612.out) hb)
           have n9_ := Aside0.mk (below_step (by repeat (first | (with_reducible first | exact HB.out | apply below_alloc | apply pw_below_drewN | apply below_drew1 | refine below_set ?_ GE595.out | refine below_set ?_ GE603.out | refine below_set ?_ GE612.out) | exact HB.out)) hb)
           clear HO_596000
           clear HO_596001
           clear HO_604000
           clear HO_604001
           clear HO_613000
           clear HO_613001
           clear BK595
           clear BK603
           clear BK612
           clear HB
           have HO_596000 := n0_
           have HO_596001 := n1_
           have HO_604000 := n2_
           have HO_604001 := n3_
           have HO_613000 := n4_
           have HO_613001 := n5_
           have BK595 := n6_
           have BK603 := n7_
           have BK612 := n8_
           have HB := n9_
           clear n0_ n1_ n2_ n3_ n4_ n5_ n6_ n7_ n8_ n9_
           (try clear hb)
           (try clear hb2)
           (try clear hk)
           (try clear hi)
           refine hK.out _ _ ⟨(blk_cell BK612.out 0).trans rfl, (blk_cell BK612.out 1).trans rfl, (blk_cell BK595.out 0).trans rfl, (blk_cell BK595.out 1).trans rfl⟩ (fun hHeld => ?_)
           clear hK K
           refine norm_ (a' := ?_) ?_ ?_
           rotate_left
           ·show Act.put _ (some 88) _ = _
            simp only [Act.put, List.setIfInBounds_toArray, List.set_cons_zero, List.set_cons_succ, i64_w, i32_w]
            rfl
           refine one_ (i := 20) (N := some 91) #[true, true, true, true, true, true, true, true, true, true, true, true, true, true, true, true, true, true, true, true, true, false, false, false] rfl rfl (one_of HT_.out (by kernel_rfl)) (by decide) (fun K hK => ?_)
           refine goes_ Try.func27 (by kernel_rfl) rfl #[.agg #[.slice Ao10 t587.length co10, .slice Ao12 t590.length co12], .int .i64 x11_2] (by rfl) rfl rfl bM ?_
           with_reducible refine (impl_SecLook.calls k2 _ _ t587 _ _ t590 x11_2 t618 _ ?side1 ?side2 ?side3 ?side4 A54.out).mono ?_
           (case side1 => exact pC (Kd.R_reads' HO_596000.out).2.2)
           (case side2 => exact (Kd.R_reads' HO_596000.out).2.1)
           (case side3 => exact pC (Kd.R_reads' HO_596001.out).2.2)
           (case side4 => exact (Kd.R_reads' HO_596001.out).2.1)
           rintro e w67 ⟨rfl, hb⟩
           refine ⟨_, rfl, ?_⟩
           have n0_ := Aside0.mk (Kd.R_below (pR HO_596000.out) hb)
           have n1_ := Aside0.mk (Kd.R_below (pR HO_596001.out) hb)
           have n2_ := Aside0.mk (Kd.R_below (pR HO_604000.out) hb)
           have n3_ := Aside0.mk (Kd.R_below (pR HO_604001.out) hb)
           have n4_ := Aside0.mk (Kd.R_below (pR HO_613000.out) hb)
           have n5_ := Aside0.mk (Kd.R_below (pR HO_613001.out) hb)
           have n6_ := Aside0.mk (blk_below (g := gb595) (o := .cells #[.slice Ao10 t587.length co10, .slice Ao12 t590.length co12] 26 (0, 0)) (pK BK595.out) hb)
           have n7_ := Aside0.mk (blk_below (g := gb603) (o := .cells #[.slice Ao15 t596.length co15, .slice Ao18 t599.length co18] 26 (0, 0)) (pK BK603.out) hb)
           have n8_ := Aside0.mk (blk_below (g := gb612) (o := .cells #[.slice Ao24 t605.length co24, .slice Ao28 t608.length co28] 26 (0, 0)) (pK BK612.out) hb)
           have n9_ := Aside0.mk (below_step (by repeat (first | (with_reducible first | exact HB.out | apply below_alloc | apply pw_below_drewN | apply below_drew1 | refine below_set ?_ GE595.out | refine below_set ?_ GE603.out | refine below_set ?_ GE612.out) | exact HB.out)) hb)
           clear HO_596000
           clear HO_596001
           clear HO_604000
           clear HO_604001
           clear HO_613000
           clear HO_613001
           clear BK595
           clear BK603
           clear BK612
           clear HB
           have HO_596000 := n0_
           have HO_596001 := n1_
           have HO_604000 := n2_
           have HO_604001 := n3_
           have HO_613000 := n4_
           have HO_613001 := n5_
           have BK595 := n6_
           have BK603 := n7_
           have BK612 := n8_
           have HB := n9_
           clear n0_ n1_ n2_ n3_ n4_ n5_ n6_ n7_ n8_ n9_
           (try clear hb)
           (try clear hb2)
           (try clear hk)
           (try clear hi)
           refine hK.out _ _ ⟨(blk_cell BK612.out 0).trans rfl, (blk_cell BK612.out 1).trans rfl, (blk_cell BK595.out 0).trans rfl, (blk_cell BK595.out 1).trans rfl⟩ (fun hHeld => ?_)
           clear hK K
           refine norm_ (a' := ?_) ?_ ?_
           rotate_left
           ·show Act.put _ (some 91) _ = _
            simp only [Act.put, List.setIfInBounds_toArray, List.set_cons_zero, List.set_cons_succ, i64_w, i32_w]
            rfl
           refine pure_ (i := 21) (N := some 92) (v := ?_) (a' := ?_) #[true, true, true, true, true, true, true, true, true, true, true, true, true, true, true, true, true, true, true, true, true, true, false, false] rfl rfl (any_of HT_.out (by kernel_rfl)) (fun _ _ _ h => h) (Or.inl ⟨by rfl, ?_⟩) ?_ ?_
           rotate_left
           ·intro w'
            go_simp
            with_reducible rfl
           rotate_left
           ·simp only [Act.put, List.setIfInBounds_toArray, List.set_cons_zero, List.set_cons_succ, i64_w, i32_w]
            rfl
           refine pure_ (i := 22) (N := some 93) (v := ?_) (a' := ?_) #[true, true, true, true, true, true, true, true, true, true, true, true, true, true, true, true, true, true, true, true, true, true, true, false] rfl rfl (any_of HT_.out (by kernel_rfl)) (fun _ _ _ h => h) (Or.inl ⟨by rfl, ?_⟩) ?_ ?_
           rotate_left
           ·intro w'
            go_simp
            with_reducible rfl
           rotate_left
           ·simp only [Act.put, List.setIfInBounds_toArray, List.set_cons_zero, List.set_cons_succ, i64_w, i32_w]
            rfl
           refine pure_ (i := 23) (N := some 94) (v := ?_) (a' := ?_) #[true, true, true, true, true, true, true, true, true, true, true, true, true, true, true, true, true, true, true, true, true, true, true, true] rfl rfl (any_of HT_.out (by kernel_rfl)) (fun _ _ _ h => h) (Or.inl ⟨by rfl, ?_⟩) ?_ ?_
           rotate_left
           ·intro w'
            go_simp
            with_reducible rfl
           rotate_left
           ·simp only [Act.put, List.setIfInBounds_toArray, List.set_cons_zero, List.set_cons_succ, i64_w, i32_w]
            rfl
           refine done_ (done_of HT_.out (by kernel_rfl)) ?_
           try go_wp2
           go_ret
           exact ⟨by first | rfl | (simp [errW_none, errW_some] <;> rfl) | (simp [*, errW_none, errW_some] <;> rfl), by repeat (first | (with_reducible first | exact HB.out | apply below_alloc | apply pw_below_drewN | apply below_drew1 | refine below_set ?_ GE595.out | refine below_set ?_ GE603.out | refine below_set ?_ GE612.out) | exact HB.out)⟩
        ·rw [if_neg c39] at H
         have c39b0 : decide (x11_2 < (t587.length : Int)) = false := decide_eq_false c39
         clear c39
         replace H := Option.bind_eq_some_iff.mp H
         obtain ⟨t615, A680, H⟩ := H
         replace H : (some t615) = some r := H
         have A68 := Aside0.mk A680
         clear A680
         obtain rfl := Option.some.inj H
         have hnb69 := NB595_603.out
         have hnc69 := NB603_595.out
         have hnb70 := NB595_612.out
         have hnc70 := NB612_595.out
         have hcz71_0 : wr.cell? ⟨gb595, 0, none⟩ = some (.slice Ao10 t587.length co10) := (blk_cell BK595.out 0).trans rfl
         have hcz71_1 : wr.cell? ⟨gb595, 1, none⟩ = some (.slice Ao12 t590.length co12) := (blk_cell BK595.out 1).trans rfl
         have hfz71_0 := blk_frozen BK595.out 0
         have hfz71_1 := blk_frozen BK595.out 1
         have hnb72 := NB612_603.out
         have hnc72 := NB603_612.out
         have hcz73_0 : wr.cell? ⟨gb612, 0, none⟩ = some (.slice Ao24 t605.length co24) := (blk_cell BK612.out 0).trans rfl
         have hcz73_1 : wr.cell? ⟨gb612, 1, none⟩ = some (.slice Ao28 t608.length co28) := (blk_cell BK612.out 1).trans rfl
         have hfz73_0 := blk_frozen BK612.out 0
         have hfz73_1 := blk_frozen BK612.out 1
         go_wp2_with (first | ((with_reducible refine gate_callee (f := 25) rfl ?_); refine goesL_ (some 96) rfl rfl Try.func25 (by kernel_rfl) rfl #[.agg #[.slice Ao24 t605.length co24, .slice Ao28 t608.length co28]] rfl bM ?_; (with_reducible refine (impl_SecOk.calls k2 _ _ t605 _ _ t608 t615 _ ?side1 ?side2 ?side3 ?side4 A68.out).mono ?_); (case side1 => exact pC (Kd.R_reads' HO_613000.out).2.2); (case side2 => exact (Kd.R_reads' HO_613000.out).2.1); (case side3 => exact pC (Kd.R_reads' HO_613001.out).2.2); (case side4 => exact (Kd.R_reads' HO_613001.out).2.1); rintro e w74 ⟨rfl, hb⟩; refine ⟨_, rfl, ?_⟩; have n0_ := Aside0.mk (Kd.R_below (pR HO_596000.out) hb); have n1_ := Aside0.mk (Kd.R_below (pR HO_596001.out) hb); have n2_ := Aside0.mk (Kd.R_below (pR HO_604000.out) hb); have n3_ := Aside0.mk (Kd.R_below (pR HO_604001.out) hb); have n4_ := Aside0.mk (Kd.R_below (pR HO_613000.out) hb); have n5_ := Aside0.mk (Kd.R_below (pR HO_613001.out) hb); have n6_ := Aside0.mk (blk_below (g := gb595) (o := .cells #[.slice Ao10 t587.length co10, .slice Ao12 t590.length co12] 26 (0, 0)) (pK BK595.out) hb); have n7_ := Aside0.mk (blk_below (g := gb603) (o := .cells #[.slice Ao15 t596.length co15, .slice Ao18 t599.length co18] 26 (0, 0)) (pK BK603.out) hb); have n8_ := Aside0.mk (blk_below (g := gb612) (o := .cells #[.slice Ao24 t605.length co24, .slice Ao28 t608.length co28] 26 (0, 0)) (pK BK612.out) hb); have n9_ := Aside0.mk (below_step (by repeat (first | (with_reducible first | exact HB.out | apply below_alloc | apply pw_below_drewN | apply below_drew1 | refine below_set ?_ GE595.out | refine below_set ?_ GE603.out | refine below_set ?_ GE612.out) | exact HB.out)) hb); clear HO_596000; clear HO_596001; clear HO_604000; clear HO_604001; clear HO_613000; clear HO_613001; clear BK595; clear BK603; clear BK612; clear HB; have HO_596000 := n0_; have HO_596001 := n1_; have HO_604000 := n2_; have HO_604001 := n3_; have HO_613000 := n4_; have HO_613001 := n5_; have BK595 := n6_; have BK603 := n7_; have BK612 := n8_; have HB := n9_; clear n0_ n1_ n2_ n3_ n4_ n5_ n6_ n7_ n8_ n9_; (try clear hb); (try clear hb2); (try clear hk); (try clear hi)))
         go_ret
         exact ⟨by first | rfl | (simp [errW_none, errW_some] <;> rfl) | (simp [*, errW_none, errW_some] <;> rfl), by repeat (first | (with_reducible first | exact HB.out | apply below_alloc | apply pw_below_drewN | apply below_drew1 | refine below_set ?_ GE595.out | refine below_set ?_ GE603.out | refine below_set ?_ GE612.out) | exact HB.out)⟩
     ·replace c38 := Bool.eq_false_iff.mpr c38
      subst c38
      have H1 : (if t604 = true then ((laws_lpSec.f kj6 t605 t608 t587 t590).bind fun t614 => (some t614)) else (if (t605.length : Int) = 0 then (some true) else (some false))) = some r := by rw [if_neg (show ¬ (false = true) by decide)] at H; exact H
      clear H
      have H := H1
      clear H1
      by_cases c75 : t604 = true
      ·subst c75
       have H1 : ((laws_lpSec.f kj6 t605 t608 t587 t590).bind fun t614 => (some t614)) = some r := by rw [if_pos rfl] at H; exact H
       clear H
       have H := H1
       clear H1
       replace H := Option.bind_eq_some_iff.mp H
       obtain ⟨t614, A760, H⟩ := H
       replace H : (some t614) = some r := H
       have A76 := Aside0.mk A760
       clear A760
       obtain rfl := Option.some.inj H
       have hnb77 := NB612_595.out
       have hnc77 := NB595_612.out
       have hnb78 := NB612_603.out
       have hnc78 := NB603_612.out
       have hcz79_0 : wc.cell? ⟨gb612, 0, none⟩ = some (.slice Ao24 t605.length co24) := (blk_cell BK612.out 0).trans rfl
       have hcz79_1 : wc.cell? ⟨gb612, 1, none⟩ = some (.slice Ao28 t608.length co28) := (blk_cell BK612.out 1).trans rfl
       have hfz79_0 := blk_frozen BK612.out 0
       have hfz79_1 := blk_frozen BK612.out 1
       have hnb80 := NB595_603.out
       have hnc80 := NB603_595.out
       have hcz81_0 : wc.cell? ⟨gb595, 0, none⟩ = some (.slice Ao10 t587.length co10) := (blk_cell BK595.out 0).trans rfl
       have hcz81_1 : wc.cell? ⟨gb595, 1, none⟩ = some (.slice Ao12 t590.length co12) := (blk_cell BK595.out 1).trans rfl
       have hfz81_0 := blk_frozen BK595.out 0
       have hfz81_1 := blk_frozen BK595.out 1
       go_wp2_with (first | (go_at_call 31; (with_reducible refine (laws_lpSec.calls kj6 _ _ t605 _ _ t608 _ _ t587 _ _ t590 t614 _ ?side1 ?side2 ?side3 ?side4 ?side5 ?side6 ?side7 ?side8 A76.out).mono ?_); (case side1 => exact pC (Kd.R_reads' HO_613000.out).2.2); (case side2 => exact (Kd.R_reads' HO_613000.out).2.1); (case side3 => exact pC (Kd.R_reads' HO_613001.out).2.2); (case side4 => exact (Kd.R_reads' HO_613001.out).2.1); (case side5 => exact pC (Kd.R_reads' HO_596000.out).2.2); (case side6 => exact (Kd.R_reads' HO_596000.out).2.1); (case side7 => exact pC (Kd.R_reads' HO_596001.out).2.2); (case side8 => exact (Kd.R_reads' HO_596001.out).2.1); rintro e w82 ⟨rfl, hb⟩; have n0_ := Aside0.mk (Kd.R_below (pR HO_596000.out) hb); have n1_ := Aside0.mk (Kd.R_below (pR HO_596001.out) hb); have n2_ := Aside0.mk (Kd.R_below (pR HO_604000.out) hb); have n3_ := Aside0.mk (Kd.R_below (pR HO_604001.out) hb); have n4_ := Aside0.mk (Kd.R_below (pR HO_613000.out) hb); have n5_ := Aside0.mk (Kd.R_below (pR HO_613001.out) hb); have n6_ := Aside0.mk (blk_below (g := gb595) (o := .cells #[.slice Ao10 t587.length co10, .slice Ao12 t590.length co12] 26 (0, 0)) (pK BK595.out) hb); have n7_ := Aside0.mk (blk_below (g := gb603) (o := .cells #[.slice Ao15 t596.length co15, .slice Ao18 t599.length co18] 26 (0, 0)) (pK BK603.out) hb); have n8_ := Aside0.mk (blk_below (g := gb612) (o := .cells #[.slice Ao24 t605.length co24, .slice Ao28 t608.length co28] 26 (0, 0)) (pK BK612.out) hb); have n9_ := Aside0.mk (below_step (by repeat (first | (with_reducible first | exact HB.out | apply below_alloc | apply pw_below_drewN | apply below_drew1 | refine below_set ?_ GE595.out | refine below_set ?_ GE603.out | refine below_set ?_ GE612.out) | exact HB.out)) hb); clear HO_596000; clear HO_596001; clear HO_604000; clear HO_604001; clear HO_613000; clear HO_613001; clear BK595; clear BK603; clear BK612; clear HB; have HO_596000 := n0_; have HO_596001 := n1_; have HO_604000 := n2_; have HO_604001 := n3_; have HO_613000 := n4_; have HO_613001 := n5_; have BK595 := n6_; have BK603 := n7_; have BK612 := n8_; have HB := n9_; clear n0_ n1_ n2_ n3_ n4_ n5_ n6_ n7_ n8_ n9_; (try clear hb); (try clear hb2); (try clear hk); (try clear hi)))
       go_ret
       exact ⟨by first | rfl | (simp [errW_none, errW_some] <;> rfl) | (simp [*, errW_none, errW_some] <;> rfl), by repeat (first | (with_reducible first | exact HB.out | apply below_alloc | apply pw_below_drewN | apply below_drew1 | refine below_set ?_ GE595.out | refine below_set ?_ GE603.out | refine below_set ?_ GE612.out) | exact HB.out)⟩
      ·replace c75 := Bool.eq_false_iff.mpr c75
       subst c75
       have H1 : (if (t605.length : Int) = 0 then (some true) else (some false)) = some r := by rw [if_neg (show ¬ (false = true) by decide)] at H; exact H
       clear H
       have H := H1
       clear H1
       by_cases c83 : (t605.length : Int) = 0
       ·rw [if_pos c83] at H
        have c83b0 : ((t605.length : Int) == 0) = true := beq_iff_eq.mpr c83
        have c83b1 : ((t605.length : Int) != 0) = false := bne_eq_false_iff_eq.mpr c83
        clear c83
        obtain rfl := Option.some.inj H
        have hnb84 := NB612_595.out
        have hnc84 := NB595_612.out
        have hnb85 := NB612_603.out
        have hnc85 := NB603_612.out
        have hcz86_0 : wc.cell? ⟨gb612, 0, none⟩ = some (.slice Ao24 t605.length co24) := (blk_cell BK612.out 0).trans rfl
        have hcz86_1 : wc.cell? ⟨gb612, 1, none⟩ = some (.slice Ao28 t608.length co28) := (blk_cell BK612.out 1).trans rfl
        have hfz86_0 := blk_frozen BK612.out 0
        have hfz86_1 := blk_frozen BK612.out 1
        go_wp2
        go_ret
        exact ⟨by first | rfl | (simp [errW_none, errW_some] <;> rfl) | (simp [*, errW_none, errW_some] <;> rfl), by repeat (first | (with_reducible first | exact HB.out | apply below_alloc | apply pw_below_drewN | apply below_drew1 | refine below_set ?_ GE595.out | refine below_set ?_ GE603.out | refine below_set ?_ GE612.out) | exact HB.out)⟩
       ·rw [if_neg c83] at H
        have c83b0 : ((t605.length : Int) == 0) = false := beq_eq_false_iff_ne.mpr c83
        have c83b1 : ((t605.length : Int) != 0) = true := bne_iff_ne.mpr c83
        have c83b2 : ¬ (t605 = []) := fun h_ => c83 (by rw [h_]; rfl)
        obtain rfl := Option.some.inj H
        have hnb87 := NB612_595.out
        have hnc87 := NB595_612.out
        have hnb88 := NB612_603.out
        have hnc88 := NB603_612.out
        have hcz89_0 : wc.cell? ⟨gb612, 0, none⟩ = some (.slice Ao24 t605.length co24) := (blk_cell BK612.out 0).trans rfl
        have hcz89_1 : wc.cell? ⟨gb612, 1, none⟩ = some (.slice Ao28 t608.length co28) := (blk_cell BK612.out 1).trans rfl
        have hfz89_0 := blk_frozen BK612.out 0
        have hfz89_1 := blk_frozen BK612.out 1
        go_wp2
        go_ret
        exact ⟨by first | rfl | (simp [errW_none, errW_some] <;> rfl) | (simp [*, errW_none, errW_some] <;> rfl), by repeat (first | (with_reducible first | exact HB.out | apply below_alloc | apply pw_below_drewN | apply below_drew1 | refine below_set ?_ GE595.out | refine below_set ?_ GE603.out | refine below_set ?_ GE612.out) | exact HB.out)⟩

/-- THE ONE PURE STATEMENT of laws_FnSecPut: yours. -/
def laws_FnSecPut.Pure : Prop := ∀ (l0 : List Int), l0.length ≤ maxLen → l0.length * 1 ≤ 140737488351232 → (∀ x ∈ l0, (Lit.int .u8 x).wf = true) → ∃ k, laws_FnSecPut.f k l0 = some true
theorem laws_FnSecPut.walk (P : laws_FnSecPut.Pure) (a0 : Option Addr) (len0 cap0 : Nat) (z0 : List Int) (w : World) (w0 : (a0 = none ∧ len0 = 0 ∧ cap0 = 0 ∧ z0 = []) ∨ ∃ x, a0 = some x ∧ len0 ≤ cap0 ∧ cap0 ≤ maxLen ∧ z0.length = cap0 ∧ (∀ i, i < z0.length → w.cell? (x.add i) = some (.int .u8 (z0.getD i 0))) ∧ ∀ n ∈ z0, (Lit.int .u8 n).wf = true) (y0 : len0 * 1 ≤ 140737488351232) :
  Calls Try.prog 9 #[.slice a0 len0 cap0] w fun e w' => e = .returned (.bool true) ∧ Below w.heap.size w w' := by
 obtain ⟨l0, rfl, hr0, hm0, hw0, hc0⟩ := ReadsInt.ofRowC w0
 obtain ⟨k, h⟩ := P l0 hm0 y0 hw0
 refine (laws_FnSecPut.calls k _ _ l0 true w (Kd.C_of_reads (d := (0 : Int)) (h1 := fun _ => rfl) hr0) hc0 h).mono ?_
 rintro e w' ⟨rfl, hd⟩
 exact ⟨rfl, hd⟩

end Go.Proofs.Ythkdhcaojhbfoaa.P
