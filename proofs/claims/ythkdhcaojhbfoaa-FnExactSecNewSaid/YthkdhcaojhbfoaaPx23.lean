-- printed by pprint.py (this session's program over the kit's printer) out of the translation. Lean checks it.
import Derived.Test.YthkdhcaojhbfoaaPx0
import Derived.Test.YthkdhcaojhbfoaaPx4
import Derived.Test.YthkdhcaojhbfoaaPx7
import Derived.Test.YthkdhcaojhbfoaaPx8
import Derived.Test.YthkdhcaojhbfoaaPx18
namespace Go.Proofs.Ythkdhcaojhbfoaa.P
open Go.RowKit Go.Proofs.YthkdhcaojhbfoaaX Go.Proofs.YthkdhcaojhbfoaaW.PrintWords Go.Proofs.YthkdhcaojhbfoaaW.PrintLast Go.Proofs.YthkdhcaojhbfoaaW.PrintMore
attribute [local go_sem] max2_int min2_int max_two min_two max_three min_three max_four min_four   -- for this text's walks alone
set_option linter.unusedVariables false
set_option linter.unusedSimpArgs false

/-! ### laws_FnExactSecNew: function 4 -/
mutual
def laws_FnExactSecNew.j0 : Nat → Int → List ByteArray → List (S54) → List ByteArray → List (S54) → Option (Bool)
 | 0, _, _, _, _, _ => none
 | k + 1, x0, x150000, x150001, x157000, x157001 => (laws_markSecDisk.f k x157000 x157001 1).bind fun bt158 => ((laws_heldSecDisk.f k bt158.2.1 bt158.2.2 1).bind fun t161 => (if t161 < 0 then (some false) else (laws_FnExactSecNew.j1 k x0 bt158.1 t161 x150000 x150001 bt158.2.1 bt158.2.2)))
def laws_FnExactSecNew.j1 : Nat → Int → Int → Int → List ByteArray → List (S54) → List ByteArray → List (S54) → Option (Bool)
 | 0, _, _, _, _, _, _, _ => none
 | k + 1, x0, x5, x6, x150000, x150001, x157000, x157001 => if x6 = x5 then (laws_FnExactSecNew.j2 k x0 x5 x150000 x150001 x157000 x157001) else (some false)
def laws_FnExactSecNew.j2 : Nat → Int → Int → List ByteArray → List (S54) → List ByteArray → List (S54) → Option (Bool)
 | 0, _, _, _, _, _, _ => none
 | k + 1, x0, x5, x150000, x150001, x157000, x157001 => (impl_SecNew.f x0).bind fun bt162 => ((laws_eqSecDisk.f k bt162.1 bt162.2 x150000 x150001).bind fun t169 => (if t169 = true then (laws_FnExactSecNew.j3 k x5 x157000 x157001) else (some false)))
def laws_FnExactSecNew.j3 : Nat → Int → List ByteArray → List (S54) → Option (Bool)
 | 0, _, _, _ => none
 | k + 1, x5, x157000, x157001 => (laws_heldSecDisk.f k x157000 x157001 1).bind fun t170 => (if t170 < 0 then (some false) else (if t170 = x5 then (some true) else (some false)))
end
def laws_FnExactSecNew.f (k : Nat) (a0 : Int) : Option (Bool) := (spec_SecNew.f a0).bind fun bt143 => ((impl_SecNew.f a0).bind fun bt150 => ((laws_eqSecDisk.f k bt150.1 bt150.2 bt143.1 bt143.2).bind fun t157 => (if t157 = true then (laws_FnExactSecNew.j0 k a0 bt143.1 bt143.2 bt150.1 bt150.2) else (some false))))
theorem laws_FnExactSecNew.mono_l : ∀ k, (∀ y0 y1 y2 y3 y4, LeO (laws_FnExactSecNew.j0 k y0 y1 y2 y3 y4) (laws_FnExactSecNew.j0 (k + 1) y0 y1 y2 y3 y4)) ∧ (∀ y0 y1 y2 y3 y4 y5 y6, LeO (laws_FnExactSecNew.j1 k y0 y1 y2 y3 y4 y5 y6) (laws_FnExactSecNew.j1 (k + 1) y0 y1 y2 y3 y4 y5 y6)) ∧ (∀ y0 y1 y2 y3 y4 y5, LeO (laws_FnExactSecNew.j2 k y0 y1 y2 y3 y4 y5) (laws_FnExactSecNew.j2 (k + 1) y0 y1 y2 y3 y4 y5)) ∧ (∀ y0 y1 y2, LeO (laws_FnExactSecNew.j3 k y0 y1 y2) (laws_FnExactSecNew.j3 (k + 1) y0 y1 y2))
 | 0 => ⟨fun _ _ _ _ _ r h => by simp [laws_FnExactSecNew.j0] at h, fun _ _ _ _ _ _ _ r h => by simp [laws_FnExactSecNew.j1] at h, fun _ _ _ _ _ _ r h => by simp [laws_FnExactSecNew.j2] at h, fun _ _ _ r h => by simp [laws_FnExactSecNew.j3] at h⟩
 | k + 1 => by
  obtain ⟨ih0, ih1, ih2, ih3⟩ := laws_FnExactSecNew.mono_l k
  refine ⟨?_, ?_, ?_, ?_⟩
  ·intro y0 y1 y2 y3 y4
   unfold laws_FnExactSecNew.j0
   repeat' first
   | (with_reducible exact ih0 _ _ _ _ _)
   | (with_reducible exact ih1 _ _ _ _ _ _ _)
   | (with_reducible exact ih2 _ _ _ _ _ _)
   | (with_reducible exact ih3 _ _ _)
   | (with_reducible exact laws_eqSecDisk.mono _ _ _ _ _)
   | (with_reducible exact laws_heldSecDisk.mono _ _ _ _)
   | (with_reducible exact laws_markSecDisk.mono _ _ _ _)
   | (with_reducible exact LeO.refl _)
   | (with_reducible exact LeO.none _)
   | (with_reducible refine LeO.ite ?_ ?_)
   | (with_reducible refine LeO.bind ?_ (fun _ => ?_))
   | exact ih0 _ _ _ _ _
   | exact ih1 _ _ _ _ _ _ _
   | exact ih2 _ _ _ _ _ _
   | exact ih3 _ _ _
   | exact laws_eqSecDisk.mono _ _ _ _ _
   | exact laws_heldSecDisk.mono _ _ _ _
   | exact laws_markSecDisk.mono _ _ _ _
   | exact LeO.none _
   | refine LeO.ite ?_ ?_
   | refine LeO.bind ?_ (fun _ => ?_)
  ·intro y0 y1 y2 y3 y4 y5 y6
   unfold laws_FnExactSecNew.j1
   repeat' first
   | (with_reducible exact ih0 _ _ _ _ _)
   | (with_reducible exact ih1 _ _ _ _ _ _ _)
   | (with_reducible exact ih2 _ _ _ _ _ _)
   | (with_reducible exact ih3 _ _ _)
   | (with_reducible exact laws_eqSecDisk.mono _ _ _ _ _)
   | (with_reducible exact laws_heldSecDisk.mono _ _ _ _)
   | (with_reducible exact laws_markSecDisk.mono _ _ _ _)
   | (with_reducible exact LeO.refl _)
   | (with_reducible exact LeO.none _)
   | (with_reducible refine LeO.ite ?_ ?_)
   | (with_reducible refine LeO.bind ?_ (fun _ => ?_))
   | exact ih0 _ _ _ _ _
   | exact ih1 _ _ _ _ _ _ _
   | exact ih2 _ _ _ _ _ _
   | exact ih3 _ _ _
   | exact laws_eqSecDisk.mono _ _ _ _ _
   | exact laws_heldSecDisk.mono _ _ _ _
   | exact laws_markSecDisk.mono _ _ _ _
   | exact LeO.none _
   | refine LeO.ite ?_ ?_
   | refine LeO.bind ?_ (fun _ => ?_)
  ·intro y0 y1 y2 y3 y4 y5
   unfold laws_FnExactSecNew.j2
   repeat' first
   | (with_reducible exact ih0 _ _ _ _ _)
   | (with_reducible exact ih1 _ _ _ _ _ _ _)
   | (with_reducible exact ih2 _ _ _ _ _ _)
   | (with_reducible exact ih3 _ _ _)
   | (with_reducible exact laws_eqSecDisk.mono _ _ _ _ _)
   | (with_reducible exact laws_heldSecDisk.mono _ _ _ _)
   | (with_reducible exact laws_markSecDisk.mono _ _ _ _)
   | (with_reducible exact LeO.refl _)
   | (with_reducible exact LeO.none _)
   | (with_reducible refine LeO.ite ?_ ?_)
   | (with_reducible refine LeO.bind ?_ (fun _ => ?_))
   | exact ih0 _ _ _ _ _
   | exact ih1 _ _ _ _ _ _ _
   | exact ih2 _ _ _ _ _ _
   | exact ih3 _ _ _
   | exact laws_eqSecDisk.mono _ _ _ _ _
   | exact laws_heldSecDisk.mono _ _ _ _
   | exact laws_markSecDisk.mono _ _ _ _
   | exact LeO.none _
   | refine LeO.ite ?_ ?_
   | refine LeO.bind ?_ (fun _ => ?_)
  ·intro y0 y1 y2
   unfold laws_FnExactSecNew.j3
   repeat' first
   | (with_reducible exact ih0 _ _ _ _ _)
   | (with_reducible exact ih1 _ _ _ _ _ _ _)
   | (with_reducible exact ih2 _ _ _ _ _ _)
   | (with_reducible exact ih3 _ _ _)
   | (with_reducible exact laws_eqSecDisk.mono _ _ _ _ _)
   | (with_reducible exact laws_heldSecDisk.mono _ _ _ _)
   | (with_reducible exact laws_markSecDisk.mono _ _ _ _)
   | (with_reducible exact LeO.refl _)
   | (with_reducible exact LeO.none _)
   | (with_reducible refine LeO.ite ?_ ?_)
   | (with_reducible refine LeO.bind ?_ (fun _ => ?_))
   | exact ih0 _ _ _ _ _
   | exact ih1 _ _ _ _ _ _ _
   | exact ih2 _ _ _ _ _ _
   | exact ih3 _ _ _
   | exact laws_eqSecDisk.mono _ _ _ _ _
   | exact laws_heldSecDisk.mono _ _ _ _
   | exact laws_markSecDisk.mono _ _ _ _
   | exact LeO.none _
   | refine LeO.ite ?_ ?_
   | refine LeO.bind ?_ (fun _ => ?_)
theorem laws_FnExactSecNew.mono : ∀ a0 k, LeO (laws_FnExactSecNew.f k a0) (laws_FnExactSecNew.f (k + 1) a0) := by
 intro a0 k
 obtain ⟨ih0, ih1, ih2, ih3⟩ := laws_FnExactSecNew.mono_l k
 unfold laws_FnExactSecNew.f
 repeat' first
   | (with_reducible exact ih0 _ _ _ _ _)
   | (with_reducible exact ih1 _ _ _ _ _ _ _)
   | (with_reducible exact ih2 _ _ _ _ _ _)
   | (with_reducible exact ih3 _ _ _)
   | (with_reducible exact laws_eqSecDisk.mono _ _ _ _ _)
   | (with_reducible exact laws_heldSecDisk.mono _ _ _ _)
   | (with_reducible exact laws_markSecDisk.mono _ _ _ _)
   | (with_reducible exact LeO.refl _)
   | (with_reducible exact LeO.none _)
   | (with_reducible refine LeO.ite ?_ ?_)
   | (with_reducible refine LeO.bind ?_ (fun _ => ?_))
   | exact ih0 _ _ _ _ _
   | exact ih1 _ _ _ _ _ _ _
   | exact ih2 _ _ _ _ _ _
   | exact ih3 _ _ _
   | exact laws_eqSecDisk.mono _ _ _ _ _
   | exact laws_heldSecDisk.mono _ _ _ _
   | exact laws_markSecDisk.mono _ _ _ _
   | exact LeO.none _
   | refine LeO.ite ?_ ?_
   | refine LeO.bind ?_ (fun _ => ?_)
set_option maxHeartbeats 8000000 in
set_option maxRecDepth 100000 in
theorem laws_FnExactSecNew.calls (k : Nat) (a0 : Int) (r : Bool) (w : World) (h : laws_FnExactSecNew.f k a0 = some r) :
  Calls Try.prog 4 #[.int .i64 a0] w fun e w' => e = .returned (.bool r) ∧ Below w.heap.size w w' := by
 have hu26 := Try.underlying26
 have HB := Aside0.mk (Below.refl w.heap.size w)
 have H : ((spec_SecNew.f a0).bind fun bt143 => ((impl_SecNew.f a0).bind fun bt150 => ((laws_eqSecDisk.f k bt150.1 bt150.2 bt143.1 bt143.2).bind fun t157 => (if t157 = true then (laws_FnExactSecNew.j0 k a0 bt143.1 bt143.2 bt150.1 bt150.2) else (some false))))) = some r := h
 clear h
 replace H := Option.bind_eq_some_iff.mp H
 obtain ⟨⟨t143, t146⟩, A20, H⟩ := H
 replace H : ((impl_SecNew.f a0).bind fun bt150 => ((laws_eqSecDisk.f k bt150.1 bt150.2 t143 t146).bind fun t157 => (if t157 = true then (laws_FnExactSecNew.j0 k a0 t143 t146 bt150.1 bt150.2) else (some false)))) = some r := H
 have A2 := Aside0.mk A20
 clear A20
 replace H := Option.bind_eq_some_iff.mp H
 obtain ⟨⟨t150, t153⟩, A30, H⟩ := H
 replace H : ((laws_eqSecDisk.f k t150 t153 t143 t146).bind fun t157 => (if t157 = true then (laws_FnExactSecNew.j0 k a0 t143 t146 t150 t153) else (some false))) = some r := H
 have A3 := Aside0.mk A30
 clear A30
 replace H := Option.bind_eq_some_iff.mp H
 obtain ⟨t157, A40, H⟩ := H
 replace H : (if t157 = true then (laws_FnExactSecNew.j0 k a0 t143 t146 t150 t153) else (some false)) = some r := H
 have A4 := Aside0.mk A40
 clear A40
 have HC5 := Aside0.mk H
 clear H
 go_enter Try.func4, Try.ntmps4
 go_upto_if 15 with (first | ((with_reducible refine gate_callee (f := 15) rfl ?_); refine goesL_ (some 9) rfl rfl Try.func15 (by kernel_rfl) rfl #[.int .i64 a0] rfl bM ?_; (with_reducible refine (spec_SecNew.calls a0 t143 t146 _ A2.out).mono ?_); rintro e w6 ⟨v144, v147, rfl, ho0, ho1, hb⟩; refine ⟨_, rfl, ?_⟩; have n0_ := Aside0.mk (Kd.R_lower ho0 (below_size (pB HB.out))); have n1_ := Aside0.mk (Kd.R_lower ho1 (below_size (pB HB.out))); have n2_ := Aside0.mk (below_step (pB HB.out) hb); clear HB; have HO145 := n0_; have HO148 := n1_; have HB := n2_; clear n0_ n1_ n2_; (try clear hb); (try clear hb2); (try clear hk); (try clear hi); (try clear ho0); (try clear ho1)) | ((with_reducible refine gate_dst (N := 3) rfl ?_); refine box_event ?hg (N := 3) ?hd (cs := #[.slice none 0 0, .slice none 0 0]) (t := 26) ?hr ?_; (case hd => rfl); (case hg => rfl); (case hr => first | (go_simp; done) | (go_simp; rfl)); intro gb149 hg w7 hbox hb; have n0_ := Aside0.mk (Kd.R_below (pR HO145.out) hb); have n1_ := Aside0.mk (Kd.R_below (pR HO148.out) hb); have n2_ := Aside0.mk (below_step (pB HB.out) hb); have n3_ := Aside0.mk (hbox); have n4_ := Aside0.mk ((by rw [hg]; exact (below_size (pB HB.out)) : w.heap.size ≤ gb149)); have n5_ := Aside0.mk ((by rw [hg]; exact (below_size (pB HB.out)) : w.heap.size ≤ gb149)); clear HO145; clear HO148; clear HB; have HO145 := n0_; have HO148 := n1_; have HB := n2_; have BK149 := n3_; have GW149 := n4_; have GE149 := n5_; clear n0_ n1_ n2_ n3_ n4_ n5_; clear hb hbox hg; obtain ⟨Ao8, co8, eo8⟩ := Kd.R_slice HO145.out; subst eo8; have hcz9_0 : w7.cell? ⟨gb149, 0, none⟩ = some (.slice none 0 0) := (blk_cell BK149.out 0).trans rfl; have hcz9_1 : w7.cell? ⟨gb149, 1, none⟩ = some (.slice none 0 0) := (blk_cell BK149.out 1).trans rfl; have hfz9_0 := blk_frozen BK149.out 0; have hfz9_1 := blk_frozen BK149.out 1; obtain ⟨Ao10, co10, eo10⟩ := Kd.R_slice HO148.out; subst eo10) | ((with_reducible refine gate_callee (f := 16) rfl ?_); refine goesL_ (some 11) rfl rfl Try.func16 (by kernel_rfl) rfl #[.int .i64 a0] rfl bM ?_; (with_reducible refine (impl_SecNew.calls a0 t150 t153 _ A3.out).mono ?_); rintro e w11 ⟨v151, v154, rfl, ho0, ho1, hb⟩; refine ⟨_, rfl, ?_⟩; have n0_ := Aside0.mk (Kd.R_elder' (pR (Kd.R_mono (Kd.R_far (p := ⟨gb149, 1, none⟩) (Kd.R_far (p := ⟨gb149, 0, none⟩) (Kd.R_types HO145.out BK149.out (by decide)) (fun _ hk => hk.2) (.slice Ao8 t143.length co8)) (fun _ hk => hk.2) (.slice Ao10 t146.length co10)) (fun _ h_ => h_.1))) (Kd.R_base ho0) hb); have n1_ := Aside0.mk (Kd.R_elder' (pR (Kd.R_mono (Kd.R_far (p := ⟨gb149, 1, none⟩) (Kd.R_far (p := ⟨gb149, 0, none⟩) (Kd.R_types HO148.out BK149.out (by decide)) (fun _ hk => hk.2) (.slice Ao8 t143.length co8)) (fun _ hk => hk.2) (.slice Ao10 t146.length co10)) (fun _ h_ => h_.1))) (Kd.R_base ho1) hb); have n2_ := Aside0.mk (Kd.R_lower (Kd.R_new' ho0 (Kd.R_lt (pR (Kd.R_mono (Kd.R_far (p := ⟨gb149, 1, none⟩) (Kd.R_far (p := ⟨gb149, 0, none⟩) (Kd.R_types HO145.out BK149.out (by decide)) (fun _ hk => hk.2) (.slice Ao8 t143.length co8)) (fun _ hk => hk.2) (.slice Ao10 t146.length co10)) (fun _ h_ => h_.1))))) (below_size (by repeat (first | (with_reducible first | exact HB.out | apply below_alloc | apply pw_below_drewN | apply below_drew1 | refine below_set ?_ GE149.out) | exact HB.out)))); have n3_ := Aside0.mk (Kd.R_lower (Kd.R_new' ho1 (Kd.R_lt (pR (Kd.R_mono (Kd.R_far (p := ⟨gb149, 1, none⟩) (Kd.R_far (p := ⟨gb149, 0, none⟩) (Kd.R_types HO148.out BK149.out (by decide)) (fun _ hk => hk.2) (.slice Ao8 t143.length co8)) (fun _ hk => hk.2) (.slice Ao10 t146.length co10)) (fun _ h_ => h_.1))))) (below_size (by repeat (first | (with_reducible first | exact HB.out | apply below_alloc | apply pw_below_drewN | apply below_drew1 | refine below_set ?_ GE149.out) | exact HB.out)))); have n4_ := Aside0.mk (blk_below (g := gb149) (o := .cells #[.slice Ao8 t143.length co8, .slice Ao10 t146.length co10] 26 (0, 0)) (by (with_reducible repeat (first | refine blk_drewN ?_ _ | refine blk_drew ?_ | refine blk_alloc ?_ _)); refine blk_put (cs := #[.slice Ao8 t143.length co8, .slice none 0 0]) ?_ 1 _ rfl; (with_reducible repeat (first | refine blk_drewN ?_ _ | refine blk_drew ?_ | refine blk_alloc ?_ _)); refine blk_put (cs := #[.slice none 0 0, .slice none 0 0]) ?_ 0 _ rfl; (with_reducible repeat (first | refine blk_drewN ?_ _ | refine blk_drew ?_ | refine blk_alloc ?_ _)); exact BK149.out) hb); have n5_ := Aside0.mk (below_step (by repeat (first | (with_reducible first | exact HB.out | apply below_alloc | apply pw_below_drewN | apply below_drew1 | refine below_set ?_ GE149.out) | exact HB.out)) hb); clear HO145; clear HO148; clear BK149; clear HB; have HO145 := n0_; have HO148 := n1_; have HO152 := n2_; have HO155 := n3_; have BK149 := n4_; have HB := n5_; clear n0_ n1_ n2_ n3_ n4_ n5_; (try clear hb); (try clear hb2); (try clear hk); (try clear hi); (try clear ho0); (try clear ho1)) | ((with_reducible refine gate_dst (N := 4) rfl ?_); refine box_event ?hg (N := 4) ?hd (cs := #[.slice none 0 0, .slice none 0 0]) (t := 26) ?hr ?_; (case hd => rfl); (case hg => rfl); (case hr => first | (go_simp; done) | (go_simp; rfl)); intro gb156 hg w12 hbox hb; have n0_ := Aside0.mk (Kd.R_below (pR HO145.out) hb); have n1_ := Aside0.mk (Kd.R_below (pR HO148.out) hb); have n2_ := Aside0.mk (Kd.R_below (pR HO152.out) hb); have n3_ := Aside0.mk (Kd.R_below (pR HO155.out) hb); have n4_ := Aside0.mk (blk_below (g := gb149) (o := .cells #[.slice Ao8 t143.length co8, .slice Ao10 t146.length co10] 26 (0, 0)) (pK BK149.out) hb); have n5_ := Aside0.mk (below_step (by repeat (first | (with_reducible first | exact HB.out | apply below_alloc | apply pw_below_drewN | apply below_drew1 | refine below_set ?_ GE149.out) | exact HB.out)) hb); have n6_ := Aside0.mk (hbox); have n7_ := Aside0.mk ((by rw [hg]; exact (below_size (by repeat (first | (with_reducible first | exact HB.out | apply below_alloc | apply pw_below_drewN | apply below_drew1 | refine below_set ?_ GE149.out) | exact HB.out))) : w.heap.size ≤ gb156)); have n8_ := Aside0.mk ((by rw [hg]; exact (below_size (by repeat (first | (with_reducible first | exact HB.out | apply below_alloc | apply pw_below_drewN | apply below_drew1 | refine below_set ?_ GE149.out) | exact HB.out))) : w.heap.size ≤ gb156)); have n9_ := Aside0.mk ((by rw [hg]; exact Nat.ne_of_lt (blk_lt (g := gb149) (o := .cells #[.slice Ao8 t143.length co8, .slice Ao10 t146.length co10] 26 (0, 0)) (pK BK149.out)) : gb149 ≠ gb156)); have n10_ := Aside0.mk ((by rw [hg]; exact Nat.ne_of_gt (blk_lt (g := gb149) (o := .cells #[.slice Ao8 t143.length co8, .slice Ao10 t146.length co10] 26 (0, 0)) (pK BK149.out)) : gb156 ≠ gb149)); clear HO145; clear HO148; clear HO152; clear HO155; clear BK149; clear HB; have HO145 := n0_; have HO148 := n1_; have HO152 := n2_; have HO155 := n3_; have BK149 := n4_; have HB := n5_; have BK156 := n6_; have GW156 := n7_; have GE156 := n8_; have NB149_156 := n9_; have NB156_149 := n10_; clear n0_ n1_ n2_ n3_ n4_ n5_ n6_ n7_ n8_ n9_ n10_; clear hb hbox hg; obtain ⟨Ao13, co13, eo13⟩ := Kd.R_slice HO152.out; subst eo13; have hnb14 := NB156_149.out; have hnc14 := NB149_156.out; have hcz15_0 : w12.cell? ⟨gb156, 0, none⟩ = some (.slice none 0 0) := (blk_cell BK156.out 0).trans rfl; have hcz15_1 : w12.cell? ⟨gb156, 1, none⟩ = some (.slice none 0 0) := (blk_cell BK156.out 1).trans rfl; have hfz15_0 := blk_frozen BK156.out 0; have hfz15_1 := blk_frozen BK156.out 1; obtain ⟨Ao16, co16, eo16⟩ := Kd.R_slice HO155.out; subst eo16; have hcz17_0 : w12.cell? ⟨gb149, 0, none⟩ = some (.slice Ao8 t143.length co8) := (blk_cell BK149.out 0).trans rfl; have hcz17_1 : w12.cell? ⟨gb149, 1, none⟩ = some (.slice Ao10 t146.length co10) := (blk_cell BK149.out 1).trans rfl; have hfz17_0 := blk_frozen BK149.out 0; have hfz17_1 := blk_frozen BK149.out 1) | ((with_reducible refine gate_callee (f := 17) rfl ?_); refine goesL_ (some 14) rfl rfl Try.func17 (by kernel_rfl) rfl #[.agg #[.slice Ao13 t150.length co13, .slice Ao16 t153.length co16], .agg #[.slice Ao8 t143.length co8, .slice Ao10 t146.length co10]] rfl bM ?_; (with_reducible refine (laws_eqSecDisk.calls k _ _ t150 _ _ t153 _ _ t143 _ _ t146 t157 _ ?side1 ?side2 ?side3 ?side4 ?side5 ?side6 ?side7 ?side8 A4.out).mono ?_); (case side1 => refine (Kd.R_reads' (e := 9) (base := w.heap.size) (ok := fun k_ => (True ∧ some k_ ≠ (.slice Ao8 t143.length co8 : Value).ownBlock)) (n := t150.length) (c := co13) ?_).2.2; exact (pR (Kd.R_mono (Kd.R_far (p := ⟨gb156, 1, none⟩) (Kd.R_far (p := ⟨gb156, 0, none⟩) (Kd.R_types HO152.out BK156.out (by decide)) (fun _ hk => hk.2) (.slice Ao13 t150.length co13)) (fun _ hk => hk.2) (.slice Ao16 t153.length co16)) (fun _ h_ => h_.1)))); (case side2 => exact (Kd.R_reads' HO152.out).2.1); (case side3 => refine (Kd.R_reads' (e := 54) (base := w.heap.size) (ok := fun k_ => (True ∧ some k_ ≠ (.slice Ao10 t146.length co10 : Value).ownBlock)) (n := t153.length) (c := co16) ?_).2.2; exact (pR (Kd.R_mono (Kd.R_far (p := ⟨gb156, 1, none⟩) (Kd.R_far (p := ⟨gb156, 0, none⟩) (Kd.R_types HO155.out BK156.out (by decide)) (fun _ hk => hk.2) (.slice Ao13 t150.length co13)) (fun _ hk => hk.2) (.slice Ao16 t153.length co16)) (fun _ h_ => h_.1)))); (case side4 => exact (Kd.R_reads' HO155.out).2.1); (case side5 => refine (Kd.R_reads' (e := 9) (base := w.heap.size) (ok := fun k_ => (True ∧ some k_ ≠ (.slice Ao13 t150.length co13 : Value).ownBlock)) (n := t143.length) (c := co8) ?_).2.2; exact (pR (Kd.R_mono (Kd.R_far (p := ⟨gb156, 1, none⟩) (Kd.R_far (p := ⟨gb156, 0, none⟩) (Kd.R_types HO145.out BK156.out (by decide)) (fun _ hk => hk.2) (.slice Ao13 t150.length co13)) (fun _ hk => hk.2) (.slice Ao16 t153.length co16)) (fun _ h_ => h_.1)))); (case side6 => exact (Kd.R_reads' HO145.out).2.1); (case side7 => refine (Kd.R_reads' (e := 54) (base := w.heap.size) (ok := fun k_ => (True ∧ some k_ ≠ (.slice Ao16 t153.length co16 : Value).ownBlock)) (n := t146.length) (c := co10) ?_).2.2; exact (pR (Kd.R_mono (Kd.R_far (p := ⟨gb156, 1, none⟩) (Kd.R_far (p := ⟨gb156, 0, none⟩) (Kd.R_types HO148.out BK156.out (by decide)) (fun _ hk => hk.2) (.slice Ao13 t150.length co13)) (fun _ hk => hk.2) (.slice Ao16 t153.length co16)) (fun _ h_ => h_.1)))); (case side8 => exact (Kd.R_reads' HO148.out).2.1); rintro e w18 ⟨rfl, hb⟩; refine ⟨_, rfl, ?_⟩; have n0_ := Aside0.mk (Kd.R_below (pR (Kd.R_mono (Kd.R_far (p := ⟨gb156, 1, none⟩) (Kd.R_far (p := ⟨gb156, 0, none⟩) (Kd.R_types HO145.out BK156.out (by decide)) (fun _ hk => hk.2) (.slice Ao13 t150.length co13)) (fun _ hk => hk.2) (.slice Ao16 t153.length co16)) (fun _ h_ => h_.1))) hb); have n1_ := Aside0.mk (Kd.R_below (pR (Kd.R_mono (Kd.R_far (p := ⟨gb156, 1, none⟩) (Kd.R_far (p := ⟨gb156, 0, none⟩) (Kd.R_types HO148.out BK156.out (by decide)) (fun _ hk => hk.2) (.slice Ao13 t150.length co13)) (fun _ hk => hk.2) (.slice Ao16 t153.length co16)) (fun _ h_ => h_.1))) hb); have n2_ := Aside0.mk (Kd.R_below (pR (Kd.R_mono (Kd.R_far (p := ⟨gb156, 1, none⟩) (Kd.R_far (p := ⟨gb156, 0, none⟩) (Kd.R_types HO152.out BK156.out (by decide)) (fun _ hk => hk.2) (.slice Ao13 t150.length co13)) (fun _ hk => hk.2) (.slice Ao16 t153.length co16)) (fun _ h_ => h_.1))) hb); have n3_ := Aside0.mk (Kd.R_below (pR (Kd.R_mono (Kd.R_far (p := ⟨gb156, 1, none⟩) (Kd.R_far (p := ⟨gb156, 0, none⟩) (Kd.R_types HO155.out BK156.out (by decide)) (fun _ hk => hk.2) (.slice Ao13 t150.length co13)) (fun _ hk => hk.2) (.slice Ao16 t153.length co16)) (fun _ h_ => h_.1))) hb); have n4_ := Aside0.mk (blk_below (g := gb149) (o := .cells #[.slice Ao8 t143.length co8, .slice Ao10 t146.length co10] 26 (0, 0)) (by (with_reducible repeat (first | refine blk_drewN ?_ _ | refine blk_drew ?_ | refine blk_alloc ?_ _)); refine blk_far ?_ NB149_156.out _; (with_reducible repeat (first | refine blk_drewN ?_ _ | refine blk_drew ?_ | refine blk_alloc ?_ _)); refine blk_far ?_ NB149_156.out _; (with_reducible repeat (first | refine blk_drewN ?_ _ | refine blk_drew ?_ | refine blk_alloc ?_ _)); exact BK149.out) hb); have n5_ := Aside0.mk (blk_below (g := gb156) (o := .cells #[.slice Ao13 t150.length co13, .slice Ao16 t153.length co16] 26 (0, 0)) (by (with_reducible repeat (first | refine blk_drewN ?_ _ | refine blk_drew ?_ | refine blk_alloc ?_ _)); refine blk_put (cs := #[.slice Ao13 t150.length co13, .slice none 0 0]) ?_ 1 _ rfl; (with_reducible repeat (first | refine blk_drewN ?_ _ | refine blk_drew ?_ | refine blk_alloc ?_ _)); refine blk_put (cs := #[.slice none 0 0, .slice none 0 0]) ?_ 0 _ rfl; (with_reducible repeat (first | refine blk_drewN ?_ _ | refine blk_drew ?_ | refine blk_alloc ?_ _)); exact BK156.out) hb); have n6_ := Aside0.mk (below_step (by repeat (first | (with_reducible first | exact HB.out | apply below_alloc | apply pw_below_drewN | apply below_drew1 | refine below_set ?_ GE149.out | refine below_set ?_ GE156.out) | exact HB.out)) hb); clear HO145; clear HO148; clear HO152; clear HO155; clear BK149; clear BK156; clear HB; have HO145 := n0_; have HO148 := n1_; have HO152 := n2_; have HO155 := n3_; have BK149 := n4_; have BK156 := n5_; have HB := n6_; clear n0_ n1_ n2_ n3_ n4_ n5_ n6_; (try clear hb); (try clear hb2); (try clear hk); (try clear hi)))
 (try simp only [Act.put, List.setIfInBounds_toArray, List.set_cons_zero, List.set_cons_succ])
 go_cut [] (fun wc => ∃ (kq : Nat), Aside0 (laws_FnExactSecNew.j0 kq a0 t143 t146 t150 t153 = some r) ∧ Aside0 (kq ≤ k) ∧ Aside0 (Kd.R Kd.string 9 wc w.heap.size (fun k_ => some k_ ≠ ((.slice Ao13 t150.length co13) : Value).ownBlock) (.slice Ao8 t143.length co8) t143) ∧ Aside0 (Kd.R k54 54 wc w.heap.size (fun k_ => some k_ ≠ ((.slice Ao16 t153.length co16) : Value).ownBlock) (.slice Ao10 t146.length co10) t146) ∧ Aside0 (Kd.R Kd.string 9 wc w.heap.size (fun k_ => some k_ ≠ ((.slice Ao8 t143.length co8) : Value).ownBlock) (.slice Ao13 t150.length co13) t150) ∧ Aside0 (Kd.R k54 54 wc w.heap.size (fun k_ => some k_ ≠ ((.slice Ao10 t146.length co10) : Value).ownBlock) (.slice Ao16 t153.length co16) t153) ∧ Aside0 (wc.heap[gb149]? = some (.cells #[(.slice Ao8 t143.length co8), (.slice Ao10 t146.length co10)] 26 (0, 0))) ∧ Aside0 (wc.heap[gb156]? = some (.cells #[(.slice Ao13 t150.length co13), (.slice Ao16 t153.length co16)] 26 (0, 0))) ∧ Aside0 (Below w.heap.size w wc))
 case first =>
  have H := HC5.out
  clear HC5
  by_cases c19 : t157 = true
  ·subst c19
   have H1 : (laws_FnExactSecNew.j0 k a0 t143 t146 t150 t153) = some r := by rw [if_pos rfl] at H; exact H
   clear H
   have H := H1
   clear H1
   have H' := Aside0.mk H
   clear H
   go_wp2
   go_meet
   case rel => exact ⟨_, H', ⟨by first | omega | exact Nat.le_refl _⟩, ⟨pR (Kd.R_mono HO145.out (fun _ hk => hk.2))⟩, ⟨pR (Kd.R_mono HO148.out (fun _ hk => hk.2))⟩, ⟨pR (Kd.R_mono HO152.out (fun _ hk => hk.2))⟩, ⟨pR (Kd.R_mono HO155.out (fun _ hk => hk.2))⟩, ⟨pK BK149.out⟩, ⟨pK BK156.out⟩, ⟨by repeat (first | (with_reducible first | exact HB.out | apply below_alloc | apply pw_below_drewN | apply below_drew1 | refine below_set ?_ GE149.out | refine below_set ?_ GE156.out) | exact HB.out)⟩⟩
  ·replace c19 := Bool.eq_false_iff.mpr c19
   subst c19
   have H1 : (some false) = some r := by rw [if_neg (show ¬ (false = true) by decide)] at H; exact H
   clear H
   have H := H1
   clear H1
   obtain rfl := Option.some.inj H
   go_wp2
   go_ret
   exact ⟨by first | rfl | (simp [errW_none, errW_some] <;> rfl) | (simp [*, errW_none, errW_some] <;> rfl), by repeat (first | (with_reducible first | exact HB.out | apply below_alloc | apply pw_below_drewN | apply below_drew1 | refine below_set ?_ GE149.out | refine below_set ?_ GE156.out) | exact HB.out)⟩
 case rest =>
  clear HC5
  try clear c1
  try clear p2
  try clear c4
  try clear c14
  try clear c15
  try clear c16
  try clear c17
  try clear c19
  try clear hcz15_0
  try clear hcz15_1
  try clear hcz17_0
  try clear hcz17_1
  try clear hcz9_0
  try clear hcz9_1
  try clear hfz15_0
  try clear hfz15_1
  try clear hfz17_0
  try clear hfz17_1
  try clear hfz9_0
  try clear hfz9_1
  obtain ⟨kq, HA, HJ4, HO_150000, HO_150001, HO_157000, HO_157001, BK149, BK156, HB⟩ := hcut
  cases kq with
  | zero => exact absurd HA.out (by simp [laws_FnExactSecNew.j0])
  | succ kj4 =>
   have H := HA.out
   clear HA
   simp only [laws_FnExactSecNew.j0] at H
   replace H := Option.bind_eq_some_iff.mp H
   obtain ⟨⟨t158, t159, t160⟩, A200, H⟩ := H
   replace H : ((laws_heldSecDisk.f kj4 t159 t160 1).bind fun t161 => (if t161 < 0 then (some false) else (laws_FnExactSecNew.j1 kj4 a0 t158 t161 t143 t146 t159 t160))) = some r := H
   have A20 := Aside0.mk A200
   clear A200
   replace H := Option.bind_eq_some_iff.mp H
   obtain ⟨t161, A210, H⟩ := H
   replace H : (if t161 < 0 then (some false) else (laws_FnExactSecNew.j1 kj4 a0 t158 t161 t143 t146 t159 t160)) = some r := H
   have A21 := Aside0.mk A210
   clear A210
   have HC22 := Aside0.mk H
   clear H
   have hnb23 := NB156_149.out
   have hnc23 := NB149_156.out
   have hcz24_0 : wc.cell? ⟨gb156, 0, none⟩ = some (.slice Ao13 t150.length co13) := (blk_cell BK156.out 0).trans rfl
   have hcz24_1 : wc.cell? ⟨gb156, 1, none⟩ = some (.slice Ao16 t153.length co16) := (blk_cell BK156.out 1).trans rfl
   have hfz24_0 := blk_frozen BK156.out 0
   have hfz24_1 := blk_frozen BK156.out 1
   go_upto_if 23 with (first | ((with_reducible refine gate_callee (f := 18) rfl ?_); refine goesL_ (some 18) rfl rfl Try.func18 (by kernel_rfl) rfl #[.agg #[.slice Ao13 t150.length co13, .slice Ao16 t153.length co16], .int .i64 1] rfl bM ?_; (with_reducible refine (laws_markSecDisk.calls kj4 (fun k_ => some k_ = (.slice Ao13 t150.length co13 : Value).ownBlock) (.slice Ao13 t150.length co13) t150 (fun k_ => some k_ = (.slice Ao16 t153.length co16 : Value).ownBlock) (.slice Ao16 t153.length co16) t153 1 t158 t159 t160 w _ ?side1 ?side2 ?side3 A20.out).mono ?_); (case side1 => repeat (first | (with_reducible first | exact HB.out | apply below_alloc | apply pw_below_drewN | apply below_drew1 | refine below_set ?_ GE149.out | refine below_set ?_ GE156.out) | exact HB.out)); (case side2 => exact Kd.R_tight rfl HO_157000.out); (case side3 => exact Kd.R_tight rfl HO_157001.out); rintro e w25 ⟨rfl, hy0, hy1, hb, hkp⟩; refine ⟨_, rfl, ?_⟩; have n0_ := Aside0.mk (Kd.R_mono (ok' := fun k_ => some k_ ≠ (.slice Ao13 t150.length co13 : Value).ownBlock) (Kd.R_keptB ((Kd.R_apart' HO_150000.out (Kd.R_typed HO_157001.out) (by decide))) hkp (fun k_ hk_ hs_ => Or.elim hs_ (fun e_ => (hk_.1) e_) (fun e_ => (hk_.2) e_))) (fun k_ hk_ => hk_.1.1)); have n1_ := Aside0.mk (Kd.R_mono (ok' := fun k_ => some k_ ≠ (.slice Ao16 t153.length co16 : Value).ownBlock) (Kd.R_keptB ((Kd.R_apart' HO_150001.out (Kd.R_typed HO_157000.out) (by decide))) hkp (fun k_ hk_ hs_ => Or.elim hs_ (fun e_ => (hk_.2) e_) (fun e_ => (hk_.1) e_))) (fun k_ hk_ => hk_.1.1)); have n2_ := Aside0.mk (Kd.R_reok rfl hy0 (fun k_ e_ => HO_157000.out.1 k_ e_)); have n3_ := Aside0.mk (Kd.R_reok rfl hy1 (fun k_ e_ => HO_157001.out.1 k_ e_)); have n4_ := Aside0.mk (blk_kept (pK BK149.out) hkp (fun hs_ => Or.elim hs_ (fun e_ => (fun e_ => (Kd.R_ne HO_157000.out BK149.out (by decide)) e_) e_) (fun e_ => (fun e_ => (Kd.R_ne HO_157001.out BK149.out (by decide)) e_) e_))); have n5_ := Aside0.mk (blk_kept (pK BK156.out) hkp (fun hs_ => Or.elim hs_ (fun e_ => (fun e_ => (Kd.R_ne HO_157000.out BK156.out (by decide)) e_) e_) (fun e_ => (fun e_ => (Kd.R_ne HO_157001.out BK156.out (by decide)) e_) e_))); have n6_ := Aside0.mk (hb); clear HO_150000; clear HO_150001; clear HO_157000; clear HO_157001; clear BK149; clear BK156; clear HB; have HO_150000 := n0_; have HO_150001 := n1_; have HO_157000 := n2_; have HO_157001 := n3_; have BK149 := n4_; have BK156 := n5_; have HB := n6_; clear n0_ n1_ n2_ n3_ n4_ n5_ n6_; (try clear hb); (try clear hkp); (try clear hy0); (try clear hy1); have hcz26_0 : w25.cell? ⟨gb156, 0, none⟩ = some (.slice Ao13 t150.length co13) := (blk_cell BK156.out 0).trans rfl; have hcz26_1 : w25.cell? ⟨gb156, 1, none⟩ = some (.slice Ao16 t153.length co16) := (blk_cell BK156.out 1).trans rfl; have hfz26_0 := blk_frozen BK156.out 0; have hfz26_1 := blk_frozen BK156.out 1) | ((with_reducible refine gate_callee (f := 19) rfl ?_); refine goesL_ (some 21) rfl rfl Try.func19 (by kernel_rfl) rfl #[.agg #[.slice Ao13 t159.length co13, .slice Ao16 t160.length co16], .int .i64 1] rfl (by (try simp only [List.map_toArray, List.map_cons, List.map_nil]); first | done | (rw [show t159.length = t150.length from (Kd.R_reads' HO_157000.out).1.symm, show t160.length = t153.length from (Kd.R_reads' HO_157001.out).1.symm] <;> rfl) | rfl | (simp only [List.length_drop, List.length_take]; rfl)) ?_; (with_reducible refine (laws_heldSecDisk.calls kj4 _ _ t159 _ _ t160 1 t161 _ ?side1 ?side2 ?side3 ?side4 A21.out).mono ?_); (case side1 => exact pC (Kd.R_reads' HO_157000.out).2.2); (case side2 => rw [show t159.length = t150.length from (Kd.R_reads' HO_157000.out).1.symm]; exact (Kd.R_reads' HO_157000.out).2.1); (case side3 => exact pC (Kd.R_reads' HO_157001.out).2.2); (case side4 => rw [show t160.length = t153.length from (Kd.R_reads' HO_157001.out).1.symm]; exact (Kd.R_reads' HO_157001.out).2.1); rintro e w27 ⟨rfl, hb⟩; refine ⟨_, rfl, ?_⟩; have n0_ := Aside0.mk (Kd.R_below (pR HO_150000.out) hb); have n1_ := Aside0.mk (Kd.R_below (pR HO_150001.out) hb); have n2_ := Aside0.mk (Kd.R_below (pR HO_157000.out) hb); have n3_ := Aside0.mk (Kd.R_below (pR HO_157001.out) hb); have n4_ := Aside0.mk (blk_below (g := gb149) (o := .cells #[.slice Ao8 t143.length co8, .slice Ao10 t146.length co10] 26 (0, 0)) (pK BK149.out) hb); have n5_ := Aside0.mk (blk_below (g := gb156) (o := .cells #[.slice Ao13 t150.length co13, .slice Ao16 t153.length co16] 26 (0, 0)) (pK BK156.out) hb); have n6_ := Aside0.mk (below_step (by repeat (first | (with_reducible first | exact HB.out | apply below_alloc | apply pw_below_drewN | apply below_drew1 | refine below_set ?_ GE149.out | refine below_set ?_ GE156.out) | exact HB.out)) hb); clear HO_150000; clear HO_150001; clear HO_157000; clear HO_157001; clear BK149; clear BK156; clear HB; have HO_150000 := n0_; have HO_150001 := n1_; have HO_157000 := n2_; have HO_157001 := n3_; have BK149 := n4_; have BK156 := n5_; have HB := n6_; clear n0_ n1_ n2_ n3_ n4_ n5_ n6_; (try clear hb); (try clear hb2); (try clear hk); (try clear hi)))
   (try simp only [Act.put, List.setIfInBounds_toArray, List.set_cons_zero, List.set_cons_succ])
   go_cut [] (fun wc => ∃ (kq : Nat), Aside0 (laws_FnExactSecNew.j1 kq a0 t158 t161 t143 t146 t159 t160 = some r) ∧ Aside0 (kq ≤ kj4) ∧ Aside0 (Kd.R Kd.string 9 wc w.heap.size (fun k_ => some k_ ≠ ((.slice Ao13 t150.length co13) : Value).ownBlock) (.slice Ao8 t143.length co8) t143) ∧ Aside0 (Kd.R k54 54 wc w.heap.size (fun k_ => some k_ ≠ ((.slice Ao16 t153.length co16) : Value).ownBlock) (.slice Ao10 t146.length co10) t146) ∧ Aside0 (Kd.R Kd.string 9 wc w.heap.size (fun k_ => some k_ ≠ ((.slice Ao8 t143.length co8) : Value).ownBlock) (.slice Ao13 t150.length co13) t159) ∧ Aside0 (Kd.R k54 54 wc w.heap.size (fun k_ => some k_ ≠ ((.slice Ao10 t146.length co10) : Value).ownBlock) (.slice Ao16 t153.length co16) t160) ∧ Aside0 (wc.heap[gb149]? = some (.cells #[(.slice Ao8 t143.length co8), (.slice Ao10 t146.length co10)] 26 (0, 0))) ∧ Aside0 (wc.heap[gb156]? = some (.cells #[(.slice Ao13 t150.length co13), (.slice Ao16 t153.length co16)] 26 (0, 0))) ∧ Aside0 (Below w.heap.size w wc))
   case first =>
    have H := HC22.out
    clear HC22
    by_cases c28 : t161 < 0
    ·rw [if_pos c28] at H
     have c28b0 : decide (t161 < 0) = true := decide_eq_true c28
     clear c28
     (first | rw [c28b0] | (simp only [i64_w, i32_w]; rw [c28b0]) | skip)
     obtain rfl := Option.some.inj H
     go_wp2
     go_ret
     exact ⟨by first | rfl | (simp [errW_none, errW_some] <;> rfl) | (simp [*, errW_none, errW_some] <;> rfl), by repeat (first | (with_reducible first | exact HB.out | apply below_alloc | apply pw_below_drewN | apply below_drew1 | refine below_set ?_ GE149.out | refine below_set ?_ GE156.out) | exact HB.out)⟩
    ·rw [if_neg c28] at H
     have c28b0 : decide (t161 < 0) = false := decide_eq_false c28
     clear c28
     (first | rw [c28b0] | (simp only [i64_w, i32_w]; rw [c28b0]) | skip)
     have H' := Aside0.mk H
     clear H
     go_wp2
     go_meet
     case rel => exact ⟨_, H', ⟨by have := HJ4.out; first | omega | exact Nat.le_refl _⟩, ⟨pR HO_150000.out⟩, ⟨pR HO_150001.out⟩, ⟨pR HO_157000.out⟩, ⟨pR HO_157001.out⟩, ⟨pK BK149.out⟩, ⟨pK BK156.out⟩, ⟨by repeat (first | (with_reducible first | exact HB.out | apply below_alloc | apply pw_below_drewN | apply below_drew1 | refine below_set ?_ GE149.out | refine below_set ?_ GE156.out) | exact HB.out)⟩⟩
   case rest =>
    clear HC22
    try clear c1
    try clear c2
    try clear p2
    try clear c4
    try clear c14
    try clear c15
    try clear c16
    try clear c17
    try clear c18
    try clear c19
    try clear c23
    try clear c28
    try clear c28b0
    try clear hcz15_0
    try clear hcz15_1
    try clear hcz17_0
    try clear hcz17_1
    try clear hcz24_0
    try clear hcz24_1
    try clear hcz26_0
    try clear hcz26_1
    try clear hcz9_0
    try clear hcz9_1
    try clear hfz15_0
    try clear hfz15_1
    try clear hfz17_0
    try clear hfz17_1
    try clear hfz24_0
    try clear hfz24_1
    try clear hfz26_0
    try clear hfz26_1
    try clear hfz9_0
    try clear hfz9_1
    try clear p2
    obtain ⟨kq, HA, HJ21, HO_150000, HO_150001, HO_157000, HO_157001, BK149, BK156, HB⟩ := hcut
    have hl157000_21 := (Kd.R_reads' HO_157000.out).1
    rw [hl157000_21] at HO_157000
    (try simp only [hl157000_21])
    (try simp only [hl157000_21] at BK149)
    (try simp only [hl157000_21] at BK156)
    (try simp only [hl157000_21] at HO_150000)
    (try simp only [hl157000_21] at HO_150001)
    (try simp only [hl157000_21] at HO_157001)
    have hl157001_21 := (Kd.R_reads' HO_157001.out).1
    rw [hl157001_21] at HO_157001
    (try simp only [hl157001_21])
    (try simp only [hl157001_21] at BK149)
    (try simp only [hl157001_21] at BK156)
    (try simp only [hl157001_21] at HO_150000)
    (try simp only [hl157001_21] at HO_150001)
    (try simp only [hl157001_21] at HO_157000)
    cases kq with
    | zero => exact absurd HA.out (by simp [laws_FnExactSecNew.j1])
    | succ kj21 =>
     have H := HA.out
     clear HA
     simp only [laws_FnExactSecNew.j1] at H
     have HC29 := Aside0.mk H
     clear H
     go_upto_if 26 with (fail)
     go_cut [] (fun wc => ∃ (kq : Nat), Aside0 (laws_FnExactSecNew.j2 kq a0 t158 t143 t146 t159 t160 = some r) ∧ Aside0 (kq ≤ kj21) ∧ Aside0 (Kd.R Kd.string 9 wc w.heap.size (fun k_ => some k_ ≠ ((.slice Ao13 t159.length co13) : Value).ownBlock) (.slice Ao8 t143.length co8) t143) ∧ Aside0 (Kd.R k54 54 wc w.heap.size (fun k_ => some k_ ≠ ((.slice Ao16 t160.length co16) : Value).ownBlock) (.slice Ao10 t146.length co10) t146) ∧ Aside0 (Kd.R Kd.string 9 wc w.heap.size (fun k_ => some k_ ≠ ((.slice Ao8 t143.length co8) : Value).ownBlock) (.slice Ao13 t159.length co13) t159) ∧ Aside0 (Kd.R k54 54 wc w.heap.size (fun k_ => some k_ ≠ ((.slice Ao10 t146.length co10) : Value).ownBlock) (.slice Ao16 t160.length co16) t160) ∧ Aside0 (wc.heap[gb149]? = some (.cells #[(.slice Ao8 t143.length co8), (.slice Ao10 t146.length co10)] 26 (0, 0))) ∧ Aside0 (wc.heap[gb156]? = some (.cells #[(.slice Ao13 t159.length co13), (.slice Ao16 t160.length co16)] 26 (0, 0))) ∧ Aside0 (Below w.heap.size w wc))
     case first =>
      have H := HC29.out
      clear HC29
      by_cases c30 : t161 = t158
      ·rw [if_pos c30] at H
       have c30b0 : (t161 == t158) = true := beq_iff_eq.mpr c30
       have c30b1 : (t161 != t158) = false := bne_eq_false_iff_eq.mpr c30
       clear c30
       (first | rw [c30b0] | (simp only [i64_w, i32_w]; rw [c30b0]) | skip)
       have H' := Aside0.mk H
       clear H
       go_wp2
       go_meet
       case rel => exact ⟨_, H', ⟨by have := HJ4.out; have := HJ21.out; first | omega | exact Nat.le_refl _⟩, ⟨by (try simp only [hl157000_21]); (try simp only [hl157001_21]); (with_reducible repeat (first | apply Kd.R_alloc | apply Kd.R_drewN | apply Kd.R_drew)); exact HO_150000.out⟩, ⟨by (try simp only [hl157000_21]); (try simp only [hl157001_21]); (with_reducible repeat (first | apply Kd.R_alloc | apply Kd.R_drewN | apply Kd.R_drew)); exact HO_150001.out⟩, ⟨by (try simp only [hl157000_21]); (try simp only [hl157001_21]); (with_reducible repeat (first | apply Kd.R_alloc | apply Kd.R_drewN | apply Kd.R_drew)); exact HO_157000.out⟩, ⟨by (try simp only [hl157000_21]); (try simp only [hl157001_21]); (with_reducible repeat (first | apply Kd.R_alloc | apply Kd.R_drewN | apply Kd.R_drew)); exact HO_157001.out⟩, ⟨by (try simp only [hl157000_21]); (try simp only [hl157001_21]); (with_reducible repeat (first | refine blk_drewN ?_ _ | refine blk_drew ?_ | refine blk_alloc ?_ _)); exact BK149.out⟩, ⟨by (try simp only [hl157000_21]); (try simp only [hl157001_21]); (with_reducible repeat (first | refine blk_drewN ?_ _ | refine blk_drew ?_ | refine blk_alloc ?_ _)); exact BK156.out⟩, ⟨by repeat (first | (with_reducible first | exact HB.out | apply below_alloc | apply pw_below_drewN | apply below_drew1 | refine below_set ?_ GE149.out | refine below_set ?_ GE156.out) | exact HB.out)⟩⟩
      ·rw [if_neg c30] at H
       have c30b0 : (t161 == t158) = false := beq_eq_false_iff_ne.mpr c30
       have c30b1 : (t161 != t158) = true := bne_iff_ne.mpr c30
       (first | rw [c30b0] | (simp only [i64_w, i32_w]; rw [c30b0]) | skip)
       obtain rfl := Option.some.inj H
       go_wp2
       go_ret
       exact ⟨by first | rfl | (simp [errW_none, errW_some] <;> rfl) | (simp [*, errW_none, errW_some] <;> rfl), by repeat (first | (with_reducible first | exact HB.out | apply below_alloc | apply pw_below_drewN | apply below_drew1 | refine below_set ?_ GE149.out | refine below_set ?_ GE156.out) | exact HB.out)⟩
     case rest =>
      clear HC29
      try clear c1
      try clear c2
      try clear p2
      try clear c3
      try clear c4
      try clear c14
      try clear c15
      try clear c16
      try clear c17
      try clear c18
      try clear c19
      try clear c23
      try clear c28
      try clear c28b0
      try clear c30
      try clear c30b0
      try clear c30b1
      try clear hcz15_0
      try clear hcz15_1
      try clear hcz17_0
      try clear hcz17_1
      try clear hcz24_0
      try clear hcz24_1
      try clear hcz26_0
      try clear hcz26_1
      try clear hcz9_0
      try clear hcz9_1
      try clear hfz15_0
      try clear hfz15_1
      try clear hfz17_0
      try clear hfz17_1
      try clear hfz24_0
      try clear hfz24_1
      try clear hfz26_0
      try clear hfz26_1
      try clear hfz9_0
      try clear hfz9_1
      try clear p2
      obtain ⟨kq, HA, HJ28, HO_150000, HO_150001, HO_157000, HO_157001, BK149, BK156, HB⟩ := hcut
      cases kq with
      | zero => exact absurd HA.out (by simp [laws_FnExactSecNew.j2])
      | succ kj28 =>
       have H := HA.out
       clear HA
       simp only [laws_FnExactSecNew.j2] at H
       replace H := Option.bind_eq_some_iff.mp H
       obtain ⟨⟨t162, t165⟩, A310, H⟩ := H
       replace H : ((laws_eqSecDisk.f kj28 t162 t165 t143 t146).bind fun t169 => (if t169 = true then (laws_FnExactSecNew.j3 kj28 t158 t159 t160) else (some false))) = some r := H
       have A31 := Aside0.mk A310
       clear A310
       replace H := Option.bind_eq_some_iff.mp H
       obtain ⟨t169, A320, H⟩ := H
       replace H : (if t169 = true then (laws_FnExactSecNew.j3 kj28 t158 t159 t160) else (some false)) = some r := H
       have A32 := Aside0.mk A320
       clear A320
       have HC33 := Aside0.mk H
       clear H
       go_upto_if 32 with (first | ((with_reducible refine gate_callee (f := 16) rfl ?_); refine goesL_ (some 28) rfl rfl Try.func16 (by kernel_rfl) rfl #[.int .i64 a0] rfl bM ?_; (with_reducible refine (impl_SecNew.calls a0 t162 t165 _ A31.out).mono ?_); rintro e w34 ⟨v163, v166, rfl, ho0, ho1, hb⟩; refine ⟨_, rfl, ?_⟩; have n0_ := Aside0.mk (Kd.R_elder' (pR HO_150000.out) (Kd.R_base ho0) hb); have n1_ := Aside0.mk (Kd.R_elder' (pR HO_150001.out) (Kd.R_base ho1) hb); have n2_ := Aside0.mk (Kd.R_elder' (pR HO_157000.out) (Kd.R_base ho0) hb); have n3_ := Aside0.mk (Kd.R_elder' (pR HO_157001.out) (Kd.R_base ho1) hb); have n4_ := Aside0.mk (Kd.R_lower (Kd.R_new' (Kd.R_new' ho0 (Kd.R_lt (pR HO_150000.out))) (Kd.R_lt (pR HO_157000.out))) (below_size (by repeat (first | (with_reducible first | exact HB.out | apply below_alloc | apply pw_below_drewN | apply below_drew1 | refine below_set ?_ GE149.out | refine below_set ?_ GE156.out) | exact HB.out)))); have n5_ := Aside0.mk (Kd.R_lower (Kd.R_new' (Kd.R_new' ho1 (Kd.R_lt (pR HO_150001.out))) (Kd.R_lt (pR HO_157001.out))) (below_size (by repeat (first | (with_reducible first | exact HB.out | apply below_alloc | apply pw_below_drewN | apply below_drew1 | refine below_set ?_ GE149.out | refine below_set ?_ GE156.out) | exact HB.out)))); have n6_ := Aside0.mk (blk_below (g := gb149) (o := .cells #[.slice Ao8 t143.length co8, .slice Ao10 t146.length co10] 26 (0, 0)) (pK BK149.out) hb); have n7_ := Aside0.mk (blk_below (g := gb156) (o := .cells #[.slice Ao13 t159.length co13, .slice Ao16 t160.length co16] 26 (0, 0)) (pK BK156.out) hb); have n8_ := Aside0.mk (below_step (by repeat (first | (with_reducible first | exact HB.out | apply below_alloc | apply pw_below_drewN | apply below_drew1 | refine below_set ?_ GE149.out | refine below_set ?_ GE156.out) | exact HB.out)) hb); clear HO_150000; clear HO_150001; clear HO_157000; clear HO_157001; clear BK149; clear BK156; clear HB; have HO_150000 := n0_; have HO_150001 := n1_; have HO_157000 := n2_; have HO_157001 := n3_; have HO164 := n4_; have HO167 := n5_; have BK149 := n6_; have BK156 := n7_; have HB := n8_; clear n0_ n1_ n2_ n3_ n4_ n5_ n6_ n7_ n8_; (try clear hb); (try clear hb2); (try clear hk); (try clear hi); (try clear ho0); (try clear ho1)) | ((with_reducible refine gate_dst (N := 7) rfl ?_); refine box_event ?hg (N := 7) ?hd (cs := #[.slice none 0 0, .slice none 0 0]) (t := 26) ?hr ?_; (case hd => rfl); (case hg => rfl); (case hr => first | (go_simp; done) | (go_simp; rfl)); intro gb168 hg w35 hbox hb; have n0_ := Aside0.mk (Kd.R_below (pR HO_150000.out) hb); have n1_ := Aside0.mk (Kd.R_below (pR HO_150001.out) hb); have n2_ := Aside0.mk (Kd.R_below (pR HO_157000.out) hb); have n3_ := Aside0.mk (Kd.R_below (pR HO_157001.out) hb); have n4_ := Aside0.mk (Kd.R_below (pR HO164.out) hb); have n5_ := Aside0.mk (Kd.R_below (pR HO167.out) hb); have n6_ := Aside0.mk (blk_below (g := gb149) (o := .cells #[.slice Ao8 t143.length co8, .slice Ao10 t146.length co10] 26 (0, 0)) (pK BK149.out) hb); have n7_ := Aside0.mk (blk_below (g := gb156) (o := .cells #[.slice Ao13 t159.length co13, .slice Ao16 t160.length co16] 26 (0, 0)) (pK BK156.out) hb); have n8_ := Aside0.mk (below_step (by repeat (first | (with_reducible first | exact HB.out | apply below_alloc | apply pw_below_drewN | apply below_drew1 | refine below_set ?_ GE149.out | refine below_set ?_ GE156.out) | exact HB.out)) hb); have n9_ := Aside0.mk (hbox); have n10_ := Aside0.mk ((by rw [hg]; exact (below_size (by repeat (first | (with_reducible first | exact HB.out | apply below_alloc | apply pw_below_drewN | apply below_drew1 | refine below_set ?_ GE149.out | refine below_set ?_ GE156.out) | exact HB.out))) : w.heap.size ≤ gb168)); have n11_ := Aside0.mk ((by rw [hg]; exact (below_size (by repeat (first | (with_reducible first | exact HB.out | apply below_alloc | apply pw_below_drewN | apply below_drew1 | refine below_set ?_ GE149.out | refine below_set ?_ GE156.out) | exact HB.out))) : w.heap.size ≤ gb168)); have n12_ := Aside0.mk ((by rw [hg]; exact Nat.ne_of_lt (blk_lt (g := gb149) (o := .cells #[.slice Ao8 t143.length co8, .slice Ao10 t146.length co10] 26 (0, 0)) (pK BK149.out)) : gb149 ≠ gb168)); have n13_ := Aside0.mk ((by rw [hg]; exact Nat.ne_of_gt (blk_lt (g := gb149) (o := .cells #[.slice Ao8 t143.length co8, .slice Ao10 t146.length co10] 26 (0, 0)) (pK BK149.out)) : gb168 ≠ gb149)); have n14_ := Aside0.mk ((by rw [hg]; exact Nat.ne_of_lt (blk_lt (g := gb156) (o := .cells #[.slice Ao13 t159.length co13, .slice Ao16 t160.length co16] 26 (0, 0)) (pK BK156.out)) : gb156 ≠ gb168)); have n15_ := Aside0.mk ((by rw [hg]; exact Nat.ne_of_gt (blk_lt (g := gb156) (o := .cells #[.slice Ao13 t159.length co13, .slice Ao16 t160.length co16] 26 (0, 0)) (pK BK156.out)) : gb168 ≠ gb156)); clear HO_150000; clear HO_150001; clear HO_157000; clear HO_157001; clear HO164; clear HO167; clear BK149; clear BK156; clear HB; have HO_150000 := n0_; have HO_150001 := n1_; have HO_157000 := n2_; have HO_157001 := n3_; have HO164 := n4_; have HO167 := n5_; have BK149 := n6_; have BK156 := n7_; have HB := n8_; have BK168 := n9_; have GW168 := n10_; have GE168 := n11_; have NB149_168 := n12_; have NB168_149 := n13_; have NB156_168 := n14_; have NB168_156 := n15_; clear n0_ n1_ n2_ n3_ n4_ n5_ n6_ n7_ n8_ n9_ n10_ n11_ n12_ n13_ n14_ n15_; clear hb hbox hg; obtain ⟨Ao36, co36, eo36⟩ := Kd.R_slice HO164.out; subst eo36; have hnb37 := NB168_149.out; have hnc37 := NB149_168.out; have hnb38 := NB168_156.out; have hnc38 := NB156_168.out; have hcz39_0 : w35.cell? ⟨gb168, 0, none⟩ = some (.slice none 0 0) := (blk_cell BK168.out 0).trans rfl; have hcz39_1 : w35.cell? ⟨gb168, 1, none⟩ = some (.slice none 0 0) := (blk_cell BK168.out 1).trans rfl; have hfz39_0 := blk_frozen BK168.out 0; have hfz39_1 := blk_frozen BK168.out 1; obtain ⟨Ao40, co40, eo40⟩ := Kd.R_slice HO167.out; subst eo40; have hnb41 := NB149_156.out; have hnc41 := NB156_149.out; have hcz42_0 : w35.cell? ⟨gb149, 0, none⟩ = some (.slice Ao8 t143.length co8) := (blk_cell BK149.out 0).trans rfl; have hcz42_1 : w35.cell? ⟨gb149, 1, none⟩ = some (.slice Ao10 t146.length co10) := (blk_cell BK149.out 1).trans rfl; have hfz42_0 := blk_frozen BK149.out 0; have hfz42_1 := blk_frozen BK149.out 1) | ((with_reducible refine gate_callee (f := 17) rfl ?_); refine goesL_ (some 31) rfl rfl Try.func17 (by kernel_rfl) rfl #[.agg #[.slice Ao36 t162.length co36, .slice Ao40 t165.length co40], .agg #[.slice Ao8 t143.length co8, .slice Ao10 t146.length co10]] rfl bM ?_; (with_reducible refine (laws_eqSecDisk.calls kj28 _ _ t162 _ _ t165 _ _ t143 _ _ t146 t169 _ ?side1 ?side2 ?side3 ?side4 ?side5 ?side6 ?side7 ?side8 A32.out).mono ?_); (case side1 => refine (Kd.R_reads' (e := 9) (base := w.heap.size) (ok := fun k_ => ((True ∧ some k_ ≠ (.slice Ao8 t143.length co8 : Value).ownBlock) ∧ some k_ ≠ (.slice Ao13 t159.length co13 : Value).ownBlock)) (n := t162.length) (c := co36) ?_).2.2; exact (pR (Kd.R_mono (Kd.R_far (p := ⟨gb168, 1, none⟩) (Kd.R_far (p := ⟨gb168, 0, none⟩) (Kd.R_types HO164.out BK168.out (by decide)) (fun _ hk => hk.2) (.slice Ao36 t162.length co36)) (fun _ hk => hk.2) (.slice Ao40 t165.length co40)) (fun _ h_ => h_.1)))); (case side2 => exact (Kd.R_reads' HO164.out).2.1); (case side3 => refine (Kd.R_reads' (e := 54) (base := w.heap.size) (ok := fun k_ => ((True ∧ some k_ ≠ (.slice Ao10 t146.length co10 : Value).ownBlock) ∧ some k_ ≠ (.slice Ao16 t160.length co16 : Value).ownBlock)) (n := t165.length) (c := co40) ?_).2.2; exact (pR (Kd.R_mono (Kd.R_far (p := ⟨gb168, 1, none⟩) (Kd.R_far (p := ⟨gb168, 0, none⟩) (Kd.R_types HO167.out BK168.out (by decide)) (fun _ hk => hk.2) (.slice Ao36 t162.length co36)) (fun _ hk => hk.2) (.slice Ao40 t165.length co40)) (fun _ h_ => h_.1)))); (case side4 => exact (Kd.R_reads' HO167.out).2.1); (case side5 => refine (Kd.R_reads' (e := 9) (base := w.heap.size) (ok := fun k_ => (some k_ ≠ (.slice Ao13 t159.length co13 : Value).ownBlock ∧ some k_ ≠ (.slice Ao36 t162.length co36 : Value).ownBlock)) (n := t143.length) (c := co8) ?_).2.2; exact (pR (Kd.R_mono (Kd.R_far (p := ⟨gb168, 1, none⟩) (Kd.R_far (p := ⟨gb168, 0, none⟩) (Kd.R_types HO_150000.out BK168.out (by decide)) (fun _ hk => hk.2) (.slice Ao36 t162.length co36)) (fun _ hk => hk.2) (.slice Ao40 t165.length co40)) (fun _ h_ => h_.1)))); (case side6 => exact (Kd.R_reads' HO_150000.out).2.1); (case side7 => refine (Kd.R_reads' (e := 54) (base := w.heap.size) (ok := fun k_ => (some k_ ≠ (.slice Ao16 t160.length co16 : Value).ownBlock ∧ some k_ ≠ (.slice Ao40 t165.length co40 : Value).ownBlock)) (n := t146.length) (c := co10) ?_).2.2; exact (pR (Kd.R_mono (Kd.R_far (p := ⟨gb168, 1, none⟩) (Kd.R_far (p := ⟨gb168, 0, none⟩) (Kd.R_types HO_150001.out BK168.out (by decide)) (fun _ hk => hk.2) (.slice Ao36 t162.length co36)) (fun _ hk => hk.2) (.slice Ao40 t165.length co40)) (fun _ h_ => h_.1)))); (case side8 => exact (Kd.R_reads' HO_150001.out).2.1); rintro e w43 ⟨rfl, hb⟩; refine ⟨_, rfl, ?_⟩; have n0_ := Aside0.mk (Kd.R_below (pR (Kd.R_mono (Kd.R_far (p := ⟨gb168, 1, none⟩) (Kd.R_far (p := ⟨gb168, 0, none⟩) (Kd.R_types HO_150000.out BK168.out (by decide)) (fun _ hk => hk.2) (.slice Ao36 t162.length co36)) (fun _ hk => hk.2) (.slice Ao40 t165.length co40)) (fun _ h_ => h_.1))) hb); have n1_ := Aside0.mk (Kd.R_below (pR (Kd.R_mono (Kd.R_far (p := ⟨gb168, 1, none⟩) (Kd.R_far (p := ⟨gb168, 0, none⟩) (Kd.R_types HO_150001.out BK168.out (by decide)) (fun _ hk => hk.2) (.slice Ao36 t162.length co36)) (fun _ hk => hk.2) (.slice Ao40 t165.length co40)) (fun _ h_ => h_.1))) hb); have n2_ := Aside0.mk (Kd.R_below (pR (Kd.R_mono (Kd.R_far (p := ⟨gb168, 1, none⟩) (Kd.R_far (p := ⟨gb168, 0, none⟩) (Kd.R_types HO_157000.out BK168.out (by decide)) (fun _ hk => hk.2) (.slice Ao36 t162.length co36)) (fun _ hk => hk.2) (.slice Ao40 t165.length co40)) (fun _ h_ => h_.1))) hb); have n3_ := Aside0.mk (Kd.R_below (pR (Kd.R_mono (Kd.R_far (p := ⟨gb168, 1, none⟩) (Kd.R_far (p := ⟨gb168, 0, none⟩) (Kd.R_types HO_157001.out BK168.out (by decide)) (fun _ hk => hk.2) (.slice Ao36 t162.length co36)) (fun _ hk => hk.2) (.slice Ao40 t165.length co40)) (fun _ h_ => h_.1))) hb); have n4_ := Aside0.mk (Kd.R_below (pR (Kd.R_mono (Kd.R_far (p := ⟨gb168, 1, none⟩) (Kd.R_far (p := ⟨gb168, 0, none⟩) (Kd.R_types HO164.out BK168.out (by decide)) (fun _ hk => hk.2) (.slice Ao36 t162.length co36)) (fun _ hk => hk.2) (.slice Ao40 t165.length co40)) (fun _ h_ => h_.1))) hb); have n5_ := Aside0.mk (Kd.R_below (pR (Kd.R_mono (Kd.R_far (p := ⟨gb168, 1, none⟩) (Kd.R_far (p := ⟨gb168, 0, none⟩) (Kd.R_types HO167.out BK168.out (by decide)) (fun _ hk => hk.2) (.slice Ao36 t162.length co36)) (fun _ hk => hk.2) (.slice Ao40 t165.length co40)) (fun _ h_ => h_.1))) hb); have n6_ := Aside0.mk (blk_below (g := gb149) (o := .cells #[.slice Ao8 t143.length co8, .slice Ao10 t146.length co10] 26 (0, 0)) (by (with_reducible repeat (first | refine blk_drewN ?_ _ | refine blk_drew ?_ | refine blk_alloc ?_ _)); refine blk_far ?_ NB149_168.out _; (with_reducible repeat (first | refine blk_drewN ?_ _ | refine blk_drew ?_ | refine blk_alloc ?_ _)); refine blk_far ?_ NB149_168.out _; (with_reducible repeat (first | refine blk_drewN ?_ _ | refine blk_drew ?_ | refine blk_alloc ?_ _)); exact BK149.out) hb); have n7_ := Aside0.mk (blk_below (g := gb156) (o := .cells #[.slice Ao13 t159.length co13, .slice Ao16 t160.length co16] 26 (0, 0)) (by (with_reducible repeat (first | refine blk_drewN ?_ _ | refine blk_drew ?_ | refine blk_alloc ?_ _)); refine blk_far ?_ NB156_168.out _; (with_reducible repeat (first | refine blk_drewN ?_ _ | refine blk_drew ?_ | refine blk_alloc ?_ _)); refine blk_far ?_ NB156_168.out _; (with_reducible repeat (first | refine blk_drewN ?_ _ | refine blk_drew ?_ | refine blk_alloc ?_ _)); exact BK156.out) hb); have n8_ := Aside0.mk (blk_below (g := gb168) (o := .cells #[.slice Ao36 t162.length co36, .slice Ao40 t165.length co40] 26 (0, 0)) (by (with_reducible repeat (first | refine blk_drewN ?_ _ | refine blk_drew ?_ | refine blk_alloc ?_ _)); refine blk_put (cs := #[.slice Ao36 t162.length co36, .slice none 0 0]) ?_ 1 _ rfl; (with_reducible repeat (first | refine blk_drewN ?_ _ | refine blk_drew ?_ | refine blk_alloc ?_ _)); refine blk_put (cs := #[.slice none 0 0, .slice none 0 0]) ?_ 0 _ rfl; (with_reducible repeat (first | refine blk_drewN ?_ _ | refine blk_drew ?_ | refine blk_alloc ?_ _)); exact BK168.out) hb); have n9_ := Aside0.mk (below_step (by repeat (first | (with_reducible first | exact HB.out | apply below_alloc | apply pw_below_drewN | apply below_drew1 | refine below_set ?_ GE149.out | refine below_set ?_ GE156.out | refine below_set ?_ GE168.out) | exact HB.out)) hb); clear HO_150000; clear HO_150001; clear HO_157000; clear HO_157001; clear HO164; clear HO167; clear BK149; clear BK156; clear BK168; clear HB; have HO_150000 := n0_; have HO_150001 := n1_; have HO_157000 := n2_; have HO_157001 := n3_; have HO164 := n4_; have HO167 := n5_; have BK149 := n6_; have BK156 := n7_; have BK168 := n8_; have HB := n9_; clear n0_ n1_ n2_ n3_ n4_ n5_ n6_ n7_ n8_ n9_; (try clear hb); (try clear hb2); (try clear hk); (try clear hi)))
       (try simp only [Act.put, List.setIfInBounds_toArray, List.set_cons_zero, List.set_cons_succ])
       go_cut [] (fun wc => ∃ (kq : Nat), Aside0 (laws_FnExactSecNew.j3 kq t158 t159 t160 = some r) ∧ Aside0 (kq ≤ kj28) ∧ Aside0 (Kd.R Kd.string 9 wc w.heap.size (fun k_ => some k_ ≠ ((.slice Ao13 t159.length co13) : Value).ownBlock ∧ some k_ ≠ ((.slice Ao36 t162.length co36) : Value).ownBlock) (.slice Ao8 t143.length co8) t143) ∧ Aside0 (Kd.R k54 54 wc w.heap.size (fun k_ => some k_ ≠ ((.slice Ao16 t160.length co16) : Value).ownBlock ∧ some k_ ≠ ((.slice Ao40 t165.length co40) : Value).ownBlock) (.slice Ao10 t146.length co10) t146) ∧ Aside0 (Kd.R Kd.string 9 wc w.heap.size (fun k_ => some k_ ≠ ((.slice Ao8 t143.length co8) : Value).ownBlock ∧ some k_ ≠ ((.slice Ao36 t162.length co36) : Value).ownBlock) (.slice Ao13 t159.length co13) t159) ∧ Aside0 (Kd.R k54 54 wc w.heap.size (fun k_ => some k_ ≠ ((.slice Ao10 t146.length co10) : Value).ownBlock ∧ some k_ ≠ ((.slice Ao40 t165.length co40) : Value).ownBlock) (.slice Ao16 t160.length co16) t160) ∧ Aside0 (Kd.R Kd.string 9 wc w.heap.size (fun k_ => some k_ ≠ ((.slice Ao8 t143.length co8) : Value).ownBlock ∧ some k_ ≠ ((.slice Ao13 t159.length co13) : Value).ownBlock) (.slice Ao36 t162.length co36) t162) ∧ Aside0 (Kd.R k54 54 wc w.heap.size (fun k_ => some k_ ≠ ((.slice Ao10 t146.length co10) : Value).ownBlock ∧ some k_ ≠ ((.slice Ao16 t160.length co16) : Value).ownBlock) (.slice Ao40 t165.length co40) t165) ∧ Aside0 (wc.heap[gb149]? = some (.cells #[(.slice Ao8 t143.length co8), (.slice Ao10 t146.length co10)] 26 (0, 0))) ∧ Aside0 (wc.heap[gb156]? = some (.cells #[(.slice Ao13 t159.length co13), (.slice Ao16 t160.length co16)] 26 (0, 0))) ∧ Aside0 (wc.heap[gb168]? = some (.cells #[(.slice Ao36 t162.length co36), (.slice Ao40 t165.length co40)] 26 (0, 0))) ∧ Aside0 (Below w.heap.size w wc))
       case first =>
        have H := HC33.out
        clear HC33
        by_cases c44 : t169 = true
        ·subst c44
         have H1 : (laws_FnExactSecNew.j3 kj28 t158 t159 t160) = some r := by rw [if_pos rfl] at H; exact H
         clear H
         have H := H1
         clear H1
         have H' := Aside0.mk H
         clear H
         go_wp2
         go_meet
         case rel => exact ⟨_, H', ⟨by have := HJ4.out; have := HJ21.out; have := HJ28.out; first | omega | exact Nat.le_refl _⟩, ⟨by (try simp only [hl157000_21]); (try simp only [hl157001_21]); (with_reducible repeat (first | apply Kd.R_alloc | apply Kd.R_drewN | apply Kd.R_drew)); exact HO_150000.out⟩, ⟨by (try simp only [hl157000_21]); (try simp only [hl157001_21]); (with_reducible repeat (first | apply Kd.R_alloc | apply Kd.R_drewN | apply Kd.R_drew)); exact HO_150001.out⟩, ⟨by (try simp only [hl157000_21]); (try simp only [hl157001_21]); (with_reducible repeat (first | apply Kd.R_alloc | apply Kd.R_drewN | apply Kd.R_drew)); exact HO_157000.out⟩, ⟨by (try simp only [hl157000_21]); (try simp only [hl157001_21]); (with_reducible repeat (first | apply Kd.R_alloc | apply Kd.R_drewN | apply Kd.R_drew)); exact HO_157001.out⟩, ⟨by (try simp only [hl157000_21]); (try simp only [hl157001_21]); (with_reducible repeat (first | apply Kd.R_alloc | apply Kd.R_drewN | apply Kd.R_drew)); exact Kd.R_mono HO164.out (fun _ hk => ⟨hk.1.2, hk.2⟩)⟩, ⟨by (try simp only [hl157000_21]); (try simp only [hl157001_21]); (with_reducible repeat (first | apply Kd.R_alloc | apply Kd.R_drewN | apply Kd.R_drew)); exact Kd.R_mono HO167.out (fun _ hk => ⟨hk.1.2, hk.2⟩)⟩, ⟨by (try simp only [hl157000_21]); (try simp only [hl157001_21]); (with_reducible repeat (first | refine blk_drewN ?_ _ | refine blk_drew ?_ | refine blk_alloc ?_ _)); exact BK149.out⟩, ⟨by (try simp only [hl157000_21]); (try simp only [hl157001_21]); (with_reducible repeat (first | refine blk_drewN ?_ _ | refine blk_drew ?_ | refine blk_alloc ?_ _)); exact BK156.out⟩, ⟨by (try simp only [hl157000_21]); (try simp only [hl157001_21]); (with_reducible repeat (first | refine blk_drewN ?_ _ | refine blk_drew ?_ | refine blk_alloc ?_ _)); exact BK168.out⟩, ⟨by repeat (first | (with_reducible first | exact HB.out | apply below_alloc | apply pw_below_drewN | apply below_drew1 | refine below_set ?_ GE149.out | refine below_set ?_ GE156.out | refine below_set ?_ GE168.out) | exact HB.out)⟩⟩
        ·replace c44 := Bool.eq_false_iff.mpr c44
         subst c44
         have H1 : (some false) = some r := by rw [if_neg (show ¬ (false = true) by decide)] at H; exact H
         clear H
         have H := H1
         clear H1
         obtain rfl := Option.some.inj H
         go_wp2
         go_ret
         exact ⟨by first | rfl | (simp [errW_none, errW_some] <;> rfl) | (simp [*, errW_none, errW_some] <;> rfl), by repeat (first | (with_reducible first | exact HB.out | apply below_alloc | apply pw_below_drewN | apply below_drew1 | refine below_set ?_ GE149.out | refine below_set ?_ GE156.out | refine below_set ?_ GE168.out) | exact HB.out)⟩
       case rest =>
        clear HC33
        try clear c1
        try clear c2
        try clear p2
        try clear c3
        try clear c4
        try clear c14
        try clear c15
        try clear c16
        try clear c17
        try clear c18
        try clear c19
        try clear c23
        try clear c28
        try clear c28b0
        try clear c30
        try clear c30b0
        try clear c30b1
        try clear c37
        try clear c38
        try clear c41
        try clear c44
        try clear hcz15_0
        try clear hcz15_1
        try clear hcz17_0
        try clear hcz17_1
        try clear hcz24_0
        try clear hcz24_1
        try clear hcz26_0
        try clear hcz26_1
        try clear hcz39_0
        try clear hcz39_1
        try clear hcz42_0
        try clear hcz42_1
        try clear hcz9_0
        try clear hcz9_1
        try clear hfz15_0
        try clear hfz15_1
        try clear hfz17_0
        try clear hfz17_1
        try clear hfz24_0
        try clear hfz24_1
        try clear hfz26_0
        try clear hfz26_1
        try clear hfz39_0
        try clear hfz39_1
        try clear hfz42_0
        try clear hfz42_1
        try clear hfz9_0
        try clear hfz9_1
        try clear p2
        obtain ⟨kq, HA, HJ32, HO_150000, HO_150001, HO_157000, HO_157001, HO_169000, HO_169001, BK149, BK156, BK168, HB⟩ := hcut
        cases kq with
        | zero => exact absurd HA.out (by simp [laws_FnExactSecNew.j3])
        | succ kj32 =>
         have H := HA.out
         clear HA
         simp only [laws_FnExactSecNew.j3] at H
         replace H := Option.bind_eq_some_iff.mp H
         obtain ⟨t170, A450, H⟩ := H
         replace H : (if t170 < 0 then (some false) else (if t170 = t158 then (some true) else (some false))) = some r := H
         have A45 := Aside0.mk A450
         clear A450
         by_cases c46 : t170 < 0
         ·rw [if_pos c46] at H
          have c46b0 : decide (t170 < 0) = true := decide_eq_true c46
          clear c46
          obtain rfl := Option.some.inj H
          have hnb47 := NB156_149.out
          have hnc47 := NB149_156.out
          have hnb48 := NB156_168.out
          have hnc48 := NB168_156.out
          have hcz49_0 : wc.cell? ⟨gb156, 0, none⟩ = some (.slice Ao13 t159.length co13) := (blk_cell BK156.out 0).trans rfl
          have hcz49_1 : wc.cell? ⟨gb156, 1, none⟩ = some (.slice Ao16 t160.length co16) := (blk_cell BK156.out 1).trans rfl
          have hfz49_0 := blk_frozen BK156.out 0
          have hfz49_1 := blk_frozen BK156.out 1
          go_wp2_with (first | ((with_reducible refine gate_callee (f := 19) rfl ?_); refine goesL_ (some 35) rfl rfl Try.func19 (by kernel_rfl) rfl #[.agg #[.slice Ao13 t159.length co13, .slice Ao16 t160.length co16], .int .i64 1] rfl bM ?_; (with_reducible refine (laws_heldSecDisk.calls kj32 _ _ t159 _ _ t160 1 t170 _ ?side1 ?side2 ?side3 ?side4 A45.out).mono ?_); (case side1 => exact pC (Kd.R_reads' HO_157000.out).2.2); (case side2 => exact (Kd.R_reads' HO_157000.out).2.1); (case side3 => exact pC (Kd.R_reads' HO_157001.out).2.2); (case side4 => exact (Kd.R_reads' HO_157001.out).2.1); rintro e w50 ⟨rfl, hb⟩; refine ⟨_, rfl, ?_⟩; have n0_ := Aside0.mk (Kd.R_below (pR HO_150000.out) hb); have n1_ := Aside0.mk (Kd.R_below (pR HO_150001.out) hb); have n2_ := Aside0.mk (Kd.R_below (pR HO_157000.out) hb); have n3_ := Aside0.mk (Kd.R_below (pR HO_157001.out) hb); have n4_ := Aside0.mk (Kd.R_below (pR HO_169000.out) hb); have n5_ := Aside0.mk (Kd.R_below (pR HO_169001.out) hb); have n6_ := Aside0.mk (blk_below (g := gb149) (o := .cells #[.slice Ao8 t143.length co8, .slice Ao10 t146.length co10] 26 (0, 0)) (pK BK149.out) hb); have n7_ := Aside0.mk (blk_below (g := gb156) (o := .cells #[.slice Ao13 t159.length co13, .slice Ao16 t160.length co16] 26 (0, 0)) (pK BK156.out) hb); have n8_ := Aside0.mk (blk_below (g := gb168) (o := .cells #[.slice Ao36 t162.length co36, .slice Ao40 t165.length co40] 26 (0, 0)) (pK BK168.out) hb); have n9_ := Aside0.mk (below_step (by repeat (first | (with_reducible first | exact HB.out | apply below_alloc | apply pw_below_drewN | apply below_drew1 | refine below_set ?_ GE149.out | refine below_set ?_ GE156.out | refine below_set ?_ GE168.out) | exact HB.out)) hb); clear HO_150000; clear HO_150001; clear HO_157000; clear HO_157001; clear HO_169000; clear HO_169001; clear BK149; clear BK156; clear BK168; clear HB; have HO_150000 := n0_; have HO_150001 := n1_; have HO_157000 := n2_; have HO_157001 := n3_; have HO_169000 := n4_; have HO_169001 := n5_; have BK149 := n6_; have BK156 := n7_; have BK168 := n8_; have HB := n9_; clear n0_ n1_ n2_ n3_ n4_ n5_ n6_ n7_ n8_ n9_; (try clear hb); (try clear hb2); (try clear hk); (try clear hi)))
          go_ret
          exact ⟨by first | rfl | (simp [errW_none, errW_some] <;> rfl) | (simp [*, errW_none, errW_some] <;> rfl), by repeat (first | (with_reducible first | exact HB.out | apply below_alloc | apply pw_below_drewN | apply below_drew1 | refine below_set ?_ GE149.out | refine below_set ?_ GE156.out | refine below_set ?_ GE168.out) | exact HB.out)⟩
         ·rw [if_neg c46] at H
          have c46b0 : decide (t170 < 0) = false := decide_eq_false c46
          clear c46
          by_cases c51 : t170 = t158
          ·rw [if_pos c51] at H
           have c51b0 : (t170 == t158) = true := beq_iff_eq.mpr c51
           have c51b1 : (t170 != t158) = false := bne_eq_false_iff_eq.mpr c51
           clear c51
           obtain rfl := Option.some.inj H
           have hnb52 := NB156_149.out
           have hnc52 := NB149_156.out
           have hnb53 := NB156_168.out
           have hnc53 := NB168_156.out
           have hcz54_0 : wc.cell? ⟨gb156, 0, none⟩ = some (.slice Ao13 t159.length co13) := (blk_cell BK156.out 0).trans rfl
           have hcz54_1 : wc.cell? ⟨gb156, 1, none⟩ = some (.slice Ao16 t160.length co16) := (blk_cell BK156.out 1).trans rfl
           have hfz54_0 := blk_frozen BK156.out 0
           have hfz54_1 := blk_frozen BK156.out 1
           go_wp2_with (first | ((with_reducible refine gate_callee (f := 19) rfl ?_); refine goesL_ (some 35) rfl rfl Try.func19 (by kernel_rfl) rfl #[.agg #[.slice Ao13 t159.length co13, .slice Ao16 t160.length co16], .int .i64 1] rfl bM ?_; (with_reducible refine (laws_heldSecDisk.calls kj32 _ _ t159 _ _ t160 1 t170 _ ?side1 ?side2 ?side3 ?side4 A45.out).mono ?_); (case side1 => exact pC (Kd.R_reads' HO_157000.out).2.2); (case side2 => exact (Kd.R_reads' HO_157000.out).2.1); (case side3 => exact pC (Kd.R_reads' HO_157001.out).2.2); (case side4 => exact (Kd.R_reads' HO_157001.out).2.1); rintro e w55 ⟨rfl, hb⟩; refine ⟨_, rfl, ?_⟩; have n0_ := Aside0.mk (Kd.R_below (pR HO_150000.out) hb); have n1_ := Aside0.mk (Kd.R_below (pR HO_150001.out) hb); have n2_ := Aside0.mk (Kd.R_below (pR HO_157000.out) hb); have n3_ := Aside0.mk (Kd.R_below (pR HO_157001.out) hb); have n4_ := Aside0.mk (Kd.R_below (pR HO_169000.out) hb); have n5_ := Aside0.mk (Kd.R_below (pR HO_169001.out) hb); have n6_ := Aside0.mk (blk_below (g := gb149) (o := .cells #[.slice Ao8 t143.length co8, .slice Ao10 t146.length co10] 26 (0, 0)) (pK BK149.out) hb); have n7_ := Aside0.mk (blk_below (g := gb156) (o := .cells #[.slice Ao13 t159.length co13, .slice Ao16 t160.length co16] 26 (0, 0)) (pK BK156.out) hb); have n8_ := Aside0.mk (blk_below (g := gb168) (o := .cells #[.slice Ao36 t162.length co36, .slice Ao40 t165.length co40] 26 (0, 0)) (pK BK168.out) hb); have n9_ := Aside0.mk (below_step (by repeat (first | (with_reducible first | exact HB.out | apply below_alloc | apply pw_below_drewN | apply below_drew1 | refine below_set ?_ GE149.out | refine below_set ?_ GE156.out | refine below_set ?_ GE168.out) | exact HB.out)) hb); clear HO_150000; clear HO_150001; clear HO_157000; clear HO_157001; clear HO_169000; clear HO_169001; clear BK149; clear BK156; clear BK168; clear HB; have HO_150000 := n0_; have HO_150001 := n1_; have HO_157000 := n2_; have HO_157001 := n3_; have HO_169000 := n4_; have HO_169001 := n5_; have BK149 := n6_; have BK156 := n7_; have BK168 := n8_; have HB := n9_; clear n0_ n1_ n2_ n3_ n4_ n5_ n6_ n7_ n8_ n9_; (try clear hb); (try clear hb2); (try clear hk); (try clear hi)))
           go_ret
           exact ⟨by first | rfl | (simp [errW_none, errW_some] <;> rfl) | (simp [*, errW_none, errW_some] <;> rfl), by repeat (first | (with_reducible first | exact HB.out | apply below_alloc | apply pw_below_drewN | apply below_drew1 | refine below_set ?_ GE149.out | refine below_set ?_ GE156.out | refine below_set ?_ GE168.out) | exact HB.out)⟩
          ·rw [if_neg c51] at H
           have c51b0 : (t170 == t158) = false := beq_eq_false_iff_ne.mpr c51
           have c51b1 : (t170 != t158) = true := bne_iff_ne.mpr c51
           obtain rfl := Option.some.inj H
           have hnb56 := NB156_149.out
           have hnc56 := NB149_156.out
           have hnb57 := NB156_168.out
           have hnc57 := NB168_156.out
           have hcz58_0 : wc.cell? ⟨gb156, 0, none⟩ = some (.slice Ao13 t159.length co13) := (blk_cell BK156.out 0).trans rfl
           have hcz58_1 : wc.cell? ⟨gb156, 1, none⟩ = some (.slice Ao16 t160.length co16) := (blk_cell BK156.out 1).trans rfl
           have hfz58_0 := blk_frozen BK156.out 0
           have hfz58_1 := blk_frozen BK156.out 1
           go_wp2_with (first | ((with_reducible refine gate_callee (f := 19) rfl ?_); refine goesL_ (some 35) rfl rfl Try.func19 (by kernel_rfl) rfl #[.agg #[.slice Ao13 t159.length co13, .slice Ao16 t160.length co16], .int .i64 1] rfl bM ?_; (with_reducible refine (laws_heldSecDisk.calls kj32 _ _ t159 _ _ t160 1 t170 _ ?side1 ?side2 ?side3 ?side4 A45.out).mono ?_); (case side1 => exact pC (Kd.R_reads' HO_157000.out).2.2); (case side2 => exact (Kd.R_reads' HO_157000.out).2.1); (case side3 => exact pC (Kd.R_reads' HO_157001.out).2.2); (case side4 => exact (Kd.R_reads' HO_157001.out).2.1); rintro e w59 ⟨rfl, hb⟩; refine ⟨_, rfl, ?_⟩; have n0_ := Aside0.mk (Kd.R_below (pR HO_150000.out) hb); have n1_ := Aside0.mk (Kd.R_below (pR HO_150001.out) hb); have n2_ := Aside0.mk (Kd.R_below (pR HO_157000.out) hb); have n3_ := Aside0.mk (Kd.R_below (pR HO_157001.out) hb); have n4_ := Aside0.mk (Kd.R_below (pR HO_169000.out) hb); have n5_ := Aside0.mk (Kd.R_below (pR HO_169001.out) hb); have n6_ := Aside0.mk (blk_below (g := gb149) (o := .cells #[.slice Ao8 t143.length co8, .slice Ao10 t146.length co10] 26 (0, 0)) (pK BK149.out) hb); have n7_ := Aside0.mk (blk_below (g := gb156) (o := .cells #[.slice Ao13 t159.length co13, .slice Ao16 t160.length co16] 26 (0, 0)) (pK BK156.out) hb); have n8_ := Aside0.mk (blk_below (g := gb168) (o := .cells #[.slice Ao36 t162.length co36, .slice Ao40 t165.length co40] 26 (0, 0)) (pK BK168.out) hb); have n9_ := Aside0.mk (below_step (by repeat (first | (with_reducible first | exact HB.out | apply below_alloc | apply pw_below_drewN | apply below_drew1 | refine below_set ?_ GE149.out | refine below_set ?_ GE156.out | refine below_set ?_ GE168.out) | exact HB.out)) hb); clear HO_150000; clear HO_150001; clear HO_157000; clear HO_157001; clear HO_169000; clear HO_169001; clear BK149; clear BK156; clear BK168; clear HB; have HO_150000 := n0_; have HO_150001 := n1_; have HO_157000 := n2_; have HO_157001 := n3_; have HO_169000 := n4_; have HO_169001 := n5_; have BK149 := n6_; have BK156 := n7_; have BK168 := n8_; have HB := n9_; clear n0_ n1_ n2_ n3_ n4_ n5_ n6_ n7_ n8_ n9_; (try clear hb); (try clear hb2); (try clear hk); (try clear hi)))
           go_ret
           exact ⟨by first | rfl | (simp [errW_none, errW_some] <;> rfl) | (simp [*, errW_none, errW_some] <;> rfl), by repeat (first | (with_reducible first | exact HB.out | apply below_alloc | apply pw_below_drewN | apply below_drew1 | refine below_set ?_ GE149.out | refine below_set ?_ GE156.out | refine below_set ?_ GE168.out) | exact HB.out)⟩

/-- THE ONE PURE STATEMENT of laws_FnExactSecNew: yours. -/
def laws_FnExactSecNew.Pure : Prop := ∀ (a0 : Int), (Lit.int .i64 a0).wf = true → ∃ k, laws_FnExactSecNew.f k a0 = some true
theorem laws_FnExactSecNew.walk (P : laws_FnExactSecNew.Pure) (a0 : Int) (w : World) (w0 : (Lit.int .i64 a0).wf = true) :
  Calls Try.prog 4 #[.int .i64 a0] w fun e w' => e = .returned (.bool true) ∧ Below w.heap.size w w' := by
 obtain ⟨k, h⟩ := P a0 w0
 refine (laws_FnExactSecNew.calls k a0 true w h).mono ?_
 rintro e w' ⟨rfl, hd⟩
 exact ⟨rfl, hd⟩

end Go.Proofs.Ythkdhcaojhbfoaa.P
