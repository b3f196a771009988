-- printed by pprint.py (this session's program over the kit's printer) out of the translation. Lean checks it.
import Derived.Test.YthkdhcaojhbfoaaPx0
import Derived.Test.YthkdhcaojhbfoaaPx3
import Derived.Test.YthkdhcaojhbfoaaPx6
namespace Go.Proofs.Ythkdhcaojhbfoaa.P
open Go.RowKit Go.Proofs.YthkdhcaojhbfoaaX Go.Proofs.YthkdhcaojhbfoaaW.PrintWords Go.Proofs.YthkdhcaojhbfoaaW.PrintLast Go.Proofs.YthkdhcaojhbfoaaW.PrintMore
attribute [local go_sem] max2_int min2_int max_two min_two max_three min_three max_four min_four   -- for this text's walks alone
set_option linter.unusedVariables false
set_option linter.unusedSimpArgs false

/-! ### impl_SecFlush: function 32 -/
def impl_SecFlush.l0 : Nat → List (S54) → Int → Int → List ByteArray → Option (List ByteArray × (List (S54)))
 | 0, _, _, _, _ => none
 | k + 1, x15, x16, x17, x513000 => if x17 < x16 then (if 0 ≤ x17 then (if x17 < (x15.length : Int) then (if 0 ≤ ((rd_T54 x15 x17).f0) then (if ((rd_T54 x15 x17).f0) < (x513000.length : Int) then (impl_SecFlush.l0 k x15 x16 (wrap64 (x17 + 1)) (x513000.set (((rd_T54 x15 x17).f0) : Int).toNat ((rd_T54 x15 x17).f1))) else (none)) else (none)) else (none)) else (none)) else (some (x513000, ([] : List (S54))))
def impl_SecFlush.f (k : Nat) (l0_0 : List ByteArray) (l0_1 : List (S54)) : Option (List ByteArray × (List (S54))) := (impl_SecOk.f k l0_0 l0_1).bind fun t508 => (if t508 = true then ((impl_copied_string.f l0_0).bind fun t509 => (impl_SecFlush.l0 k l0_1 (l0_1.length : Int) 0 t509)) else (some (([] : List ByteArray), ([] : List (S54)))))
theorem impl_SecFlush.mono_l : ∀ k, (∀ y0 y1 y2 y3, LeO (impl_SecFlush.l0 k y0 y1 y2 y3) (impl_SecFlush.l0 (k + 1) y0 y1 y2 y3))
 | 0 => fun _ _ _ _ r h => by simp [impl_SecFlush.l0] at h
 | k + 1 => by
  have ih0 := impl_SecFlush.mono_l k
  ·intro y0 y1 y2 y3
   unfold impl_SecFlush.l0
   repeat' first
   | (with_reducible exact ih0 _ _ _ _)
   | (with_reducible exact impl_SecOk.mono _ _ _)
   | (with_reducible exact LeO.refl _)
   | (with_reducible exact LeO.none _)
   | (with_reducible refine LeO.ite ?_ ?_)
   | (with_reducible refine LeO.bind ?_ (fun _ => ?_))
   | exact ih0 _ _ _ _
   | exact impl_SecOk.mono _ _ _
   | exact LeO.none _
   | refine LeO.ite ?_ ?_
   | refine LeO.bind ?_ (fun _ => ?_)
theorem impl_SecFlush.mono : ∀ a0 a1 k, LeO (impl_SecFlush.f k a0 a1) (impl_SecFlush.f (k + 1) a0 a1) := by
 intro a0 a1 k
 have ih0 := impl_SecFlush.mono_l k
 unfold impl_SecFlush.f
 repeat' first
   | (with_reducible exact ih0 _ _ _ _)
   | (with_reducible exact impl_SecOk.mono _ _ _)
   | (with_reducible exact LeO.refl _)
   | (with_reducible exact LeO.none _)
   | (with_reducible refine LeO.ite ?_ ?_)
   | (with_reducible refine LeO.bind ?_ (fun _ => ?_))
   | exact ih0 _ _ _ _
   | exact impl_SecOk.mono _ _ _
   | exact LeO.none _
   | refine LeO.ite ?_ ?_
   | refine LeO.bind ?_ (fun _ => ?_)
set_option maxHeartbeats 8000000 in
set_option maxRecDepth 100000 in
theorem impl_SecFlush.calls (k : Nat) (A0_0 : Option Addr) (c0_0 : Nat) (l0_0 : List ByteArray) (A0_1 : Option Addr) (c0_1 : Nat) (l0_1 : List (S54)) (r1 : List ByteArray) (r2 : List (S54)) (w : World) (hr0_0 : Kd.C Kd.string w A0_0 l0_0.length l0_0) (hc0_0 : l0_0.length ≤ c0_0) (hr0_1 : Kd.C k54 w A0_1 l0_1.length l0_1) (hc0_1 : l0_1.length ≤ c0_1) (h : impl_SecFlush.f k l0_0 l0_1 = some (r1, r2)) :
  Calls Try.prog 32 #[.agg #[.slice A0_0 l0_0.length c0_0, .slice A0_1 l0_1.length c0_1]] w fun e w' => ∃ v0_ v1_ : Value, e = .returned (.agg #[v0_, v1_]) ∧ Kd.R Kd.string 9 w' w.heap.size (fun _ => True) v0_ r1 ∧ Kd.R k54 54 w' w.heap.size (fun _ => True) v1_ r2 ∧ Below w.heap.size w w' := by
 have hu26 := Try.underlying26
 have hu54 := Try.underlying54
 have HR0_0 := Aside0.mk hr0_0
 have HC0_0 := Aside0.mk hc0_0
 clear hr0_0 hc0_0
 have HR0_1 := Aside0.mk hr0_1
 have HC0_1 := Aside0.mk hc0_1
 clear hr0_1 hc0_1
 have HB := Aside0.mk (Below.refl w.heap.size w)
 have H : ((impl_SecOk.f k l0_0 l0_1).bind fun t508 => (if t508 = true then ((impl_copied_string.f l0_0).bind fun t509 => (impl_SecFlush.l0 k l0_1 (l0_1.length : Int) 0 t509)) else (some (([] : List ByteArray), ([] : List (S54)))))) = some (r1, r2) := h
 clear h
 replace H := Option.bind_eq_some_iff.mp H
 obtain ⟨t508, A20, H⟩ := H
 replace H : (if t508 = true then ((impl_copied_string.f l0_0).bind fun t509 => (impl_SecFlush.l0 k l0_1 (l0_1.length : Int) 0 t509)) else (some (([] : List ByteArray), ([] : List (S54))))) = some (r1, r2) := H
 have A2 := Aside0.mk A20
 clear A20
 by_cases c3 : t508 = true
 ·subst c3
  have H1 : ((impl_copied_string.f l0_0).bind fun t509 => (impl_SecFlush.l0 k l0_1 (l0_1.length : Int) 0 t509)) = some (r1, r2) := by rw [if_pos rfl] at H; exact H
  clear H
  have H := H1
  clear H1
  replace H := Option.bind_eq_some_iff.mp H
  obtain ⟨t509, A40, H⟩ := H
  replace H : (impl_SecFlush.l0 k l0_1 (l0_1.length : Int) 0 t509) = some (r1, r2) := H
  have A4 := Aside0.mk A40
  clear A40
  have H' := Aside0.mk H
  clear H
  go_enter Try.func32, Try.ntmps32
  go_wp2_with (first | ((with_reducible refine gate_dst (N := 1) rfl ?_); refine box_event ?hg (N := 1) ?hd (cs := #[.slice A0_0 l0_0.length c0_0, .slice A0_1 l0_1.length c0_1]) (t := 26) ?hr ?_; (case hd => rfl); (case hg => rfl); (case hr => first | (go_simp; done) | (go_simp; rfl)); intro gb506 hg w5 hbox hb; have n0_ := Aside0.mk (below_step (pB HB.out) hb); have n1_ := Aside0.mk (hbox); have n2_ := Aside0.mk ((by rw [hg]; exact (below_size (pB HB.out)) : w.heap.size ≤ gb506)); have n3_ := Aside0.mk ((by rw [hg]; exact (below_size (pB HB.out)) : w.heap.size ≤ gb506)); clear HB; have HB := n0_; have BK506 := n1_; have GW506 := n2_; have GE506 := n3_; clear n0_ n1_ n2_ n3_; clear hb hbox hg) | ((with_reducible refine gate_dst (N := 2) rfl ?_); refine box_event ?hg (N := 2) ?hd (cs := #[.slice none 0 0, .slice none 0 0]) (t := 26) ?hr ?_; (case hd => rfl); (case hg => rfl); (case hr => first | (go_simp; done) | (go_simp; rfl)); intro gb507 hg w6 hbox hb; have n0_ := Aside0.mk (blk_below (g := gb506) (o := .cells #[.slice A0_0 l0_0.length c0_0, .slice A0_1 l0_1.length c0_1] 26 (0, 0)) (pK BK506.out) hb); have n1_ := Aside0.mk (below_step (by repeat (first | (with_reducible first | exact HB.out | apply below_alloc | apply pw_below_drewN | apply below_drew1 | refine below_set ?_ GE506.out) | exact HB.out)) hb); have n2_ := Aside0.mk (hbox); have n3_ := Aside0.mk ((by rw [hg]; exact (below_size (by repeat (first | (with_reducible first | exact HB.out | apply below_alloc | apply pw_below_drewN | apply below_drew1 | refine below_set ?_ GE506.out) | exact HB.out))) : w.heap.size ≤ gb507)); have n4_ := Aside0.mk ((by rw [hg]; exact (below_size (by repeat (first | (with_reducible first | exact HB.out | apply below_alloc | apply pw_below_drewN | apply below_drew1 | refine below_set ?_ GE506.out) | exact HB.out))) : w.heap.size ≤ gb507)); have n5_ := Aside0.mk ((by rw [hg]; exact Nat.ne_of_lt (blk_lt (g := gb506) (o := .cells #[.slice A0_0 l0_0.length c0_0, .slice A0_1 l0_1.length c0_1] 26 (0, 0)) (pK BK506.out)) : gb506 ≠ gb507)); have n6_ := Aside0.mk ((by rw [hg]; exact Nat.ne_of_gt (blk_lt (g := gb506) (o := .cells #[.slice A0_0 l0_0.length c0_0, .slice A0_1 l0_1.length c0_1] 26 (0, 0)) (pK BK506.out)) : gb507 ≠ gb506)); clear BK506; clear HB; have BK506 := n0_; have HB := n1_; have BK507 := n2_; have GW507 := n3_; have GE507 := n4_; have NB506_507 := n5_; have NB507_506 := n6_; clear n0_ n1_ n2_ n3_ n4_ n5_ n6_; clear hb hbox hg; have hnb7 := NB506_507.out; have hnc7 := NB507_506.out; have hcz8_0 : w6.cell? ⟨gb506, 0, none⟩ = some (.slice A0_0 l0_0.length c0_0) := (blk_cell BK506.out 0).trans rfl; have hcz8_1 : w6.cell? ⟨gb506, 1, none⟩ = some (.slice A0_1 l0_1.length c0_1) := (blk_cell BK506.out 1).trans rfl; have hfz8_0 := blk_frozen BK506.out 0; have hfz8_1 := blk_frozen BK506.out 1) | ((with_reducible refine gate_callee (f := 25) rfl ?_); refine goesL_ (some 7) rfl rfl Try.func25 (by kernel_rfl) rfl #[.agg #[.slice A0_0 l0_0.length c0_0, .slice A0_1 l0_1.length c0_1]] rfl bM ?_; (with_reducible refine (impl_SecOk.calls k _ _ l0_0 _ _ l0_1 true _ ?side1 ?side2 ?side3 ?side4 A2.out).mono ?_); (case side1 => repeat (first | exact (Kd.C_below HR0_0.out HB.out) | (with_reducible refine Kd.C_alloc ?_ _) | (with_reducible refine Kd.C_drewN ?_ _) | (with_reducible refine Kd.C_drew ?_))); (case side2 => exact HC0_0.out); (case side3 => repeat (first | exact (Kd.C_below HR0_1.out HB.out) | (with_reducible refine Kd.C_alloc ?_ _) | (with_reducible refine Kd.C_drewN ?_ _) | (with_reducible refine Kd.C_drew ?_))); (case side4 => exact HC0_1.out); rintro e w9 ⟨rfl, hb⟩; refine ⟨_, rfl, ?_⟩; have n0_ := Aside0.mk (blk_below (g := gb506) (o := .cells #[.slice A0_0 l0_0.length c0_0, .slice A0_1 l0_1.length c0_1] 26 (0, 0)) (pK BK506.out) hb); have n1_ := Aside0.mk (blk_below (g := gb507) (o := .cells #[.slice none 0 0, .slice none 0 0] 26 (0, 0)) (pK BK507.out) hb); have n2_ := Aside0.mk (below_step (by repeat (first | (with_reducible first | exact HB.out | apply below_alloc | apply pw_below_drewN | apply below_drew1 | refine below_set ?_ GE506.out | refine below_set ?_ GE507.out) | exact HB.out)) hb); clear BK506; clear BK507; clear HB; have BK506 := n0_; have BK507 := n1_; have HB := n2_; clear n0_ n1_ n2_; (try clear hb); (try clear hb2); (try clear hk); (try clear hi); have hcz10_0 : w9.cell? ⟨gb506, 0, none⟩ = some (.slice A0_0 l0_0.length c0_0) := (blk_cell BK506.out 0).trans rfl; have hcz10_1 : w9.cell? ⟨gb506, 1, none⟩ = some (.slice A0_1 l0_1.length c0_1) := (blk_cell BK506.out 1).trans rfl; have hfz10_0 := blk_frozen BK506.out 0; have hfz10_1 := blk_frozen BK506.out 1) | ((with_reducible refine gate_callee (f := 61) rfl ?_); refine goesL_ (some 12) rfl rfl Try.func61 (by kernel_rfl) rfl #[.slice A0_0 l0_0.length c0_0] rfl bM ?_; (with_reducible refine (impl_copied_string.calls _ _ l0_0 t509 _ ?side1 ?side2 A4.out).mono ?_); (case side1 => repeat (first | exact (Kd.C_below HR0_0.out HB.out) | (with_reducible refine Kd.C_alloc ?_ _) | (with_reducible refine Kd.C_drewN ?_ _) | (with_reducible refine Kd.C_drew ?_))); (case side2 => exact HC0_0.out); rintro e w11 ⟨v510, rfl, ho0, hb⟩; refine ⟨_, rfl, ?_⟩; have n0_ := Aside0.mk (Kd.R_lower ho0 (below_size (by repeat (first | (with_reducible first | exact HB.out | apply below_alloc | apply pw_below_drewN | apply below_drew1 | refine below_set ?_ GE506.out | refine below_set ?_ GE507.out) | exact HB.out)))); have n1_ := Aside0.mk (blk_below (g := gb506) (o := .cells #[.slice A0_0 l0_0.length c0_0, .slice A0_1 l0_1.length c0_1] 26 (0, 0)) (pK BK506.out) hb); have n2_ := Aside0.mk (blk_below (g := gb507) (o := .cells #[.slice none 0 0, .slice none 0 0] 26 (0, 0)) (pK BK507.out) hb); have n3_ := Aside0.mk (below_step (by repeat (first | (with_reducible first | exact HB.out | apply below_alloc | apply pw_below_drewN | apply below_drew1 | refine below_set ?_ GE506.out | refine below_set ?_ GE507.out) | exact HB.out)) hb); clear BK506; clear BK507; clear HB; have HO511 := n0_; have BK506 := n1_; have BK507 := n2_; have HB := n3_; clear n0_ n1_ n2_ n3_; (try clear hb); (try clear hb2); (try clear hk); (try clear hi); (try clear ho0); obtain ⟨Ao12, co12, eo12⟩ := Kd.R_slice HO511.out; subst eo12) | ((with_reducible refine gate_dst (N := 3) rfl ?_); refine box_event ?hg (N := 3) ?hd (cs := #[.slice none 0 0, .slice none 0 0]) (t := 26) ?hr ?_; (case hd => rfl); (case hg => rfl); (case hr => first | (go_simp; done) | (go_simp; rfl)); intro gb512 hg w13 hbox hb; have n0_ := Aside0.mk (Kd.R_below (pR HO511.out) hb); have n1_ := Aside0.mk (blk_below (g := gb506) (o := .cells #[.slice A0_0 l0_0.length c0_0, .slice A0_1 l0_1.length c0_1] 26 (0, 0)) (pK BK506.out) hb); have n2_ := Aside0.mk (blk_below (g := gb507) (o := .cells #[.slice none 0 0, .slice none 0 0] 26 (0, 0)) (pK BK507.out) hb); have n3_ := Aside0.mk (below_step (by repeat (first | (with_reducible first | exact HB.out | apply below_alloc | apply pw_below_drewN | apply below_drew1 | refine below_set ?_ GE506.out | refine below_set ?_ GE507.out) | exact HB.out)) hb); have n4_ := Aside0.mk (hbox); have n5_ := Aside0.mk ((by rw [hg]; exact (below_size (by repeat (first | (with_reducible first | exact HB.out | apply below_alloc | apply pw_below_drewN | apply below_drew1 | refine below_set ?_ GE506.out | refine below_set ?_ GE507.out) | exact HB.out))) : w.heap.size ≤ gb512)); have n6_ := Aside0.mk ((by rw [hg]; exact (below_size (by repeat (first | (with_reducible first | exact HB.out | apply below_alloc | apply pw_below_drewN | apply below_drew1 | refine below_set ?_ GE506.out | refine below_set ?_ GE507.out) | exact HB.out))) : w.heap.size ≤ gb512)); have n7_ := Aside0.mk ((by rw [hg]; exact Nat.ne_of_lt (blk_lt (g := gb506) (o := .cells #[.slice A0_0 l0_0.length c0_0, .slice A0_1 l0_1.length c0_1] 26 (0, 0)) (pK BK506.out)) : gb506 ≠ gb512)); have n8_ := Aside0.mk ((by rw [hg]; exact Nat.ne_of_gt (blk_lt (g := gb506) (o := .cells #[.slice A0_0 l0_0.length c0_0, .slice A0_1 l0_1.length c0_1] 26 (0, 0)) (pK BK506.out)) : gb512 ≠ gb506)); have n9_ := Aside0.mk ((by rw [hg]; exact Nat.ne_of_lt (blk_lt (g := gb507) (o := .cells #[.slice none 0 0, .slice none 0 0] 26 (0, 0)) (pK BK507.out)) : gb507 ≠ gb512)); have n10_ := Aside0.mk ((by rw [hg]; exact Nat.ne_of_gt (blk_lt (g := gb507) (o := .cells #[.slice none 0 0, .slice none 0 0] 26 (0, 0)) (pK BK507.out)) : gb512 ≠ gb507)); clear HO511; clear BK506; clear BK507; clear HB; have HO511 := n0_; have BK506 := n1_; have BK507 := n2_; have HB := n3_; have BK512 := n4_; have GW512 := n5_; have GE512 := n6_; have NB506_512 := n7_; have NB512_506 := n8_; have NB507_512 := n9_; have NB512_507 := n10_; clear n0_ n1_ n2_ n3_ n4_ n5_ n6_ n7_ n8_ n9_ n10_; clear hb hbox hg; have hnb14 := NB512_506.out; have hnc14 := NB506_512.out; have hnb15 := NB512_507.out; have hnc15 := NB507_512.out; have hcz16_0 : w13.cell? ⟨gb512, 0, none⟩ = some (.slice none 0 0) := (blk_cell BK512.out 0).trans rfl; have hcz16_1 : w13.cell? ⟨gb512, 1, none⟩ = some (.slice none 0 0) := (blk_cell BK512.out 1).trans rfl; have hfz16_0 := blk_frozen BK512.out 0; have hfz16_1 := blk_frozen BK512.out 1; have hcz17_0 : w13.cell? ⟨gb506, 0, none⟩ = some (.slice A0_0 l0_0.length c0_0) := (blk_cell BK506.out 0).trans rfl; have hcz17_1 : w13.cell? ⟨gb506, 1, none⟩ = some (.slice A0_1 l0_1.length c0_1) := (blk_cell BK506.out 1).trans rfl; have hfz17_0 := blk_frozen BK506.out 0; have hfz17_1 := blk_frozen BK506.out 1))
  go_loopg [17] k (fun kq v17 w' => ∃ (x17_1 : Int) (x513000_1 : List ByteArray) (u513000 : Value), v17 = .int .i64 x17_1 ∧ Aside0 (impl_SecFlush.l0 kq l0_1 (l0_1.length : Int) x17_1 x513000_1 = some (r1, r2)) ∧ Aside0 (kq ≤ k) ∧ Aside0 (Kd.R Kd.string 9 w' w.heap.size (fun _ => True) u513000 x513000_1) ∧ Aside0 (w'.heap[gb506]? = some (.cells #[(.slice A0_0 l0_0.length c0_0), (.slice A0_1 l0_1.length c0_1)] 26 (0, 0))) ∧ Aside0 (w'.heap[gb507]? = some (.cells #[(.slice none 0 0), (.slice none 0 0)] 26 (0, 0))) ∧ Aside0 (w'.heap[gb512]? = some (.cells #[u513000, (.slice none 0 0)] 26 (0, 0))) ∧ Aside0 (Below w.heap.size w w'))
  case atStart => exact ⟨(0), (t509), (.slice Ao12 t509.length co12), (by first | rfl | (simp; done) | (simp [*]; done)), H', ⟨Nat.le_refl _⟩, ⟨pR (Kd.R_mono (Kd.R_far (p := ⟨gb512, 1, none⟩) (Kd.R_far (p := ⟨gb512, 0, none⟩) (Kd.R_types HO511.out BK512.out (by decide)) (fun _ hk => hk.2) (.slice Ao12 t509.length co12)) (fun _ hk => hk.2) (.slice none 0 0)) (fun _ hk => trivial))⟩, ⟨by (with_reducible repeat (first | refine blk_drewN ?_ _ | refine blk_drew ?_ | refine blk_alloc ?_ _)); refine blk_far ?_ NB506_512.out _; (with_reducible repeat (first | refine blk_drewN ?_ _ | refine blk_drew ?_ | refine blk_alloc ?_ _)); refine blk_far ?_ NB506_512.out _; (with_reducible repeat (first | refine blk_drewN ?_ _ | refine blk_drew ?_ | refine blk_alloc ?_ _)); exact BK506.out⟩, ⟨by (with_reducible repeat (first | refine blk_drewN ?_ _ | refine blk_drew ?_ | refine blk_alloc ?_ _)); refine blk_far ?_ NB507_512.out _; (with_reducible repeat (first | refine blk_drewN ?_ _ | refine blk_drew ?_ | refine blk_alloc ?_ _)); refine blk_far ?_ NB507_512.out _; (with_reducible repeat (first | refine blk_drewN ?_ _ | refine blk_drew ?_ | refine blk_alloc ?_ _)); exact BK507.out⟩, ⟨by (with_reducible repeat (first | refine blk_drewN ?_ _ | refine blk_drew ?_ | refine blk_alloc ?_ _)); refine blk_put (cs := #[.slice Ao12 t509.length co12, .slice none 0 0]) ?_ 1 _ rfl; (with_reducible repeat (first | refine blk_drewN ?_ _ | refine blk_drew ?_ | refine blk_alloc ?_ _)); refine blk_put (cs := #[.slice none 0 0, .slice none 0 0]) ?_ 0 _ rfl; (with_reducible repeat (first | refine blk_drewN ?_ _ | refine blk_drew ?_ | refine blk_alloc ?_ _)); exact BK512.out⟩, ⟨by repeat (first | (with_reducible first | exact HB.out | apply below_alloc | apply pw_below_drewN | apply below_drew1 | refine below_set ?_ GE506.out | refine below_set ?_ GE507.out | refine below_set ?_ GE512.out) | exact HB.out)⟩⟩
  case round =>
   clear H'
   try clear c1
   try clear c2
   try clear p2
   try clear c3
   try clear c6
   try clear c7
   try clear c14
   try clear c15
   try clear hcz10_0
   try clear hcz10_1
   try clear hcz16_0
   try clear hcz16_1
   try clear hcz17_0
   try clear hcz17_1
   try clear hcz8_0
   try clear hcz8_1
   try clear hfz10_0
   try clear hfz10_1
   try clear hfz16_0
   try clear hfz16_1
   try clear hfz17_0
   try clear hfz17_1
   try clear hfz8_0
   try clear hfz8_1
   obtain ⟨x17_1, x513000_1, u513000, rfl, HA, HK1, HO_513000, BK506, BK507, BK512, HB⟩ := hrel
   cases gk with
   | zero => exact absurd HA.out (by simp [impl_SecFlush.l0])
   | succ k1 =>
    have H := HA.out
    clear HA
    simp only [impl_SecFlush.l0] at H
    by_cases c18 : x17_1 < (l0_1.length : Int)
    ·rw [if_pos c18] at H
     have c18b0 : decide (x17_1 < (l0_1.length : Int)) = true := decide_eq_true c18
     clear c18
     by_cases c19 : 0 ≤ x17_1
     ·rw [if_pos c19] at H
      have c19b0 : decide (0 ≤ x17_1) = true := decide_eq_true c19
      clear c19
      by_cases c20 : x17_1 < (l0_1.length : Int)
      ·rw [if_pos c20] at H
       have c20b0 : decide (x17_1 < (l0_1.length : Int)) = true := decide_eq_true c20
       clear c20
       by_cases c21 : 0 ≤ ((rd_T54 l0_1 x17_1).f0)
       ·rw [if_pos c21] at H
        have c21b0 : decide (0 ≤ ((rd_T54 l0_1 x17_1).f0)) = true := decide_eq_true c21
        clear c21
        by_cases c22 : ((rd_T54 l0_1 x17_1).f0) < (x513000_1.length : Int)
        ·rw [if_pos c22] at H
         have c22b0 : decide (((rd_T54 l0_1 x17_1).f0) < (x513000_1.length : Int)) = true := decide_eq_true c22
         clear c22
         obtain ⟨y515, hy515⟩ : ∃ y_ : List ByteArray, y_ = (x513000_1.set (((rd_T54 l0_1 x17_1).f0) : Int).toNat ((rd_T54 l0_1 x17_1).f1)) := ⟨_, rfl⟩
         replace H : (impl_SecFlush.l0 k1 l0_1 (l0_1.length : Int) (wrap64 (x17_1 + 1)) y515) = some (r1, r2) := by first | (rw [hy515]; with_reducible exact H) | (have H2_ := (Option.bind_some _ _).symm.trans H; rw [hy515]; with_reducible exact H2_) | (have H2_ := (Option.bind_some _ _).symm.trans H; with_reducible exact H2_) | with_reducible exact H | (rw [hy515]; exact H) | exact H
         have Ny515 := Aside0.mk hy515
         clear hy515
         have H' := Aside0.mk H
         clear H
         have p513 : 0 ≤ (x17_1 : Int) := of_decide_eq_true bA
         have q513 : x17_1 < (l0_1.length : Int) := of_decide_eq_true bA
         obtain ⟨ad513, e513, hx513_0, hx513_1⟩ := at_T54 HR0_1.out x17_1 p513 q513
         cases e513
         replace hx513_0 := (HB.out.cell (World.block_lt_of_cell? w _ hx513_0)).trans hx513_0
         replace hx513_1 := (HB.out.cell (World.block_lt_of_cell? w _ hx513_1)).trans hx513_1
         replace p513 := eq_true p513
         replace q513 := eq_true q513
         go_wp2_with (first | ((with_reducible refine gate_dst (N := 5) rfl ?_); refine box_event ?hg (N := 5) ?hd (cs := #[.int .i64 0, .string (⟨#[]⟩ : ByteArray)]) (t := 54) ?hr ?_; (case hd => rfl); (case hg => rfl); (case hr => first | (go_simp; done) | (go_simp; rfl)); intro gb514 hg w24 hbox hb; have n0_ := Aside0.mk (Kd.R_below (pR HO_513000.out) hb); have n1_ := Aside0.mk (blk_below (g := gb506) (o := .cells #[.slice A0_0 l0_0.length c0_0, .slice (some ad513) l0_1.length c0_1] 26 (0, 0)) (pK BK506.out) hb); have n2_ := Aside0.mk (blk_below (g := gb507) (o := .cells #[.slice none 0 0, .slice none 0 0] 26 (0, 0)) (pK BK507.out) hb); have n3_ := Aside0.mk (blk_below (g := gb512) (o := .cells #[u513000, .slice none 0 0] 26 (0, 0)) (pK BK512.out) hb); have n4_ := Aside0.mk (below_step (by repeat (first | (with_reducible first | exact HB.out | apply below_alloc | apply pw_below_drewN | apply below_drew1 | refine below_set ?_ GE506.out | refine below_set ?_ GE507.out | refine below_set ?_ GE512.out) | exact HB.out)) hb); have n5_ := Aside0.mk (hbox); have n6_ := Aside0.mk ((by rw [hg]; exact (below_size (by repeat (first | (with_reducible first | exact HB.out | apply below_alloc | apply pw_below_drewN | apply below_drew1 | refine below_set ?_ GE506.out | refine below_set ?_ GE507.out | refine below_set ?_ GE512.out) | exact HB.out))) : w.heap.size ≤ gb514)); have n7_ := Aside0.mk ((by rw [hg]; exact (below_size (by repeat (first | (with_reducible first | exact HB.out | apply below_alloc | apply pw_below_drewN | apply below_drew1 | refine below_set ?_ GE506.out | refine below_set ?_ GE507.out | refine below_set ?_ GE512.out) | exact HB.out))) : w.heap.size ≤ gb514)); have n8_ := Aside0.mk ((by rw [hg]; exact Nat.ne_of_lt (blk_lt (g := gb506) (o := .cells #[.slice A0_0 l0_0.length c0_0, .slice (some ad513) l0_1.length c0_1] 26 (0, 0)) (pK BK506.out)) : gb506 ≠ gb514)); have n9_ := Aside0.mk ((by rw [hg]; exact Nat.ne_of_gt (blk_lt (g := gb506) (o := .cells #[.slice A0_0 l0_0.length c0_0, .slice (some ad513) l0_1.length c0_1] 26 (0, 0)) (pK BK506.out)) : gb514 ≠ gb506)); have n10_ := Aside0.mk ((by rw [hg]; exact Nat.ne_of_lt (blk_lt (g := gb507) (o := .cells #[.slice none 0 0, .slice none 0 0] 26 (0, 0)) (pK BK507.out)) : gb507 ≠ gb514)); have n11_ := Aside0.mk ((by rw [hg]; exact Nat.ne_of_gt (blk_lt (g := gb507) (o := .cells #[.slice none 0 0, .slice none 0 0] 26 (0, 0)) (pK BK507.out)) : gb514 ≠ gb507)); have n12_ := Aside0.mk ((by rw [hg]; exact Nat.ne_of_lt (blk_lt (g := gb512) (o := .cells #[u513000, .slice none 0 0] 26 (0, 0)) (pK BK512.out)) : gb512 ≠ gb514)); have n13_ := Aside0.mk ((by rw [hg]; exact Nat.ne_of_gt (blk_lt (g := gb512) (o := .cells #[u513000, .slice none 0 0] 26 (0, 0)) (pK BK512.out)) : gb514 ≠ gb512)); clear HO_513000; clear BK506; clear BK507; clear BK512; clear HB; have HO_513000 := n0_; have BK506 := n1_; have BK507 := n2_; have BK512 := n3_; have HB := n4_; have BK514 := n5_; have GW514 := n6_; have GE514 := n7_; have NB506_514 := n8_; have NB514_506 := n9_; have NB507_514 := n10_; have NB514_507 := n11_; have NB512_514 := n12_; have NB514_512 := n13_; clear n0_ n1_ n2_ n3_ n4_ n5_ n6_ n7_ n8_ n9_ n10_ n11_ n12_ n13_; clear hb hbox hg; have hnb25 := NB514_506.out; have hnc25 := NB506_514.out; have hnb26 := NB514_507.out; have hnc26 := NB507_514.out; have hnb27 := NB514_512.out; have hnc27 := NB512_514.out; have hcz28_0 : w24.cell? ⟨gb514, 0, none⟩ = some (.int .i64 0) := (blk_cell BK514.out 0).trans rfl; have hcz28_1 : w24.cell? ⟨gb514, 1, none⟩ = some (.string (⟨#[]⟩ : ByteArray)) := (blk_cell BK514.out 1).trans rfl; have hfz28_0 := blk_frozen BK514.out 0; have hfz28_1 := blk_frozen BK514.out 1) | ((with_reducible refine gate_store (t := 54) (p := 5) rfl ?_); refine store_event (t := 54) (p := 5) (v := ?vo_w29) (w1 := ((w24.setCell ⟨gb514, 0, none⟩ (.int .i64 ((rd_T54 l0_1 x17_1).f0))).setCell ⟨gb514, 1, none⟩ (.string ((rd_T54 l0_1 x17_1).f1)))) ?hg ?ho ?hn ?hr ?_; (case ho => rfl); (case hg => rfl); (case hn => rfl); (case hr => first | (go_simp; done) | (go_simp; rfl)); intro w29 hw; have n0_ : Aside0 (Kd.R Kd.string 9 w29 w.heap.size (fun _ => True) u513000 x513000_1) := ⟨(by rw [hw]; exact (pR (Kd.R_mono (Kd.R_far (p := ⟨gb514, 1, none⟩) (Kd.R_far (p := ⟨gb514, 0, none⟩) (Kd.R_types HO_513000.out BK514.out (by decide)) (fun _ hk => hk.2) (.int .i64 ((rd_T54 l0_1 x17_1).f0))) (fun _ hk => hk.2) (.string ((rd_T54 l0_1 x17_1).f1))) (fun _ hk => trivial))))⟩; have n1_ : Aside0 (w29.heap[gb506]? = some (.cells #[.slice A0_0 l0_0.length c0_0, .slice (some ad513) l0_1.length c0_1] 26 (0, 0))) := ⟨(by rw [hw]; exact (by (with_reducible repeat (first | refine blk_drewN ?_ _ | refine blk_drew ?_ | refine blk_alloc ?_ _)); refine blk_far ?_ NB506_514.out _; (with_reducible repeat (first | refine blk_drewN ?_ _ | refine blk_drew ?_ | refine blk_alloc ?_ _)); refine blk_far ?_ NB506_514.out _; (with_reducible repeat (first | refine blk_drewN ?_ _ | refine blk_drew ?_ | refine blk_alloc ?_ _)); exact BK506.out))⟩; have n2_ : Aside0 (w29.heap[gb507]? = some (.cells #[.slice none 0 0, .slice none 0 0] 26 (0, 0))) := ⟨(by rw [hw]; exact (by (with_reducible repeat (first | refine blk_drewN ?_ _ | refine blk_drew ?_ | refine blk_alloc ?_ _)); refine blk_far ?_ NB507_514.out _; (with_reducible repeat (first | refine blk_drewN ?_ _ | refine blk_drew ?_ | refine blk_alloc ?_ _)); refine blk_far ?_ NB507_514.out _; (with_reducible repeat (first | refine blk_drewN ?_ _ | refine blk_drew ?_ | refine blk_alloc ?_ _)); exact BK507.out))⟩; have n3_ : Aside0 (w29.heap[gb512]? = some (.cells #[u513000, .slice none 0 0] 26 (0, 0))) := ⟨(by rw [hw]; exact (by (with_reducible repeat (first | refine blk_drewN ?_ _ | refine blk_drew ?_ | refine blk_alloc ?_ _)); refine blk_far ?_ NB512_514.out _; (with_reducible repeat (first | refine blk_drewN ?_ _ | refine blk_drew ?_ | refine blk_alloc ?_ _)); refine blk_far ?_ NB512_514.out _; (with_reducible repeat (first | refine blk_drewN ?_ _ | refine blk_drew ?_ | refine blk_alloc ?_ _)); exact BK512.out))⟩; have n4_ : Aside0 (w29.heap[gb514]? = some (.cells #[.int .i64 ((rd_T54 l0_1 x17_1).f0), .string ((rd_T54 l0_1 x17_1).f1)] 54 (0, 0))) := ⟨(by rw [hw]; exact (by (with_reducible repeat (first | refine blk_drewN ?_ _ | refine blk_drew ?_ | refine blk_alloc ?_ _)); refine blk_put (cs := #[.int .i64 ((rd_T54 l0_1 x17_1).f0), .string (⟨#[]⟩ : ByteArray)]) ?_ 1 _ rfl; (with_reducible repeat (first | refine blk_drewN ?_ _ | refine blk_drew ?_ | refine blk_alloc ?_ _)); refine blk_put (cs := #[.int .i64 0, .string (⟨#[]⟩ : ByteArray)]) ?_ 0 _ rfl; (with_reducible repeat (first | refine blk_drewN ?_ _ | refine blk_drew ?_ | refine blk_alloc ?_ _)); exact BK514.out))⟩; have n5_ : Aside0 (Below w.heap.size w w29) := ⟨(by rw [hw]; exact (by repeat (first | (with_reducible first | exact HB.out | apply below_alloc | apply pw_below_drewN | apply below_drew1 | refine below_set ?_ GE506.out | refine below_set ?_ GE507.out | refine below_set ?_ GE512.out | refine below_set ?_ GE514.out) | exact HB.out)))⟩; clear hw; clear HO_513000; clear BK506; clear BK507; clear BK512; clear BK514; clear HB; have HO_513000 := n0_; have BK506 := n1_; have BK507 := n2_; have BK512 := n3_; have BK514 := n4_; have HB := n5_; clear n0_ n1_ n2_ n3_ n4_ n5_; have hnb30 := NB512_506.out; have hnc30 := NB506_512.out; have hnb31 := NB512_507.out; have hnc31 := NB507_512.out; have hcz32_0 : w29.cell? ⟨gb512, 0, none⟩ = some (u513000) := (blk_cell BK512.out 0).trans rfl; have hcz32_1 : w29.cell? ⟨gb512, 1, none⟩ = some (.slice none 0 0) := (blk_cell BK512.out 1).trans rfl; have hfz32_0 := blk_frozen BK512.out 0; have hfz32_1 := blk_frozen BK512.out 1; have hcz33_0 : w29.cell? ⟨gb514, 0, none⟩ = some (.int .i64 ((rd_T54 l0_1 x17_1).f0)) := (blk_cell BK514.out 0).trans rfl; have hcz33_1 : w29.cell? ⟨gb514, 1, none⟩ = some (.string ((rd_T54 l0_1 x17_1).f1)) := (blk_cell BK514.out 1).trans rfl; have hfz33_0 := blk_frozen BK514.out 0; have hfz33_1 := blk_frozen BK514.out 1; have p23 : 0 ≤ (((rd_T54 l0_1 x17_1).f0) : Int) := of_decide_eq_true bA; have q23 : (((rd_T54 l0_1 x17_1).f0) : Int) < ((x513000_1.length : Int) : Int) := of_decide_eq_true bA; obtain ⟨go23, co23, eo23, gb23, gl23, cl23, HG23⟩ := Kd.R_form HO_513000.out (by omega); (first | cases eo23 | (injection eo23 with ea_ en_ ec_; (first | subst ea_ | (injection ea_ with ea_; subst ea_)); subst ec_; clear en_)); have GB23 := Aside0.mk gb23; have GG23 := Aside0.mk HG23; clear gb23 gl23 HG23; obtain ⟨hx23_0, hf23_0⟩ := Kd.R_celln (⟨#[]⟩ : ByteArray) HO_513000.out (((rd_T54 l0_1 x17_1).f0) : Int) p23 q23; replace p23 := eq_true p23; replace q23 := eq_true q23; obtain ⟨hy34_, hz34_⟩ := Kd.R_celln (⟨#[]⟩ : ByteArray) HO_513000.out (((rd_T54 l0_1 x17_1).f0) : Int) (of_decide_eq_true bA) (of_decide_eq_true bA); have HP34 := Kd.R_putg HO_513000.out (((rd_T54 l0_1 x17_1).f0) : Int) ((rd_T54 l0_1 x17_1).f1)) | ((with_reducible refine gate_store (t := 9) (p := 27) rfl ?_); refine store_event (t := 9) (p := 27) (v := ?vo_w35) (w1 := (w29.setCell ⟨go23, (((rd_T54 l0_1 x17_1).f0) : Int).toNat, none⟩ (.string ((rd_T54 l0_1 x17_1).f1)))) ?hg ?ho ?hn ?hr ?_; (case ho => rfl); (case hg => rfl); (case hn => rfl); (case hr => first | (go_simp; done) | (go_simp; rfl)); intro w35 hw; have hg : w29.grownBy w35 (some go23) := (by rw [hw]; exact HP34.2); have hp_ : Kd.R Kd.string 9 w35 w.heap.size (fun _ => True) (.slice (some ⟨go23, 0, none⟩) x513000_1.length co23) y515 := (by rw [hw, Ny515.out]; exact HP34.1); clear HP34; have n0_ := Aside0.mk (hp_); have n1_ := Aside0.mk (blk_grown (g := gb506) (o := .cells #[.slice A0_0 l0_0.length c0_0, .slice (some ad513) l0_1.length c0_1] 26 (0, 0)) (pK BK506.out) hg (Kd.R_ne HO_513000.out BK506.out (by decide))); have n2_ := Aside0.mk (blk_grown (g := gb507) (o := .cells #[.slice none 0 0, .slice none 0 0] 26 (0, 0)) (pK BK507.out) hg (Kd.R_ne HO_513000.out BK507.out (by decide))); have n3_ := Aside0.mk (blk_grown (g := gb512) (o := .cells #[.slice (some ⟨go23, 0, none⟩) x513000_1.length co23, .slice none 0 0] 26 (0, 0)) (pK BK512.out) hg (Kd.R_ne HO_513000.out BK512.out (by decide))); have n4_ := Aside0.mk (blk_grown (g := gb514) (o := .cells #[.int .i64 ((rd_T54 l0_1 x17_1).f0), .string ((rd_T54 l0_1 x17_1).f1)] 54 (0, 0)) (pK BK514.out) hg (Kd.R_ne HO_513000.out BK514.out (by decide))); have n5_ := Aside0.mk ((by rw [hw]; exact below_set (HB.out) GB23.out : Below w.heap.size w w35)); clear HO_513000; clear BK506; clear BK507; clear BK512; clear BK514; clear HB; have HO_513000 := n0_; have BK506 := n1_; have BK507 := n2_; have BK512 := n3_; have BK514 := n4_; have HB := n5_; clear n0_ n1_ n2_ n3_ n4_ n5_; clear hg hw hp_))
         go_roundg k1
         case measure => have := HK1.out; omega
         case rel => exact ⟨(wrap64 (x17_1 + 1)), (y515), (.slice (some ⟨go23, 0, none⟩) x513000_1.length co23), (by first | rfl | (simp; done) | (simp [*]; done)), H', ⟨by have := HK1.out; omega⟩, ⟨pR HO_513000.out⟩, ⟨pK BK506.out⟩, ⟨pK BK507.out⟩, ⟨pK BK512.out⟩, ⟨by repeat (first | (with_reducible first | exact HB.out | apply below_alloc | apply pw_below_drewN | apply below_drew1 | refine below_set ?_ GE506.out | refine below_set ?_ GE507.out | refine below_set ?_ GE512.out | refine below_set ?_ GE514.out) | exact HB.out)⟩⟩
        ·rw [if_neg c22] at H
         exact absurd H (by simp)
       ·rw [if_neg c21] at H
        exact absurd H (by simp)
      ·rw [if_neg c20] at H
       exact absurd H (by simp)
     ·rw [if_neg c19] at H
      exact absurd H (by simp)
    ·rw [if_neg c18] at H
     have c18b0 : decide (x17_1 < (l0_1.length : Int)) = false := decide_eq_false c18
     clear c18
     simp only [Option.some.injEq, Prod.mk.injEq] at H
     obtain ⟨rfl, rfl⟩ := H
     have hnb36 := NB512_506.out
     have hnc36 := NB506_512.out
     have hnb37 := NB512_507.out
     have hnc37 := NB507_512.out
     have hcz38_0 : wr.cell? ⟨gb512, 0, none⟩ = some (u513000) := (blk_cell BK512.out 0).trans rfl
     have hcz38_1 : wr.cell? ⟨gb512, 1, none⟩ = some (.slice none 0 0) := (blk_cell BK512.out 1).trans rfl
     have hfz38_0 := blk_frozen BK512.out 0
     have hfz38_1 := blk_frozen BK512.out 1
     obtain ⟨Ao39, co39, eo39⟩ := Kd.R_slice HO_513000.out
     subst eo39
     have hnb40 := NB507_506.out
     have hnc40 := NB506_507.out
     have hcz41_0 : wr.cell? ⟨gb507, 0, none⟩ = some (.slice none 0 0) := (blk_cell BK507.out 0).trans rfl
     have hcz41_1 : wr.cell? ⟨gb507, 1, none⟩ = some (.slice none 0 0) := (blk_cell BK507.out 1).trans rfl
     have hfz41_0 := blk_frozen BK507.out 0
     have hfz41_1 := blk_frozen BK507.out 1
     go_wp2
     refine bodyPost_ret (results_cell_row rfl _ _ gb507 26 #[.slice Ao39 x513000_1.length co39, .slice none 0 0] (0, 0) _ rfl (by (with_reducible repeat (first | refine blk_drewN ?_ _ | refine blk_drew ?_ | refine blk_alloc ?_ _)); refine blk_put (cs := #[.slice Ao39 x513000_1.length co39, .slice none 0 0]) ?_ 1 _ rfl; (with_reducible repeat (first | refine blk_drewN ?_ _ | refine blk_drew ?_ | refine blk_alloc ?_ _)); refine blk_put (cs := #[.slice none 0 0, .slice none 0 0]) ?_ 0 _ rfl; (with_reducible repeat (first | refine blk_drewN ?_ _ | refine blk_drew ?_ | refine blk_alloc ?_ _)); exact BK507.out) Try.underlying26 rfl (by kernel_rfl)) rfl ?_
     exact ⟨_, _, by first | rfl | (simp [errW_none, errW_some] <;> rfl) | (simp [*, errW_none, errW_some] <;> rfl), pR (Kd.R_mono (Kd.R_far (p := ⟨gb507, 1, none⟩) (Kd.R_far (p := ⟨gb507, 0, none⟩) (Kd.R_types HO_513000.out BK507.out (by decide)) (fun _ hk => hk.2) (.slice Ao39 x513000_1.length co39)) (fun _ hk => hk.2) (.slice none 0 0)) (fun _ hk => trivial)), by first | exact Kd.R_nil _ _ _ _ _ | exact Kd.N_nil _ _ _ _ _ | exact Kd.V_nil _ _ _ _ _ | exact Kd.Q_nil _ _ _ _ _ | exact Kd.S_nil _ _ _ _ _, by repeat (first | (with_reducible first | exact HB.out | apply below_alloc | apply pw_below_drewN | apply below_drew1 | refine below_set ?_ GE506.out | refine below_set ?_ GE507.out | refine below_set ?_ GE512.out) | exact HB.out)⟩
 ·replace c3 := Bool.eq_false_iff.mpr c3
  subst c3
  have H1 : (some (([] : List ByteArray), ([] : List (S54)))) = some (r1, r2) := by rw [if_neg (show ¬ (false = true) by decide)] at H; exact H
  clear H
  have H := H1
  clear H1
  simp only [Option.some.injEq, Prod.mk.injEq] at H
  obtain ⟨rfl, rfl⟩ := H
  go_enter Try.func32, Try.ntmps32
  go_wp2_with (first | ((with_reducible refine gate_dst (N := 1) rfl ?_); refine box_event ?hg (N := 1) ?hd (cs := #[.slice A0_0 l0_0.length c0_0, .slice A0_1 l0_1.length c0_1]) (t := 26) ?hr ?_; (case hd => rfl); (case hg => rfl); (case hr => first | (go_simp; done) | (go_simp; rfl)); intro gb506 hg w42 hbox hb; have n0_ := Aside0.mk (below_step (pB HB.out) hb); have n1_ := Aside0.mk (hbox); have n2_ := Aside0.mk ((by rw [hg]; exact (below_size (pB HB.out)) : w.heap.size ≤ gb506)); have n3_ := Aside0.mk ((by rw [hg]; exact (below_size (pB HB.out)) : w.heap.size ≤ gb506)); clear HB; have HB := n0_; have BK506 := n1_; have GW506 := n2_; have GE506 := n3_; clear n0_ n1_ n2_ n3_; clear hb hbox hg) | ((with_reducible refine gate_dst (N := 2) rfl ?_); refine box_event ?hg (N := 2) ?hd (cs := #[.slice none 0 0, .slice none 0 0]) (t := 26) ?hr ?_; (case hd => rfl); (case hg => rfl); (case hr => first | (go_simp; done) | (go_simp; rfl)); intro gb507 hg w43 hbox hb; have n0_ := Aside0.mk (blk_below (g := gb506) (o := .cells #[.slice A0_0 l0_0.length c0_0, .slice A0_1 l0_1.length c0_1] 26 (0, 0)) (pK BK506.out) hb); have n1_ := Aside0.mk (below_step (by repeat (first | (with_reducible first | exact HB.out | apply below_alloc | apply pw_below_drewN | apply below_drew1 | refine below_set ?_ GE506.out) | exact HB.out)) hb); have n2_ := Aside0.mk (hbox); have n3_ := Aside0.mk ((by rw [hg]; exact (below_size (by repeat (first | (with_reducible first | exact HB.out | apply below_alloc | apply pw_below_drewN | apply below_drew1 | refine below_set ?_ GE506.out) | exact HB.out))) : w.heap.size ≤ gb507)); have n4_ := Aside0.mk ((by rw [hg]; exact (below_size (by repeat (first | (with_reducible first | exact HB.out | apply below_alloc | apply pw_below_drewN | apply below_drew1 | refine below_set ?_ GE506.out) | exact HB.out))) : w.heap.size ≤ gb507)); have n5_ := Aside0.mk ((by rw [hg]; exact Nat.ne_of_lt (blk_lt (g := gb506) (o := .cells #[.slice A0_0 l0_0.length c0_0, .slice A0_1 l0_1.length c0_1] 26 (0, 0)) (pK BK506.out)) : gb506 ≠ gb507)); have n6_ := Aside0.mk ((by rw [hg]; exact Nat.ne_of_gt (blk_lt (g := gb506) (o := .cells #[.slice A0_0 l0_0.length c0_0, .slice A0_1 l0_1.length c0_1] 26 (0, 0)) (pK BK506.out)) : gb507 ≠ gb506)); clear BK506; clear HB; have BK506 := n0_; have HB := n1_; have BK507 := n2_; have GW507 := n3_; have GE507 := n4_; have NB506_507 := n5_; have NB507_506 := n6_; clear n0_ n1_ n2_ n3_ n4_ n5_ n6_; clear hb hbox hg; have hnb44 := NB506_507.out; have hnc44 := NB507_506.out; have hcz45_0 : w43.cell? ⟨gb506, 0, none⟩ = some (.slice A0_0 l0_0.length c0_0) := (blk_cell BK506.out 0).trans rfl; have hcz45_1 : w43.cell? ⟨gb506, 1, none⟩ = some (.slice A0_1 l0_1.length c0_1) := (blk_cell BK506.out 1).trans rfl; have hfz45_0 := blk_frozen BK506.out 0; have hfz45_1 := blk_frozen BK506.out 1) | ((with_reducible refine gate_callee (f := 25) rfl ?_); refine goesL_ (some 7) rfl rfl Try.func25 (by kernel_rfl) rfl #[.agg #[.slice A0_0 l0_0.length c0_0, .slice A0_1 l0_1.length c0_1]] rfl bM ?_; (with_reducible refine (impl_SecOk.calls k _ _ l0_0 _ _ l0_1 false _ ?side1 ?side2 ?side3 ?side4 A2.out).mono ?_); (case side1 => repeat (first | exact (Kd.C_below HR0_0.out HB.out) | (with_reducible refine Kd.C_alloc ?_ _) | (with_reducible refine Kd.C_drewN ?_ _) | (with_reducible refine Kd.C_drew ?_))); (case side2 => exact HC0_0.out); (case side3 => repeat (first | exact (Kd.C_below HR0_1.out HB.out) | (with_reducible refine Kd.C_alloc ?_ _) | (with_reducible refine Kd.C_drewN ?_ _) | (with_reducible refine Kd.C_drew ?_))); (case side4 => exact HC0_1.out); rintro e w46 ⟨rfl, hb⟩; refine ⟨_, rfl, ?_⟩; have n0_ := Aside0.mk (blk_below (g := gb506) (o := .cells #[.slice A0_0 l0_0.length c0_0, .slice A0_1 l0_1.length c0_1] 26 (0, 0)) (pK BK506.out) hb); have n1_ := Aside0.mk (blk_below (g := gb507) (o := .cells #[.slice none 0 0, .slice none 0 0] 26 (0, 0)) (pK BK507.out) hb); have n2_ := Aside0.mk (below_step (by repeat (first | (with_reducible first | exact HB.out | apply below_alloc | apply pw_below_drewN | apply below_drew1 | refine below_set ?_ GE506.out | refine below_set ?_ GE507.out) | exact HB.out)) hb); clear BK506; clear BK507; clear HB; have BK506 := n0_; have BK507 := n1_; have HB := n2_; clear n0_ n1_ n2_; (try clear hb); (try clear hb2); (try clear hk); (try clear hi); have hcz47_0 : w46.cell? ⟨gb507, 0, none⟩ = some (.slice none 0 0) := (blk_cell BK507.out 0).trans rfl; have hcz47_1 : w46.cell? ⟨gb507, 1, none⟩ = some (.slice none 0 0) := (blk_cell BK507.out 1).trans rfl; have hfz47_0 := blk_frozen BK507.out 0; have hfz47_1 := blk_frozen BK507.out 1))
  refine bodyPost_ret (results_cell_row rfl _ _ gb507 26 #[.slice none 0 0, .slice none 0 0] (0, 0) _ rfl (by (with_reducible repeat (first | refine blk_drewN ?_ _ | refine blk_drew ?_ | refine blk_alloc ?_ _)); refine blk_put (cs := #[.slice none 0 0, .slice none 0 0]) ?_ 1 _ rfl; (with_reducible repeat (first | refine blk_drewN ?_ _ | refine blk_drew ?_ | refine blk_alloc ?_ _)); refine blk_put (cs := #[.slice none 0 0, .slice none 0 0]) ?_ 0 _ rfl; (with_reducible repeat (first | refine blk_drewN ?_ _ | refine blk_drew ?_ | refine blk_alloc ?_ _)); exact BK507.out) Try.underlying26 rfl (by kernel_rfl)) rfl ?_
  exact ⟨_, _, by first | rfl | (simp [errW_none, errW_some] <;> rfl) | (simp [*, errW_none, errW_some] <;> rfl), by first | exact Kd.R_nil _ _ _ _ _ | exact Kd.N_nil _ _ _ _ _ | exact Kd.V_nil _ _ _ _ _ | exact Kd.Q_nil _ _ _ _ _ | exact Kd.S_nil _ _ _ _ _, by first | exact Kd.R_nil _ _ _ _ _ | exact Kd.N_nil _ _ _ _ _ | exact Kd.V_nil _ _ _ _ _ | exact Kd.Q_nil _ _ _ _ _ | exact Kd.S_nil _ _ _ _ _, by repeat (first | (with_reducible first | exact HB.out | apply below_alloc | apply pw_below_drewN | apply below_drew1 | refine below_set ?_ GE506.out | refine below_set ?_ GE507.out) | exact HB.out)⟩

end Go.Proofs.Ythkdhcaojhbfoaa.P
