-- printed by pprint.py (this session's program over the kit's printer) out of the translation. Lean checks it.
import Derived.Test.YthjocaegapchaaaPx0
import Derived.Test.YthjocaegapchaaaPx2
import Derived.Test.YthjocaegapchaaaPx8
namespace Go.Proofs.Ythjocaegapchaaa.P
open Go.RowKit Go.Proofs.YthjocaegapchaaaX Go.Proofs.YthjocaegapchaaaW.PrintWords Go.Proofs.YthjocaegapchaaaW.PrintLast Go.Proofs.YthjocaegapchaaaW.PrintMore
attribute [local go_sem] max2_int min2_int max_two min_two max_three min_three max_four min_four   -- for this text's walks alone
set_option linter.unusedVariables false
set_option linter.unusedSimpArgs false

/-! ### impl_SecCut: function 66 -/
def impl_SecCut.l0 : Nat → List Int → List (S75) → Int → Int → List ByteArray → Option (List ByteArray × (List (S75)))
 | 0, _, _, _, _, _ => none
 | k + 1, x1, x17, x18, x19, x953000 => if x19 < x18 then (if 0 ≤ x19 then (if x19 < (x17.length : Int) then (if x19 < (x1.length : Int) then (if (rd x1 x19) = 0 then (impl_SecCut.l0 k x1 x17 x18 (wrap64 (x19 + 1)) x953000) else (if 0 ≤ ((rd_T75 x17 x19).f0) then (if ((rd_T75 x17 x19).f0) < (x953000.length : Int) then (impl_SecCut.l0 k x1 x17 x18 (wrap64 (x19 + 1)) (x953000.set (((rd_T75 x17 x19).f0) : Int).toNat ((rd_T75 x17 x19).f1))) else (none)) else (none))) else (impl_SecCut.l0 k x1 x17 x18 (wrap64 (x19 + 1)) x953000)) else (none)) else (none)) else (some (x953000, ([] : List (S75))))
def impl_SecCut.f (k : Nat) (l0_0 : List ByteArray) (l0_1 : List (S75)) (l1 : List Int) : Option (List ByteArray × (List (S75))) := (impl_SecOk.f k l0_0 l0_1).bind fun t948 => (if t948 = true then ((impl_copied_string.f l0_0).bind fun t949 => (impl_SecCut.l0 k l1 l0_1 (l0_1.length : Int) 0 t949)) else (some (([] : List ByteArray), ([] : List (S75)))))
theorem impl_SecCut.mono_l : ∀ k, (∀ y0 y1 y2 y3 y4, LeO (impl_SecCut.l0 k y0 y1 y2 y3 y4) (impl_SecCut.l0 (k + 1) y0 y1 y2 y3 y4))
 | 0 => fun _ _ _ _ _ r h => by simp [impl_SecCut.l0] at h
 | k + 1 => by
  have ih0 := impl_SecCut.mono_l k
  ·intro y0 y1 y2 y3 y4
   unfold impl_SecCut.l0
   repeat' first
   | (with_reducible exact ih0 _ _ _ _ _)
   | (with_reducible exact impl_SecOk.mono _ _ _)
   | (with_reducible exact LeO.refl _)
   | (with_reducible exact LeO.none _)
   | (with_reducible refine LeO.ite ?_ ?_)
   | (with_reducible refine LeO.bind ?_ (fun _ => ?_))
   | exact ih0 _ _ _ _ _
   | exact impl_SecOk.mono _ _ _
   | exact LeO.none _
   | refine LeO.ite ?_ ?_
   | refine LeO.bind ?_ (fun _ => ?_)
theorem impl_SecCut.mono : ∀ a0 a1 a2 k, LeO (impl_SecCut.f k a0 a1 a2) (impl_SecCut.f (k + 1) a0 a1 a2) := by
 intro a0 a1 a2 k
 have ih0 := impl_SecCut.mono_l k
 unfold impl_SecCut.f
 repeat' first
   | (with_reducible exact ih0 _ _ _ _ _)
   | (with_reducible exact impl_SecOk.mono _ _ _)
   | (with_reducible exact LeO.refl _)
   | (with_reducible exact LeO.none _)
   | (with_reducible refine LeO.ite ?_ ?_)
   | (with_reducible refine LeO.bind ?_ (fun _ => ?_))
   | exact ih0 _ _ _ _ _
   | exact impl_SecOk.mono _ _ _
   | exact LeO.none _
   | refine LeO.ite ?_ ?_
   | refine LeO.bind ?_ (fun _ => ?_)
set_option maxHeartbeats 8000000 in
set_option maxRecDepth 100000 in
theorem impl_SecCut.calls (k : Nat) (A0_0 : Option Addr) (c0_0 : Nat) (l0_0 : List ByteArray) (A0_1 : Option Addr) (c0_1 : Nat) (l0_1 : List (S75)) (A1 : Option Addr) (c1 : Nat) (l1 : List Int) (r1 : List ByteArray) (r2 : List (S75)) (w : World) (hr0_0 : Kd.C Kd.string w A0_0 l0_0.length l0_0) (hc0_0 : l0_0.length ≤ c0_0) (hr0_1 : Kd.C k75 w A0_1 l0_1.length l0_1) (hc0_1 : l0_1.length ≤ c0_1) (hr1 : Kd.C (Kd.int .i64) w A1 l1.length l1) (hc1 : l1.length ≤ c1) (h : impl_SecCut.f k l0_0 l0_1 l1 = some (r1, r2)) :
  Calls Try.prog 66 #[.agg #[.slice A0_0 l0_0.length c0_0, .slice A0_1 l0_1.length c0_1], .slice A1 l1.length c1] w fun e w' => ∃ v0_ v1_ : Value, e = .returned (.agg #[v0_, v1_]) ∧ Kd.R Kd.string 9 w' w.heap.size (fun _ => True) v0_ r1 ∧ Kd.R k75 75 w' w.heap.size (fun _ => True) v1_ r2 ∧ Below w.heap.size w w' := by
 have hu31 := Try.underlying31
 have hu75 := Try.underlying75
 have HR0_0 := Aside0.mk hr0_0
 have HC0_0 := Aside0.mk hc0_0
 clear hr0_0 hc0_0
 have HR0_1 := Aside0.mk hr0_1
 have HC0_1 := Aside0.mk hc0_1
 clear hr0_1 hc0_1
 have HR1 := Aside0.mk hr1
 have HC1 := Aside0.mk hc1
 clear hr1 hc1
 have HB := Aside0.mk (Below.refl w.heap.size w)
 have H : ((impl_SecOk.f k l0_0 l0_1).bind fun t948 => (if t948 = true then ((impl_copied_string.f l0_0).bind fun t949 => (impl_SecCut.l0 k l1 l0_1 (l0_1.length : Int) 0 t949)) else (some (([] : List ByteArray), ([] : List (S75)))))) = some (r1, r2) := h
 clear h
 replace H := Option.bind_eq_some_iff.mp H
 obtain ⟨t948, A30, H⟩ := H
 replace H : (if t948 = true then ((impl_copied_string.f l0_0).bind fun t949 => (impl_SecCut.l0 k l1 l0_1 (l0_1.length : Int) 0 t949)) else (some (([] : List ByteArray), ([] : List (S75))))) = some (r1, r2) := H
 have A3 := Aside0.mk A30
 clear A30
 by_cases c4 : t948 = true
 ·subst c4
  have H1 : ((impl_copied_string.f l0_0).bind fun t949 => (impl_SecCut.l0 k l1 l0_1 (l0_1.length : Int) 0 t949)) = some (r1, r2) := by rw [if_pos rfl] at H; exact H
  clear H
  have H := H1
  clear H1
  replace H := Option.bind_eq_some_iff.mp H
  obtain ⟨t949, A50, H⟩ := H
  replace H : (impl_SecCut.l0 k l1 l0_1 (l0_1.length : Int) 0 t949) = some (r1, r2) := H
  have A5 := Aside0.mk A50
  clear A50
  have H' := Aside0.mk H
  clear H
  go_enter Try.func66, Try.ntmps66
  go_wp2_with (first | ((with_reducible refine gate_dst (N := 2) rfl ?_); refine box_event ?hg (N := 2) ?hd (cs := #[.slice A0_0 l0_0.length c0_0, .slice A0_1 l0_1.length c0_1]) (t := 31) ?hr ?_; (case hd => rfl); (case hg => rfl); (case hr => first | (go_simp; done) | (go_simp; rfl)); intro gb946 hg w6 hbox hb; have n0_ := Aside0.mk (below_step (pB HB.out) hb); have n1_ := Aside0.mk (hbox); have n2_ := Aside0.mk ((by rw [hg]; exact (below_size (pB HB.out)) : w.heap.size ≤ gb946)); have n3_ := Aside0.mk ((by rw [hg]; exact (below_size (pB HB.out)) : w.heap.size ≤ gb946)); clear HB; have HB := n0_; have BK946 := n1_; have GW946 := n2_; have GE946 := n3_; clear n0_ n1_ n2_ n3_; clear hb hbox hg) | ((with_reducible refine gate_dst (N := 4) rfl ?_); refine box_event ?hg (N := 4) ?hd (cs := #[.slice none 0 0, .slice none 0 0]) (t := 31) ?hr ?_; (case hd => rfl); (case hg => rfl); (case hr => first | (go_simp; done) | (go_simp; rfl)); intro gb947 hg w7 hbox hb; have n0_ := Aside0.mk (blk_below (pK BK946.out) hb); have n1_ := Aside0.mk (below_step (pS HB.out) hb); have n2_ := Aside0.mk (hbox); have n3_ := Aside0.mk ((by rw [hg]; exact (below_size (pS HB.out)) : w.heap.size ≤ gb947)); have n4_ := Aside0.mk ((by rw [hg]; exact (below_size (pS HB.out)) : w.heap.size ≤ gb947)); have n5_ := Aside0.mk ((by rw [hg]; exact Nat.ne_of_lt (blk_lt (pK BK946.out)) : gb946 ≠ gb947)); have n6_ := Aside0.mk ((by rw [hg]; exact Nat.ne_of_gt (blk_lt (pK BK946.out)) : gb947 ≠ gb946)); clear BK946; clear HB; have BK946 := n0_; have HB := n1_; have BK947 := n2_; have GW947 := n3_; have GE947 := n4_; have NB946_947 := n5_; have NB947_946 := n6_; clear n0_ n1_ n2_ n3_ n4_ n5_ n6_; clear hb hbox hg; have hnb8 := NB946_947.out; have hnc8 := NB947_946.out; have hcz9_0 : w7.cell? ⟨gb946, 0, none⟩ = some (.slice A0_0 l0_0.length c0_0) := (blk_cell BK946.out 0).trans rfl; have hcz9_1 : w7.cell? ⟨gb946, 1, none⟩ = some (.slice A0_1 l0_1.length c0_1) := (blk_cell BK946.out 1).trans rfl; have hfz9_0 := blk_frozen BK946.out 0; have hfz9_1 := blk_frozen BK946.out 1) | ((with_reducible refine gate_callee (f := 63) rfl ?_); refine goesL_ (some 9) rfl rfl Try.func63 (by kernel_rfl) rfl #[.agg #[.slice A0_0 l0_0.length c0_0, .slice A0_1 l0_1.length c0_1]] rfl bM ?_; (with_reducible refine (impl_SecOk.calls k _ _ l0_0 _ _ l0_1 true _ ?side1 ?side2 ?side3 ?side4 A3.out).mono ?_); (case side1 => exact pC (Kd.C_below HR0_0.out HB.out)); (case side2 => exact HC0_0.out); (case side3 => exact pC (Kd.C_below HR0_1.out HB.out)); (case side4 => exact HC0_1.out); rintro e w10 ⟨rfl, hb⟩; refine ⟨_, rfl, ?_⟩; have n0_ := Aside0.mk (blk_below (pK BK946.out) hb); have n1_ := Aside0.mk (blk_below (pK BK947.out) hb); have n2_ := Aside0.mk (below_step (pS HB.out) hb); clear BK946; clear BK947; clear HB; have BK946 := n0_; have BK947 := n1_; have HB := n2_; clear n0_ n1_ n2_; (try clear hb); (try clear hb2); (try clear hk); (try clear hi); have hcz11_0 : w10.cell? ⟨gb946, 0, none⟩ = some (.slice A0_0 l0_0.length c0_0) := (blk_cell BK946.out 0).trans rfl; have hcz11_1 : w10.cell? ⟨gb946, 1, none⟩ = some (.slice A0_1 l0_1.length c0_1) := (blk_cell BK946.out 1).trans rfl; have hfz11_0 := blk_frozen BK946.out 0; have hfz11_1 := blk_frozen BK946.out 1) | ((with_reducible refine gate_callee (f := 50) rfl ?_); refine goesL_ (some 14) rfl rfl Try.func50 (by kernel_rfl) rfl #[.slice A0_0 l0_0.length c0_0] rfl bM ?_; (with_reducible refine (impl_copied_string.calls _ _ l0_0 t949 _ ?side1 ?side2 A5.out).mono ?_); (case side1 => exact pC (Kd.C_below HR0_0.out HB.out)); (case side2 => exact HC0_0.out); rintro e w12 ⟨v950, rfl, ho0, hb⟩; refine ⟨_, rfl, ?_⟩; have n0_ := Aside0.mk (Kd.R_lower ho0 (below_size (pS HB.out))); have n1_ := Aside0.mk (blk_below (pK BK946.out) hb); have n2_ := Aside0.mk (blk_below (pK BK947.out) hb); have n3_ := Aside0.mk (below_step (pS HB.out) hb); clear BK946; clear BK947; clear HB; have HO951 := n0_; have BK946 := n1_; have BK947 := n2_; have HB := n3_; clear n0_ n1_ n2_ n3_; (try clear hb); (try clear hb2); (try clear hk); (try clear hi); (try clear ho0); obtain ⟨Ao13, co13, eo13⟩ := Kd.R_slice HO951.out; subst eo13) | ((with_reducible refine gate_dst (N := 5) rfl ?_); refine box_event ?hg (N := 5) ?hd (cs := #[.slice none 0 0, .slice none 0 0]) (t := 31) ?hr ?_; (case hd => rfl); (case hg => rfl); (case hr => first | (go_simp; done) | (go_simp; rfl)); intro gb952 hg w14 hbox hb; have n0_ := Aside0.mk (Kd.R_below (pR HO951.out) hb); have n1_ := Aside0.mk (blk_below (pK BK946.out) hb); have n2_ := Aside0.mk (blk_below (pK BK947.out) hb); have n3_ := Aside0.mk (below_step (pS HB.out) hb); have n4_ := Aside0.mk (hbox); have n5_ := Aside0.mk ((by rw [hg]; exact (below_size (pS HB.out)) : w.heap.size ≤ gb952)); have n6_ := Aside0.mk ((by rw [hg]; exact (below_size (pS HB.out)) : w.heap.size ≤ gb952)); have n7_ := Aside0.mk ((by rw [hg]; exact Nat.ne_of_lt (blk_lt (pK BK946.out)) : gb946 ≠ gb952)); have n8_ := Aside0.mk ((by rw [hg]; exact Nat.ne_of_gt (blk_lt (pK BK946.out)) : gb952 ≠ gb946)); have n9_ := Aside0.mk ((by rw [hg]; exact Nat.ne_of_lt (blk_lt (pK BK947.out)) : gb947 ≠ gb952)); have n10_ := Aside0.mk ((by rw [hg]; exact Nat.ne_of_gt (blk_lt (pK BK947.out)) : gb952 ≠ gb947)); clear HO951; clear BK946; clear BK947; clear HB; have HO951 := n0_; have BK946 := n1_; have BK947 := n2_; have HB := n3_; have BK952 := n4_; have GW952 := n5_; have GE952 := n6_; have NB946_952 := n7_; have NB952_946 := n8_; have NB947_952 := n9_; have NB952_947 := n10_; clear n0_ n1_ n2_ n3_ n4_ n5_ n6_ n7_ n8_ n9_ n10_; clear hb hbox hg; have hnb15 := NB952_946.out; have hnc15 := NB946_952.out; have hnb16 := NB952_947.out; have hnc16 := NB947_952.out; have hcz17_0 : w14.cell? ⟨gb952, 0, none⟩ = some (.slice none 0 0) := (blk_cell BK952.out 0).trans rfl; have hcz17_1 : w14.cell? ⟨gb952, 1, none⟩ = some (.slice none 0 0) := (blk_cell BK952.out 1).trans rfl; have hfz17_0 := blk_frozen BK952.out 0; have hfz17_1 := blk_frozen BK952.out 1; have hcz18_0 : w14.cell? ⟨gb946, 0, none⟩ = some (.slice A0_0 l0_0.length c0_0) := (blk_cell BK946.out 0).trans rfl; have hcz18_1 : w14.cell? ⟨gb946, 1, none⟩ = some (.slice A0_1 l0_1.length c0_1) := (blk_cell BK946.out 1).trans rfl; have hfz18_0 := blk_frozen BK946.out 0; have hfz18_1 := blk_frozen BK946.out 1))
  go_loopg [19] k (fun kq v19 w' => ∃ (x19_1 : Int) (x953000_1 : List ByteArray) (u953000 : Value), v19 = .int .i64 x19_1 ∧ Aside0 (impl_SecCut.l0 kq l1 l0_1 (l0_1.length : Int) x19_1 x953000_1 = some (r1, r2)) ∧ Aside0 (kq ≤ k) ∧ Aside0 (Kd.R Kd.string 9 w' w.heap.size (fun _ => True) u953000 x953000_1) ∧ Aside0 (w'.heap[gb946]? = some (.cells #[(.slice A0_0 l0_0.length c0_0), (.slice A0_1 l0_1.length c0_1)] 31 (0, 0))) ∧ Aside0 (w'.heap[gb947]? = some (.cells #[(.slice none 0 0), (.slice none 0 0)] 31 (0, 0))) ∧ Aside0 (w'.heap[gb952]? = some (.cells #[u953000, (.slice none 0 0)] 31 (0, 0))) ∧ Aside0 (Below w.heap.size w w'))
  case atStart => exact ⟨(0), (t949), (.slice Ao13 t949.length co13), (by first | rfl | (simp; done) | (simp [*]; done)), H', ⟨Nat.le_refl _⟩, ⟨pR (Kd.R_mono (Kd.R_far (p := ⟨gb952, 1, none⟩) (Kd.R_far (p := ⟨gb952, 0, none⟩) (Kd.R_types HO951.out BK952.out (by decide)) (fun _ hk => hk.2) (.slice Ao13 t949.length co13)) (fun _ hk => hk.2) (.slice none 0 0)) (fun _ hk => trivial))⟩, ⟨by (with_reducible repeat (first | refine blk_drewN ?_ _ | refine blk_drew ?_ | refine blk_alloc ?_ _)); refine blk_far ?_ NB946_952.out _; (with_reducible repeat (first | refine blk_drewN ?_ _ | refine blk_drew ?_ | refine blk_alloc ?_ _)); refine blk_far ?_ NB946_952.out _; (with_reducible repeat (first | refine blk_drewN ?_ _ | refine blk_drew ?_ | refine blk_alloc ?_ _)); exact BK946.out⟩, ⟨by (with_reducible repeat (first | refine blk_drewN ?_ _ | refine blk_drew ?_ | refine blk_alloc ?_ _)); refine blk_far ?_ NB947_952.out _; (with_reducible repeat (first | refine blk_drewN ?_ _ | refine blk_drew ?_ | refine blk_alloc ?_ _)); refine blk_far ?_ NB947_952.out _; (with_reducible repeat (first | refine blk_drewN ?_ _ | refine blk_drew ?_ | refine blk_alloc ?_ _)); exact BK947.out⟩, ⟨by (with_reducible repeat (first | refine blk_drewN ?_ _ | refine blk_drew ?_ | refine blk_alloc ?_ _)); refine blk_put (cs := #[.slice Ao13 t949.length co13, .slice none 0 0]) ?_ 1 _ rfl; (with_reducible repeat (first | refine blk_drewN ?_ _ | refine blk_drew ?_ | refine blk_alloc ?_ _)); refine blk_put (cs := #[.slice none 0 0, .slice none 0 0]) ?_ 0 _ rfl; (with_reducible repeat (first | refine blk_drewN ?_ _ | refine blk_drew ?_ | refine blk_alloc ?_ _)); exact BK952.out⟩, ⟨pS HB.out⟩⟩
  case round =>
   clear H'
   try clear c1
   try clear p2
   try clear c4
   try clear c5
   try clear c6
   try clear c8
   try clear c15
   try clear c16
   try clear hcz11_0
   try clear hcz11_1
   try clear hcz17_0
   try clear hcz17_1
   try clear hcz18_0
   try clear hcz18_1
   try clear hcz9_0
   try clear hcz9_1
   try clear hfz11_0
   try clear hfz11_1
   try clear hfz17_0
   try clear hfz17_1
   try clear hfz18_0
   try clear hfz18_1
   try clear hfz9_0
   try clear hfz9_1
   obtain ⟨x19_1, x953000_1, u953000, rfl, HA, HK1, HO_953000, BK946, BK947, BK952, HB⟩ := hrel
   cases gk with
   | zero => exact absurd HA.out (by simp [impl_SecCut.l0])
   | succ k1 =>
    have H := HA.out
    clear HA
    simp only [impl_SecCut.l0] at H
    by_cases c19 : x19_1 < (l0_1.length : Int)
    ·rw [if_pos c19] at H
     have c19b0 : decide (x19_1 < (l0_1.length : Int)) = true := decide_eq_true c19
     clear c19
     by_cases c20 : 0 ≤ x19_1
     ·rw [if_pos c20] at H
      have c20b0 : decide (0 ≤ x19_1) = true := decide_eq_true c20
      clear c20
      by_cases c21 : x19_1 < (l0_1.length : Int)
      ·rw [if_pos c21] at H
       have c21b0 : decide (x19_1 < (l0_1.length : Int)) = true := decide_eq_true c21
       clear c21
       by_cases c22 : x19_1 < (l1.length : Int)
       ·rw [if_pos c22] at H
        have c22b0 : decide (x19_1 < (l1.length : Int)) = true := decide_eq_true c22
        clear c22
        by_cases c23 : (rd l1 x19_1) = 0
        ·rw [if_pos c23] at H
         have c23b0 : ((rd l1 x19_1) == 0) = true := beq_iff_eq.mpr c23
         have c23b1 : ((rd l1 x19_1) != 0) = false := bne_eq_false_iff_eq.mpr c23
         clear c23
         have H' := Aside0.mk H
         clear H
         have p953 : 0 ≤ (x19_1 : Int) := of_decide_eq_true bA
         have q953 : x19_1 < (l0_1.length : Int) := of_decide_eq_true bA
         obtain ⟨ad953, e953, hx953_0, hx953_1⟩ := at_T75 HR0_1.out x19_1 p953 q953
         cases e953
         replace hx953_0 := (HB.out.cell (World.block_lt_of_cell? w _ hx953_0)).trans hx953_0
         replace hx953_1 := (HB.out.cell (World.block_lt_of_cell? w _ hx953_1)).trans hx953_1
         replace p953 := eq_true p953
         replace q953 := eq_true q953
         go_wp2_with (first | ((with_reducible refine gate_dst (N := 7) rfl ?_); refine box_event ?hg (N := 7) ?hd (cs := #[.int .i64 0, .string (⟨#[]⟩ : ByteArray)]) (t := 75) ?hr ?_; (case hd => rfl); (case hg => rfl); (case hr => first | (go_simp; done) | (go_simp; rfl)); intro gb954 hg w24 hbox hb; have n0_ := Aside0.mk (Kd.R_below (pR HO_953000.out) hb); have n1_ := Aside0.mk (blk_below (pK BK946.out) hb); have n2_ := Aside0.mk (blk_below (pK BK947.out) hb); have n3_ := Aside0.mk (blk_below (pK BK952.out) hb); have n4_ := Aside0.mk (below_step (pS HB.out) hb); have n5_ := Aside0.mk (hbox); have n6_ := Aside0.mk ((by rw [hg]; exact (below_size (pS HB.out)) : w.heap.size ≤ gb954)); have n7_ := Aside0.mk ((by rw [hg]; exact (below_size (pS HB.out)) : w.heap.size ≤ gb954)); have n8_ := Aside0.mk ((by rw [hg]; exact Nat.ne_of_lt (blk_lt (pK BK946.out)) : gb946 ≠ gb954)); have n9_ := Aside0.mk ((by rw [hg]; exact Nat.ne_of_gt (blk_lt (pK BK946.out)) : gb954 ≠ gb946)); have n10_ := Aside0.mk ((by rw [hg]; exact Nat.ne_of_lt (blk_lt (pK BK947.out)) : gb947 ≠ gb954)); have n11_ := Aside0.mk ((by rw [hg]; exact Nat.ne_of_gt (blk_lt (pK BK947.out)) : gb954 ≠ gb947)); have n12_ := Aside0.mk ((by rw [hg]; exact Nat.ne_of_lt (blk_lt (pK BK952.out)) : gb952 ≠ gb954)); have n13_ := Aside0.mk ((by rw [hg]; exact Nat.ne_of_gt (blk_lt (pK BK952.out)) : gb954 ≠ gb952)); clear HO_953000; clear BK946; clear BK947; clear BK952; clear HB; have HO_953000 := n0_; have BK946 := n1_; have BK947 := n2_; have BK952 := n3_; have HB := n4_; have BK954 := n5_; have GW954 := n6_; have GE954 := n7_; have NB946_954 := n8_; have NB954_946 := n9_; have NB947_954 := n10_; have NB954_947 := n11_; have NB952_954 := n12_; have NB954_952 := n13_; clear n0_ n1_ n2_ n3_ n4_ n5_ n6_ n7_ n8_ n9_ n10_ n11_ n12_ n13_; clear hb hbox hg; have hnb25 := NB954_946.out; have hnc25 := NB946_954.out; have hnb26 := NB954_947.out; have hnc26 := NB947_954.out; have hnb27 := NB954_952.out; have hnc27 := NB952_954.out; have hcz28_0 : w24.cell? ⟨gb954, 0, none⟩ = some (.int .i64 0) := (blk_cell BK954.out 0).trans rfl; have hcz28_1 : w24.cell? ⟨gb954, 1, none⟩ = some (.string (⟨#[]⟩ : ByteArray)) := (blk_cell BK954.out 1).trans rfl; have hfz28_0 := blk_frozen BK954.out 0; have hfz28_1 := blk_frozen BK954.out 1; have p955 : 0 ≤ (x19_1 : Int) := of_decide_eq_true bA; have q955 : x19_1 < (l1.length : Int) := of_decide_eq_true bA; obtain ⟨ad955, e955, hx955_0⟩ := Kd.at_int HR1.out x19_1 p955 q955; cases e955; have hn955_0 : ad955.block ≠ gb954 := Nat.ne_of_lt (Nat.lt_of_lt_of_le (by have := World.block_lt_of_cell? _ _ hx955_0; first | rwa [add_block] at this | exact this) GW954.out); have hn955_1 : ad955.block ≠ gb954 := Nat.ne_of_lt (Nat.lt_of_lt_of_le (by have := World.block_lt_of_cell? _ _ hx955_0; first | rwa [add_block] at this | exact this) GW954.out); replace hx955_0 := (HB.out.cell (World.block_lt_of_cell? w _ hx955_0)).trans hx955_0; replace hx955_0 := (cell_far (p := ⟨gb954, 0, none⟩) (by first | (rw [add_block]; exact hn955_0) | (show (Addr.add _ _).block ≠ _; rw [add_block]; exact hn955_0) | exact hn955_0) (.int .i64 ((rd_T75 l0_1 x19_1).f0))).trans hx955_0; replace hx955_0 := (cell_far (p := ⟨gb954, 1, none⟩) (by first | (rw [add_block]; exact hn955_1) | (show (Addr.add _ _).block ≠ _; rw [add_block]; exact hn955_1) | exact hn955_1) (.string ((rd_T75 l0_1 x19_1).f1))).trans hx955_0; clear hn955_0; clear hn955_1; replace p955 := eq_true p955; replace q955 := eq_true q955))
         go_roundg k1
         case measure => have := HK1.out; omega
         case rel => exact ⟨(wrap64 (x19_1 + 1)), (x953000_1), (u953000), (by first | rfl | (simp; done) | (simp [*]; done)), H', ⟨by have := HK1.out; omega⟩, ⟨pR (Kd.R_mono (Kd.R_far (p := ⟨gb954, 1, none⟩) (Kd.R_far (p := ⟨gb954, 0, none⟩) (Kd.R_types HO_953000.out BK954.out (by decide)) (fun _ hk => hk.2) (.int .i64 ((rd_T75 l0_1 x19_1).f0))) (fun _ hk => hk.2) (.string ((rd_T75 l0_1 x19_1).f1))) (fun _ hk => trivial))⟩, ⟨by (with_reducible repeat (first | refine blk_drewN ?_ _ | refine blk_drew ?_ | refine blk_alloc ?_ _)); refine blk_far ?_ NB946_954.out _; (with_reducible repeat (first | refine blk_drewN ?_ _ | refine blk_drew ?_ | refine blk_alloc ?_ _)); refine blk_far ?_ NB946_954.out _; (with_reducible repeat (first | refine blk_drewN ?_ _ | refine blk_drew ?_ | refine blk_alloc ?_ _)); exact BK946.out⟩, ⟨by (with_reducible repeat (first | refine blk_drewN ?_ _ | refine blk_drew ?_ | refine blk_alloc ?_ _)); refine blk_far ?_ NB947_954.out _; (with_reducible repeat (first | refine blk_drewN ?_ _ | refine blk_drew ?_ | refine blk_alloc ?_ _)); refine blk_far ?_ NB947_954.out _; (with_reducible repeat (first | refine blk_drewN ?_ _ | refine blk_drew ?_ | refine blk_alloc ?_ _)); exact BK947.out⟩, ⟨by (with_reducible repeat (first | refine blk_drewN ?_ _ | refine blk_drew ?_ | refine blk_alloc ?_ _)); refine blk_far ?_ NB952_954.out _; (with_reducible repeat (first | refine blk_drewN ?_ _ | refine blk_drew ?_ | refine blk_alloc ?_ _)); refine blk_far ?_ NB952_954.out _; (with_reducible repeat (first | refine blk_drewN ?_ _ | refine blk_drew ?_ | refine blk_alloc ?_ _)); exact BK952.out⟩, ⟨pS HB.out⟩⟩
        ·rw [if_neg c23] at H
         have c23b0 : ((rd l1 x19_1) == 0) = false := beq_eq_false_iff_ne.mpr c23
         have c23b1 : ((rd l1 x19_1) != 0) = true := bne_iff_ne.mpr c23
         by_cases c29 : 0 ≤ ((rd_T75 l0_1 x19_1).f0)
         ·rw [if_pos c29] at H
          have c29b0 : decide (0 ≤ ((rd_T75 l0_1 x19_1).f0)) = true := decide_eq_true c29
          clear c29
          by_cases c30 : ((rd_T75 l0_1 x19_1).f0) < (x953000_1.length : Int)
          ·rw [if_pos c30] at H
           have c30b0 : decide (((rd_T75 l0_1 x19_1).f0) < (x953000_1.length : Int)) = true := decide_eq_true c30
           clear c30
           obtain ⟨y956, hy956⟩ : ∃ y_ : List ByteArray, y_ = (x953000_1.set (((rd_T75 l0_1 x19_1).f0) : Int).toNat ((rd_T75 l0_1 x19_1).f1)) := ⟨_, rfl⟩
           replace H : (impl_SecCut.l0 k1 l1 l0_1 (l0_1.length : Int) (wrap64 (x19_1 + 1)) y956) = some (r1, r2) := by first | (rw [hy956]; with_reducible exact H) | (have H2_ := (Option.bind_some _ _).symm.trans H; rw [hy956]; with_reducible exact H2_) | (have H2_ := (Option.bind_some _ _).symm.trans H; with_reducible exact H2_) | with_reducible exact H | (rw [hy956]; exact H) | exact H
           have Ny956 := Aside0.mk hy956
           clear hy956
           have H' := Aside0.mk H
           clear H
           have p953 : 0 ≤ (x19_1 : Int) := of_decide_eq_true bA
           have q953 : x19_1 < (l0_1.length : Int) := of_decide_eq_true bA
           obtain ⟨ad953, e953, hx953_0, hx953_1⟩ := at_T75 HR0_1.out x19_1 p953 q953
           cases e953
           replace hx953_0 := (HB.out.cell (World.block_lt_of_cell? w _ hx953_0)).trans hx953_0
           replace hx953_1 := (HB.out.cell (World.block_lt_of_cell? w _ hx953_1)).trans hx953_1
           replace p953 := eq_true p953
           replace q953 := eq_true q953
           go_wp2_with (first | ((with_reducible refine gate_dst (N := 7) rfl ?_); refine box_event ?hg (N := 7) ?hd (cs := #[.int .i64 0, .string (⟨#[]⟩ : ByteArray)]) (t := 75) ?hr ?_; (case hd => rfl); (case hg => rfl); (case hr => first | (go_simp; done) | (go_simp; rfl)); intro gb954 hg w32 hbox hb; have n0_ := Aside0.mk (Kd.R_below (pR HO_953000.out) hb); have n1_ := Aside0.mk (blk_below (pK BK946.out) hb); have n2_ := Aside0.mk (blk_below (pK BK947.out) hb); have n3_ := Aside0.mk (blk_below (pK BK952.out) hb); have n4_ := Aside0.mk (below_step (pS HB.out) hb); have n5_ := Aside0.mk (hbox); have n6_ := Aside0.mk ((by rw [hg]; exact (below_size (pS HB.out)) : w.heap.size ≤ gb954)); have n7_ := Aside0.mk ((by rw [hg]; exact (below_size (pS HB.out)) : w.heap.size ≤ gb954)); have n8_ := Aside0.mk ((by rw [hg]; exact Nat.ne_of_lt (blk_lt (pK BK946.out)) : gb946 ≠ gb954)); have n9_ := Aside0.mk ((by rw [hg]; exact Nat.ne_of_gt (blk_lt (pK BK946.out)) : gb954 ≠ gb946)); have n10_ := Aside0.mk ((by rw [hg]; exact Nat.ne_of_lt (blk_lt (pK BK947.out)) : gb947 ≠ gb954)); have n11_ := Aside0.mk ((by rw [hg]; exact Nat.ne_of_gt (blk_lt (pK BK947.out)) : gb954 ≠ gb947)); have n12_ := Aside0.mk ((by rw [hg]; exact Nat.ne_of_lt (blk_lt (pK BK952.out)) : gb952 ≠ gb954)); have n13_ := Aside0.mk ((by rw [hg]; exact Nat.ne_of_gt (blk_lt (pK BK952.out)) : gb954 ≠ gb952)); clear HO_953000; clear BK946; clear BK947; clear BK952; clear HB; have HO_953000 := n0_; have BK946 := n1_; have BK947 := n2_; have BK952 := n3_; have HB := n4_; have BK954 := n5_; have GW954 := n6_; have GE954 := n7_; have NB946_954 := n8_; have NB954_946 := n9_; have NB947_954 := n10_; have NB954_947 := n11_; have NB952_954 := n12_; have NB954_952 := n13_; clear n0_ n1_ n2_ n3_ n4_ n5_ n6_ n7_ n8_ n9_ n10_ n11_ n12_ n13_; clear hb hbox hg; have hnb33 := NB954_946.out; have hnc33 := NB946_954.out; have hnb34 := NB954_947.out; have hnc34 := NB947_954.out; have hnb35 := NB954_952.out; have hnc35 := NB952_954.out; have hcz36_0 : w32.cell? ⟨gb954, 0, none⟩ = some (.int .i64 0) := (blk_cell BK954.out 0).trans rfl; have hcz36_1 : w32.cell? ⟨gb954, 1, none⟩ = some (.string (⟨#[]⟩ : ByteArray)) := (blk_cell BK954.out 1).trans rfl; have hfz36_0 := blk_frozen BK954.out 0; have hfz36_1 := blk_frozen BK954.out 1) | ((with_reducible refine gate_store (t := 75) (p := 7) rfl ?_); refine store_event (t := 75) (p := 7) (v := ?vo_w37) (w1 := ((w32.setCell ⟨gb954, 0, none⟩ (.int .i64 ((rd_T75 l0_1 x19_1).f0))).setCell ⟨gb954, 1, none⟩ (.string ((rd_T75 l0_1 x19_1).f1)))) ?hg ?ho ?hn ?hr ?_; (case ho => rfl); (case hg => rfl); (case hn => rfl); (case hr => first | (go_simp; done) | (go_simp; rfl)); intro w37 hw; have n0_ : Aside0 (Kd.R Kd.string 9 w37 w.heap.size (fun _ => True) u953000 x953000_1) := ⟨(by rw [hw]; exact (pR (Kd.R_mono (Kd.R_far (p := ⟨gb954, 1, none⟩) (Kd.R_far (p := ⟨gb954, 0, none⟩) (Kd.R_types HO_953000.out BK954.out (by decide)) (fun _ hk => hk.2) (.int .i64 ((rd_T75 l0_1 x19_1).f0))) (fun _ hk => hk.2) (.string ((rd_T75 l0_1 x19_1).f1))) (fun _ hk => trivial))))⟩; have n1_ : Aside0 (w37.heap[gb946]? = some (.cells #[.slice A0_0 l0_0.length c0_0, .slice (some ad953) l0_1.length c0_1] 31 (0, 0))) := ⟨(by rw [hw]; exact (by (with_reducible repeat (first | refine blk_drewN ?_ _ | refine blk_drew ?_ | refine blk_alloc ?_ _)); refine blk_far ?_ NB946_954.out _; (with_reducible repeat (first | refine blk_drewN ?_ _ | refine blk_drew ?_ | refine blk_alloc ?_ _)); refine blk_far ?_ NB946_954.out _; (with_reducible repeat (first | refine blk_drewN ?_ _ | refine blk_drew ?_ | refine blk_alloc ?_ _)); exact BK946.out))⟩; have n2_ : Aside0 (w37.heap[gb947]? = some (.cells #[.slice none 0 0, .slice none 0 0] 31 (0, 0))) := ⟨(by rw [hw]; exact (by (with_reducible repeat (first | refine blk_drewN ?_ _ | refine blk_drew ?_ | refine blk_alloc ?_ _)); refine blk_far ?_ NB947_954.out _; (with_reducible repeat (first | refine blk_drewN ?_ _ | refine blk_drew ?_ | refine blk_alloc ?_ _)); refine blk_far ?_ NB947_954.out _; (with_reducible repeat (first | refine blk_drewN ?_ _ | refine blk_drew ?_ | refine blk_alloc ?_ _)); exact BK947.out))⟩; have n3_ : Aside0 (w37.heap[gb952]? = some (.cells #[u953000, .slice none 0 0] 31 (0, 0))) := ⟨(by rw [hw]; exact (by (with_reducible repeat (first | refine blk_drewN ?_ _ | refine blk_drew ?_ | refine blk_alloc ?_ _)); refine blk_far ?_ NB952_954.out _; (with_reducible repeat (first | refine blk_drewN ?_ _ | refine blk_drew ?_ | refine blk_alloc ?_ _)); refine blk_far ?_ NB952_954.out _; (with_reducible repeat (first | refine blk_drewN ?_ _ | refine blk_drew ?_ | refine blk_alloc ?_ _)); exact BK952.out))⟩; have n4_ : Aside0 (w37.heap[gb954]? = some (.cells #[.int .i64 ((rd_T75 l0_1 x19_1).f0), .string ((rd_T75 l0_1 x19_1).f1)] 75 (0, 0))) := ⟨(by rw [hw]; exact (by (with_reducible repeat (first | refine blk_drewN ?_ _ | refine blk_drew ?_ | refine blk_alloc ?_ _)); refine blk_put (cs := #[.int .i64 ((rd_T75 l0_1 x19_1).f0), .string (⟨#[]⟩ : ByteArray)]) ?_ 1 _ rfl; (with_reducible repeat (first | refine blk_drewN ?_ _ | refine blk_drew ?_ | refine blk_alloc ?_ _)); refine blk_put (cs := #[.int .i64 0, .string (⟨#[]⟩ : ByteArray)]) ?_ 0 _ rfl; (with_reducible repeat (first | refine blk_drewN ?_ _ | refine blk_drew ?_ | refine blk_alloc ?_ _)); exact BK954.out))⟩; have n5_ : Aside0 (Below w.heap.size w w37) := ⟨(by rw [hw]; exact (pS HB.out))⟩; clear hw; clear HO_953000; clear BK946; clear BK947; clear BK952; clear BK954; clear HB; have HO_953000 := n0_; have BK946 := n1_; have BK947 := n2_; have BK952 := n3_; have BK954 := n4_; have HB := n5_; clear n0_ n1_ n2_ n3_ n4_ n5_; have p955 : 0 ≤ (x19_1 : Int) := of_decide_eq_true bA; have q955 : x19_1 < (l1.length : Int) := of_decide_eq_true bA; obtain ⟨ad955, e955, hx955_0⟩ := Kd.at_int HR1.out x19_1 p955 q955; cases e955; replace hx955_0 := (HB.out.cell (World.block_lt_of_cell? w _ hx955_0)).trans hx955_0; replace p955 := eq_true p955; replace q955 := eq_true q955; have hnb38 := NB952_946.out; have hnc38 := NB946_952.out; have hnb39 := NB952_947.out; have hnc39 := NB947_952.out; have hcz40_0 : w37.cell? ⟨gb952, 0, none⟩ = some (u953000) := (blk_cell BK952.out 0).trans rfl; have hcz40_1 : w37.cell? ⟨gb952, 1, none⟩ = some (.slice none 0 0) := (blk_cell BK952.out 1).trans rfl; have hfz40_0 := blk_frozen BK952.out 0; have hfz40_1 := blk_frozen BK952.out 1; have hcz41_0 : w37.cell? ⟨gb954, 0, none⟩ = some (.int .i64 ((rd_T75 l0_1 x19_1).f0)) := (blk_cell BK954.out 0).trans rfl; have hcz41_1 : w37.cell? ⟨gb954, 1, none⟩ = some (.string ((rd_T75 l0_1 x19_1).f1)) := (blk_cell BK954.out 1).trans rfl; have hfz41_0 := blk_frozen BK954.out 0; have hfz41_1 := blk_frozen BK954.out 1; have p31 : 0 ≤ (((rd_T75 l0_1 x19_1).f0) : Int) := of_decide_eq_true bA; have q31 : (((rd_T75 l0_1 x19_1).f0) : Int) < ((x953000_1.length : Int) : Int) := of_decide_eq_true bA; obtain ⟨go31, co31, eo31, gb31, gl31, cl31, HG31⟩ := Kd.R_form HO_953000.out (by omega); (first | cases eo31 | (injection eo31 with ea_ en_ ec_; (first | subst ea_ | (injection ea_ with ea_; subst ea_)); subst ec_; clear en_)); have GB31 := Aside0.mk gb31; have GG31 := Aside0.mk HG31; clear gb31 gl31 HG31; obtain ⟨hx31_0, hf31_0⟩ := Kd.R_celln (⟨#[]⟩ : ByteArray) HO_953000.out (((rd_T75 l0_1 x19_1).f0) : Int) p31 q31; replace p31 := eq_true p31; replace q31 := eq_true q31; obtain ⟨hy42_, hz42_⟩ := Kd.R_celln (⟨#[]⟩ : ByteArray) HO_953000.out (((rd_T75 l0_1 x19_1).f0) : Int) (of_decide_eq_true bA) (of_decide_eq_true bA); have HP42 := Kd.R_putg HO_953000.out (((rd_T75 l0_1 x19_1).f0) : Int) ((rd_T75 l0_1 x19_1).f1)) | ((with_reducible refine gate_store (t := 9) (p := 41) rfl ?_); refine store_event (t := 9) (p := 41) (v := ?vo_w43) (w1 := (w37.setCell ⟨go31, (((rd_T75 l0_1 x19_1).f0) : Int).toNat, none⟩ (.string ((rd_T75 l0_1 x19_1).f1)))) ?hg ?ho ?hn ?hr ?_; (case ho => rfl); (case hg => rfl); (case hn => rfl); (case hr => first | (go_simp; done) | (go_simp; rfl)); intro w43 hw; have hg : w37.grownBy w43 (some go31) := (by rw [hw]; exact HP42.2); have hp_ : Kd.R Kd.string 9 w43 w.heap.size (fun _ => True) (.slice (some ⟨go31, 0, none⟩) x953000_1.length co31) y956 := (by rw [hw, Ny956.out]; exact HP42.1); clear HP42; have n0_ := Aside0.mk (hp_); have n1_ := Aside0.mk (blk_grown (g := gb946) (o := .cells #[.slice A0_0 l0_0.length c0_0, .slice (some ad953) l0_1.length c0_1] 31 (0, 0)) (pK BK946.out) hg (Kd.R_ne HO_953000.out BK946.out (by decide))); have n2_ := Aside0.mk (blk_grown (g := gb947) (o := .cells #[.slice none 0 0, .slice none 0 0] 31 (0, 0)) (pK BK947.out) hg (Kd.R_ne HO_953000.out BK947.out (by decide))); have n3_ := Aside0.mk (blk_grown (g := gb952) (o := .cells #[.slice (some ⟨go31, 0, none⟩) x953000_1.length co31, .slice none 0 0] 31 (0, 0)) (pK BK952.out) hg (Kd.R_ne HO_953000.out BK952.out (by decide))); have n4_ := Aside0.mk (blk_grown (g := gb954) (o := .cells #[.int .i64 ((rd_T75 l0_1 x19_1).f0), .string ((rd_T75 l0_1 x19_1).f1)] 75 (0, 0)) (pK BK954.out) hg (Kd.R_ne HO_953000.out BK954.out (by decide))); have n5_ := Aside0.mk ((by rw [hw]; exact below_set (HB.out) GB31.out : Below w.heap.size w w43)); clear HO_953000; clear BK946; clear BK947; clear BK952; clear BK954; clear HB; have HO_953000 := n0_; have BK946 := n1_; have BK947 := n2_; have BK952 := n3_; have BK954 := n4_; have HB := n5_; clear n0_ n1_ n2_ n3_ n4_ n5_; clear hg hw hp_))
           go_roundg k1
           case measure => have := HK1.out; omega
           case rel => exact ⟨(wrap64 (x19_1 + 1)), (y956), (.slice (some ⟨go31, 0, none⟩) x953000_1.length co31), (by first | rfl | (simp; done) | (simp [*]; done)), H', ⟨by have := HK1.out; omega⟩, ⟨pR HO_953000.out⟩, ⟨pK BK946.out⟩, ⟨pK BK947.out⟩, ⟨pK BK952.out⟩, ⟨pS HB.out⟩⟩
          ·rw [if_neg c30] at H
           exact absurd H (by simp)
         ·rw [if_neg c29] at H
          exact absurd H (by simp)
       ·rw [if_neg c22] at H
        have c22b0 : decide (x19_1 < (l1.length : Int)) = false := decide_eq_false c22
        clear c22
        have H' := Aside0.mk H
        clear H
        have p953 : 0 ≤ (x19_1 : Int) := of_decide_eq_true bA
        have q953 : x19_1 < (l0_1.length : Int) := of_decide_eq_true bA
        obtain ⟨ad953, e953, hx953_0, hx953_1⟩ := at_T75 HR0_1.out x19_1 p953 q953
        cases e953
        replace hx953_0 := (HB.out.cell (World.block_lt_of_cell? w _ hx953_0)).trans hx953_0
        replace hx953_1 := (HB.out.cell (World.block_lt_of_cell? w _ hx953_1)).trans hx953_1
        replace p953 := eq_true p953
        replace q953 := eq_true q953
        go_wp2_with (first | ((with_reducible refine gate_dst (N := 7) rfl ?_); refine box_event ?hg (N := 7) ?hd (cs := #[.int .i64 0, .string (⟨#[]⟩ : ByteArray)]) (t := 75) ?hr ?_; (case hd => rfl); (case hg => rfl); (case hr => first | (go_simp; done) | (go_simp; rfl)); intro gb954 hg w44 hbox hb; have n0_ := Aside0.mk (Kd.R_below (pR HO_953000.out) hb); have n1_ := Aside0.mk (blk_below (pK BK946.out) hb); have n2_ := Aside0.mk (blk_below (pK BK947.out) hb); have n3_ := Aside0.mk (blk_below (pK BK952.out) hb); have n4_ := Aside0.mk (below_step (pS HB.out) hb); have n5_ := Aside0.mk (hbox); have n6_ := Aside0.mk ((by rw [hg]; exact (below_size (pS HB.out)) : w.heap.size ≤ gb954)); have n7_ := Aside0.mk ((by rw [hg]; exact (below_size (pS HB.out)) : w.heap.size ≤ gb954)); have n8_ := Aside0.mk ((by rw [hg]; exact Nat.ne_of_lt (blk_lt (pK BK946.out)) : gb946 ≠ gb954)); have n9_ := Aside0.mk ((by rw [hg]; exact Nat.ne_of_gt (blk_lt (pK BK946.out)) : gb954 ≠ gb946)); have n10_ := Aside0.mk ((by rw [hg]; exact Nat.ne_of_lt (blk_lt (pK BK947.out)) : gb947 ≠ gb954)); have n11_ := Aside0.mk ((by rw [hg]; exact Nat.ne_of_gt (blk_lt (pK BK947.out)) : gb954 ≠ gb947)); have n12_ := Aside0.mk ((by rw [hg]; exact Nat.ne_of_lt (blk_lt (pK BK952.out)) : gb952 ≠ gb954)); have n13_ := Aside0.mk ((by rw [hg]; exact Nat.ne_of_gt (blk_lt (pK BK952.out)) : gb954 ≠ gb952)); clear HO_953000; clear BK946; clear BK947; clear BK952; clear HB; have HO_953000 := n0_; have BK946 := n1_; have BK947 := n2_; have BK952 := n3_; have HB := n4_; have BK954 := n5_; have GW954 := n6_; have GE954 := n7_; have NB946_954 := n8_; have NB954_946 := n9_; have NB947_954 := n10_; have NB954_947 := n11_; have NB952_954 := n12_; have NB954_952 := n13_; clear n0_ n1_ n2_ n3_ n4_ n5_ n6_ n7_ n8_ n9_ n10_ n11_ n12_ n13_; clear hb hbox hg; have hnb45 := NB954_946.out; have hnc45 := NB946_954.out; have hnb46 := NB954_947.out; have hnc46 := NB947_954.out; have hnb47 := NB954_952.out; have hnc47 := NB952_954.out; have hcz48_0 : w44.cell? ⟨gb954, 0, none⟩ = some (.int .i64 0) := (blk_cell BK954.out 0).trans rfl; have hcz48_1 : w44.cell? ⟨gb954, 1, none⟩ = some (.string (⟨#[]⟩ : ByteArray)) := (blk_cell BK954.out 1).trans rfl; have hfz48_0 := blk_frozen BK954.out 0; have hfz48_1 := blk_frozen BK954.out 1))
        go_roundg k1
        case measure => have := HK1.out; omega
        case rel => exact ⟨(wrap64 (x19_1 + 1)), (x953000_1), (u953000), (by first | rfl | (simp; done) | (simp [*]; done)), H', ⟨by have := HK1.out; omega⟩, ⟨pR (Kd.R_mono (Kd.R_far (p := ⟨gb954, 1, none⟩) (Kd.R_far (p := ⟨gb954, 0, none⟩) (Kd.R_types HO_953000.out BK954.out (by decide)) (fun _ hk => hk.2) (.int .i64 ((rd_T75 l0_1 x19_1).f0))) (fun _ hk => hk.2) (.string ((rd_T75 l0_1 x19_1).f1))) (fun _ hk => trivial))⟩, ⟨by (with_reducible repeat (first | refine blk_drewN ?_ _ | refine blk_drew ?_ | refine blk_alloc ?_ _)); refine blk_far ?_ NB946_954.out _; (with_reducible repeat (first | refine blk_drewN ?_ _ | refine blk_drew ?_ | refine blk_alloc ?_ _)); refine blk_far ?_ NB946_954.out _; (with_reducible repeat (first | refine blk_drewN ?_ _ | refine blk_drew ?_ | refine blk_alloc ?_ _)); exact BK946.out⟩, ⟨by (with_reducible repeat (first | refine blk_drewN ?_ _ | refine blk_drew ?_ | refine blk_alloc ?_ _)); refine blk_far ?_ NB947_954.out _; (with_reducible repeat (first | refine blk_drewN ?_ _ | refine blk_drew ?_ | refine blk_alloc ?_ _)); refine blk_far ?_ NB947_954.out _; (with_reducible repeat (first | refine blk_drewN ?_ _ | refine blk_drew ?_ | refine blk_alloc ?_ _)); exact BK947.out⟩, ⟨by (with_reducible repeat (first | refine blk_drewN ?_ _ | refine blk_drew ?_ | refine blk_alloc ?_ _)); refine blk_far ?_ NB952_954.out _; (with_reducible repeat (first | refine blk_drewN ?_ _ | refine blk_drew ?_ | refine blk_alloc ?_ _)); refine blk_far ?_ NB952_954.out _; (with_reducible repeat (first | refine blk_drewN ?_ _ | refine blk_drew ?_ | refine blk_alloc ?_ _)); exact BK952.out⟩, ⟨pS HB.out⟩⟩
      ·rw [if_neg c21] at H
       exact absurd H (by simp)
     ·rw [if_neg c20] at H
      exact absurd H (by simp)
    ·rw [if_neg c19] at H
     have c19b0 : decide (x19_1 < (l0_1.length : Int)) = false := decide_eq_false c19
     clear c19
     simp only [Option.some.injEq, Prod.mk.injEq] at H
     obtain ⟨rfl, rfl⟩ := H
     have hnb49 := NB952_946.out
     have hnc49 := NB946_952.out
     have hnb50 := NB952_947.out
     have hnc50 := NB947_952.out
     have hcz51_0 : wr.cell? ⟨gb952, 0, none⟩ = some (u953000) := (blk_cell BK952.out 0).trans rfl
     have hcz51_1 : wr.cell? ⟨gb952, 1, none⟩ = some (.slice none 0 0) := (blk_cell BK952.out 1).trans rfl
     have hfz51_0 := blk_frozen BK952.out 0
     have hfz51_1 := blk_frozen BK952.out 1
     obtain ⟨Ao52, co52, eo52⟩ := Kd.R_slice HO_953000.out
     subst eo52
     have hnb53 := NB947_946.out
     have hnc53 := NB946_947.out
     have hcz54_0 : wr.cell? ⟨gb947, 0, none⟩ = some (.slice none 0 0) := (blk_cell BK947.out 0).trans rfl
     have hcz54_1 : wr.cell? ⟨gb947, 1, none⟩ = some (.slice none 0 0) := (blk_cell BK947.out 1).trans rfl
     have hfz54_0 := blk_frozen BK947.out 0
     have hfz54_1 := blk_frozen BK947.out 1
     go_wp2
     refine bodyPost_ret (results_cell_row rfl _ _ gb947 31 #[.slice Ao52 x953000_1.length co52, .slice none 0 0] (0, 0) _ rfl (by (with_reducible repeat (first | refine blk_drewN ?_ _ | refine blk_drew ?_ | refine blk_alloc ?_ _)); refine blk_put (cs := #[.slice Ao52 x953000_1.length co52, .slice none 0 0]) ?_ 1 _ rfl; (with_reducible repeat (first | refine blk_drewN ?_ _ | refine blk_drew ?_ | refine blk_alloc ?_ _)); refine blk_put (cs := #[.slice none 0 0, .slice none 0 0]) ?_ 0 _ rfl; (with_reducible repeat (first | refine blk_drewN ?_ _ | refine blk_drew ?_ | refine blk_alloc ?_ _)); exact BK947.out) Try.underlying31 rfl (by kernel_rfl)) rfl ?_
     exact ⟨_, _, by first | rfl | (simp [errW_none, errW_some] <;> rfl) | (simp [*, errW_none, errW_some] <;> rfl), pR (Kd.R_mono (Kd.R_far (p := ⟨gb947, 1, none⟩) (Kd.R_far (p := ⟨gb947, 0, none⟩) (Kd.R_types HO_953000.out BK947.out (by decide)) (fun _ hk => hk.2) (.slice Ao52 x953000_1.length co52)) (fun _ hk => hk.2) (.slice none 0 0)) (fun _ hk => trivial)), by first | exact Kd.R_nil _ _ _ _ _ | exact Kd.N_nil _ _ _ _ _ | exact Kd.V_nil _ _ _ _ _ | exact Kd.Q_nil _ _ _ _ _ | exact Kd.S_nil _ _ _ _ _, pS HB.out⟩
 ·replace c4 := Bool.eq_false_iff.mpr c4
  subst c4
  have H1 : (some (([] : List ByteArray), ([] : List (S75)))) = some (r1, r2) := by rw [if_neg (show ¬ (false = true) by decide)] at H; exact H
  clear H
  have H := H1
  clear H1
  simp only [Option.some.injEq, Prod.mk.injEq] at H
  obtain ⟨rfl, rfl⟩ := H
  go_enter Try.func66, Try.ntmps66
  go_wp2_with (first | ((with_reducible refine gate_dst (N := 2) rfl ?_); refine box_event ?hg (N := 2) ?hd (cs := #[.slice A0_0 l0_0.length c0_0, .slice A0_1 l0_1.length c0_1]) (t := 31) ?hr ?_; (case hd => rfl); (case hg => rfl); (case hr => first | (go_simp; done) | (go_simp; rfl)); intro gb946 hg w55 hbox hb; have n0_ := Aside0.mk (below_step (pB HB.out) hb); have n1_ := Aside0.mk (hbox); have n2_ := Aside0.mk ((by rw [hg]; exact (below_size (pB HB.out)) : w.heap.size ≤ gb946)); have n3_ := Aside0.mk ((by rw [hg]; exact (below_size (pB HB.out)) : w.heap.size ≤ gb946)); clear HB; have HB := n0_; have BK946 := n1_; have GW946 := n2_; have GE946 := n3_; clear n0_ n1_ n2_ n3_; clear hb hbox hg) | ((with_reducible refine gate_dst (N := 4) rfl ?_); refine box_event ?hg (N := 4) ?hd (cs := #[.slice none 0 0, .slice none 0 0]) (t := 31) ?hr ?_; (case hd => rfl); (case hg => rfl); (case hr => first | (go_simp; done) | (go_simp; rfl)); intro gb947 hg w56 hbox hb; have n0_ := Aside0.mk (blk_below (pK BK946.out) hb); have n1_ := Aside0.mk (below_step (pS HB.out) hb); have n2_ := Aside0.mk (hbox); have n3_ := Aside0.mk ((by rw [hg]; exact (below_size (pS HB.out)) : w.heap.size ≤ gb947)); have n4_ := Aside0.mk ((by rw [hg]; exact (below_size (pS HB.out)) : w.heap.size ≤ gb947)); have n5_ := Aside0.mk ((by rw [hg]; exact Nat.ne_of_lt (blk_lt (pK BK946.out)) : gb946 ≠ gb947)); have n6_ := Aside0.mk ((by rw [hg]; exact Nat.ne_of_gt (blk_lt (pK BK946.out)) : gb947 ≠ gb946)); clear BK946; clear HB; have BK946 := n0_; have HB := n1_; have BK947 := n2_; have GW947 := n3_; have GE947 := n4_; have NB946_947 := n5_; have NB947_946 := n6_; clear n0_ n1_ n2_ n3_ n4_ n5_ n6_; clear hb hbox hg; have hnb57 := NB946_947.out; have hnc57 := NB947_946.out; have hcz58_0 : w56.cell? ⟨gb946, 0, none⟩ = some (.slice A0_0 l0_0.length c0_0) := (blk_cell BK946.out 0).trans rfl; have hcz58_1 : w56.cell? ⟨gb946, 1, none⟩ = some (.slice A0_1 l0_1.length c0_1) := (blk_cell BK946.out 1).trans rfl; have hfz58_0 := blk_frozen BK946.out 0; have hfz58_1 := blk_frozen BK946.out 1) | ((with_reducible refine gate_callee (f := 63) rfl ?_); refine goesL_ (some 9) rfl rfl Try.func63 (by kernel_rfl) rfl #[.agg #[.slice A0_0 l0_0.length c0_0, .slice A0_1 l0_1.length c0_1]] rfl bM ?_; (with_reducible refine (impl_SecOk.calls k _ _ l0_0 _ _ l0_1 false _ ?side1 ?side2 ?side3 ?side4 A3.out).mono ?_); (case side1 => exact pC (Kd.C_below HR0_0.out HB.out)); (case side2 => exact HC0_0.out); (case side3 => exact pC (Kd.C_below HR0_1.out HB.out)); (case side4 => exact HC0_1.out); rintro e w59 ⟨rfl, hb⟩; refine ⟨_, rfl, ?_⟩; have n0_ := Aside0.mk (blk_below (pK BK946.out) hb); have n1_ := Aside0.mk (blk_below (pK BK947.out) hb); have n2_ := Aside0.mk (below_step (pS HB.out) hb); clear BK946; clear BK947; clear HB; have BK946 := n0_; have BK947 := n1_; have HB := n2_; clear n0_ n1_ n2_; (try clear hb); (try clear hb2); (try clear hk); (try clear hi); have hcz60_0 : w59.cell? ⟨gb947, 0, none⟩ = some (.slice none 0 0) := (blk_cell BK947.out 0).trans rfl; have hcz60_1 : w59.cell? ⟨gb947, 1, none⟩ = some (.slice none 0 0) := (blk_cell BK947.out 1).trans rfl; have hfz60_0 := blk_frozen BK947.out 0; have hfz60_1 := blk_frozen BK947.out 1))
  refine bodyPost_ret (results_cell_row rfl _ _ gb947 31 #[.slice none 0 0, .slice none 0 0] (0, 0) _ rfl (by (with_reducible repeat (first | refine blk_drewN ?_ _ | refine blk_drew ?_ | refine blk_alloc ?_ _)); refine blk_put (cs := #[.slice none 0 0, .slice none 0 0]) ?_ 1 _ rfl; (with_reducible repeat (first | refine blk_drewN ?_ _ | refine blk_drew ?_ | refine blk_alloc ?_ _)); refine blk_put (cs := #[.slice none 0 0, .slice none 0 0]) ?_ 0 _ rfl; (with_reducible repeat (first | refine blk_drewN ?_ _ | refine blk_drew ?_ | refine blk_alloc ?_ _)); exact BK947.out) Try.underlying31 rfl (by kernel_rfl)) rfl ?_
  exact ⟨_, _, by first | rfl | (simp [errW_none, errW_some] <;> rfl) | (simp [*, errW_none, errW_some] <;> rfl), by first | exact Kd.R_nil _ _ _ _ _ | exact Kd.N_nil _ _ _ _ _ | exact Kd.V_nil _ _ _ _ _ | exact Kd.Q_nil _ _ _ _ _ | exact Kd.S_nil _ _ _ _ _, by first | exact Kd.R_nil _ _ _ _ _ | exact Kd.N_nil _ _ _ _ _ | exact Kd.V_nil _ _ _ _ _ | exact Kd.Q_nil _ _ _ _ _ | exact Kd.S_nil _ _ _ _ _, pS HB.out⟩

/-! ### impl_WalDo: function 30 -/
mutual
def impl_WalDo.j0 : Nat → List (S61) → Bool → Int → List Int → Bool → List ByteArray → List (S75) → Option (List ByteArray × (List (S75)))
 | 0, _, _, _, _, _, _, _ => none
 | k + 1, x1, x2, x3, x4, x21, x958000, x958001 => if x21 = true then (some (([] : List ByteArray), ([] : List (S75)))) else ((impl_secCopy.f x958000 x958001).bind fun bt960 => (impl_WalDo.l0 k x2 x3 x4 x1 (x1.length : Int) 0 bt960.1 bt960.2))
def impl_WalDo.l0 : Nat → Bool → Int → List Int → List (S61) → Int → Int → List ByteArray → List (S75) → Option (List ByteArray × (List (S75)))
 | 0, _, _, _, _, _, _, _, _ => none
 | k + 1, x2, x3, x4, x25, x26, x27, x967000, x967001 => if x27 < x26 then (if 0 ≤ x27 then (if x27 < (x25.length : Int) then (if x2 = true then (impl_WalDo.j2 k x2 x3 x4 x25 x26 x27 (decide (x27 ≥ x3)) x967000 x967001 ((rd_T61 x25 x27).f0) ((rd_T61 x25 x27).f1) ((rd_T61 x25 x27).f2)) else (impl_WalDo.j2 k x2 x3 x4 x25 x26 x27 false x967000 x967001 ((rd_T61 x25 x27).f0) ((rd_T61 x25 x27).f1) ((rd_T61 x25 x27).f2))) else (none)) else (none)) else (if x2 = true then ((impl_SecCut.f k x967000 x967001 x4).bind fun bt967 => (some (bt967.1, bt967.2))) else (some (x967000, x967001)))
def impl_WalDo.j2 : Nat → Bool → Int → List Int → List (S61) → Int → Int → Bool → List ByteArray → List (S75) → Bool → Int → ByteArray → Option (List ByteArray × (List (S75)))
 | 0, _, _, _, _, _, _, _, _, _, _, _, _ => none
 | k + 1, x2, x3, x4, x25, x26, x27, x37, x967000, x967001, x975000, x975001, x975002 => if x37 = true then (if x2 = true then ((impl_SecCut.f k x967000 x967001 x4).bind fun bt975 => (some (bt975.1, bt975.2))) else (some (x967000, x967001))) else (if x975000 = true then ((impl_SecFlush.f k x967000 x967001).bind fun bt981 => (impl_WalDo.l0 k x2 x3 x4 x25 x26 (wrap64 (x27 + 1)) bt981.1 bt981.2)) else ((impl_SecPut.f k x967000 x967001 x975001 x975002).bind fun bt987 => (impl_WalDo.l0 k x2 x3 x4 x25 x26 (wrap64 (x27 + 1)) bt987.1 bt987.2.1)))
end
def impl_WalDo.f (k : Nat) (l0_0 : List ByteArray) (l0_1 : List (S75)) (l1 : List (S61)) (a2 : Bool) (a3 : Int) (l4 : List Int) : Option (List ByteArray × (List (S75))) := (impl_SecOk.f k l0_0 l0_1).bind fun t959 => (if t959 = true then (impl_WalDo.j0 k l1 a2 a3 l4 (decide ((l1.length : Int) > 600)) l0_0 l0_1) else (impl_WalDo.j0 k l1 a2 a3 l4 true l0_0 l0_1))
theorem impl_WalDo.mono_l : ∀ k, (∀ y0 y1 y2 y3 y4 y5 y6, LeO (impl_WalDo.j0 k y0 y1 y2 y3 y4 y5 y6) (impl_WalDo.j0 (k + 1) y0 y1 y2 y3 y4 y5 y6)) ∧ (∀ y0 y1 y2 y3 y4 y5 y6 y7, LeO (impl_WalDo.l0 k y0 y1 y2 y3 y4 y5 y6 y7) (impl_WalDo.l0 (k + 1) y0 y1 y2 y3 y4 y5 y6 y7)) ∧ (∀ y0 y1 y2 y3 y4 y5 y6 y7 y8 y9 y10 y11, LeO (impl_WalDo.j2 k y0 y1 y2 y3 y4 y5 y6 y7 y8 y9 y10 y11) (impl_WalDo.j2 (k + 1) y0 y1 y2 y3 y4 y5 y6 y7 y8 y9 y10 y11))
 | 0 => ⟨fun _ _ _ _ _ _ _ r h => by simp [impl_WalDo.j0] at h, fun _ _ _ _ _ _ _ _ r h => by simp [impl_WalDo.l0] at h, fun _ _ _ _ _ _ _ _ _ _ _ _ r h => by simp [impl_WalDo.j2] at h⟩
 | k + 1 => by
  obtain ⟨ih0, ih1, ih2⟩ := impl_WalDo.mono_l k
  refine ⟨?_, ?_, ?_⟩
  ·intro y0 y1 y2 y3 y4 y5 y6
   unfold impl_WalDo.j0
   repeat' first
   | (with_reducible exact ih0 _ _ _ _ _ _ _)
   | (with_reducible exact ih1 _ _ _ _ _ _ _ _)
   | (with_reducible exact ih2 _ _ _ _ _ _ _ _ _ _ _ _)
   | (with_reducible exact impl_SecCut.mono _ _ _ _)
   | (with_reducible exact impl_SecFlush.mono _ _ _)
   | (with_reducible exact impl_SecOk.mono _ _ _)
   | (with_reducible exact impl_SecPut.mono _ _ _ _ _)
   | (with_reducible exact LeO.refl _)
   | (with_reducible exact LeO.none _)
   | (with_reducible refine LeO.ite ?_ ?_)
   | (with_reducible refine LeO.bind ?_ (fun _ => ?_))
   | exact ih0 _ _ _ _ _ _ _
   | exact ih1 _ _ _ _ _ _ _ _
   | exact ih2 _ _ _ _ _ _ _ _ _ _ _ _
   | exact impl_SecCut.mono _ _ _ _
   | exact impl_SecFlush.mono _ _ _
   | exact impl_SecOk.mono _ _ _
   | exact impl_SecPut.mono _ _ _ _ _
   | exact LeO.none _
   | refine LeO.ite ?_ ?_
   | refine LeO.bind ?_ (fun _ => ?_)
  ·intro y0 y1 y2 y3 y4 y5 y6 y7
   unfold impl_WalDo.l0
   repeat' first
   | (with_reducible exact ih0 _ _ _ _ _ _ _)
   | (with_reducible exact ih1 _ _ _ _ _ _ _ _)
   | (with_reducible exact ih2 _ _ _ _ _ _ _ _ _ _ _ _)
   | (with_reducible exact impl_SecCut.mono _ _ _ _)
   | (with_reducible exact impl_SecFlush.mono _ _ _)
   | (with_reducible exact impl_SecOk.mono _ _ _)
   | (with_reducible exact impl_SecPut.mono _ _ _ _ _)
   | (with_reducible exact LeO.refl _)
   | (with_reducible exact LeO.none _)
   | (with_reducible refine LeO.ite ?_ ?_)
   | (with_reducible refine LeO.bind ?_ (fun _ => ?_))
   | exact ih0 _ _ _ _ _ _ _
   | exact ih1 _ _ _ _ _ _ _ _
   | exact ih2 _ _ _ _ _ _ _ _ _ _ _ _
   | exact impl_SecCut.mono _ _ _ _
   | exact impl_SecFlush.mono _ _ _
   | exact impl_SecOk.mono _ _ _
   | exact impl_SecPut.mono _ _ _ _ _
   | exact LeO.none _
   | refine LeO.ite ?_ ?_
   | refine LeO.bind ?_ (fun _ => ?_)
  ·intro y0 y1 y2 y3 y4 y5 y6 y7 y8 y9 y10 y11
   unfold impl_WalDo.j2
   repeat' first
   | (with_reducible exact ih0 _ _ _ _ _ _ _)
   | (with_reducible exact ih1 _ _ _ _ _ _ _ _)
   | (with_reducible exact ih2 _ _ _ _ _ _ _ _ _ _ _ _)
   | (with_reducible exact impl_SecCut.mono _ _ _ _)
   | (with_reducible exact impl_SecFlush.mono _ _ _)
   | (with_reducible exact impl_SecOk.mono _ _ _)
   | (with_reducible exact impl_SecPut.mono _ _ _ _ _)
   | (with_reducible exact LeO.refl _)
   | (with_reducible exact LeO.none _)
   | (with_reducible refine LeO.ite ?_ ?_)
   | (with_reducible refine LeO.bind ?_ (fun _ => ?_))
   | exact ih0 _ _ _ _ _ _ _
   | exact ih1 _ _ _ _ _ _ _ _
   | exact ih2 _ _ _ _ _ _ _ _ _ _ _ _
   | exact impl_SecCut.mono _ _ _ _
   | exact impl_SecFlush.mono _ _ _
   | exact impl_SecOk.mono _ _ _
   | exact impl_SecPut.mono _ _ _ _ _
   | exact LeO.none _
   | refine LeO.ite ?_ ?_
   | refine LeO.bind ?_ (fun _ => ?_)
theorem impl_WalDo.mono : ∀ a0 a1 a2 a3 a4 a5 k, LeO (impl_WalDo.f k a0 a1 a2 a3 a4 a5) (impl_WalDo.f (k + 1) a0 a1 a2 a3 a4 a5) := by
 intro a0 a1 a2 a3 a4 a5 k
 obtain ⟨ih0, ih1, ih2⟩ := impl_WalDo.mono_l k
 unfold impl_WalDo.f
 repeat' first
   | (with_reducible exact ih0 _ _ _ _ _ _ _)
   | (with_reducible exact ih1 _ _ _ _ _ _ _ _)
   | (with_reducible exact ih2 _ _ _ _ _ _ _ _ _ _ _ _)
   | (with_reducible exact impl_SecCut.mono _ _ _ _)
   | (with_reducible exact impl_SecFlush.mono _ _ _)
   | (with_reducible exact impl_SecOk.mono _ _ _)
   | (with_reducible exact impl_SecPut.mono _ _ _ _ _)
   | (with_reducible exact LeO.refl _)
   | (with_reducible exact LeO.none _)
   | (with_reducible refine LeO.ite ?_ ?_)
   | (with_reducible refine LeO.bind ?_ (fun _ => ?_))
   | exact ih0 _ _ _ _ _ _ _
   | exact ih1 _ _ _ _ _ _ _ _
   | exact ih2 _ _ _ _ _ _ _ _ _ _ _ _
   | exact impl_SecCut.mono _ _ _ _
   | exact impl_SecFlush.mono _ _ _
   | exact impl_SecOk.mono _ _ _
   | exact impl_SecPut.mono _ _ _ _ _
   | exact LeO.none _
   | refine LeO.ite ?_ ?_
   | refine LeO.bind ?_ (fun _ => ?_)
set_option maxHeartbeats 8000000 in
set_option maxRecDepth 100000 in
theorem impl_WalDo.calls (k : Nat) (A0_0 : Option Addr) (c0_0 : Nat) (l0_0 : List ByteArray) (A0_1 : Option Addr) (c0_1 : Nat) (l0_1 : List (S75)) (A1 : Option Addr) (c1 : Nat) (l1 : List (S61)) (a2 : Bool) (a3 : Int) (A4 : Option Addr) (c4 : Nat) (l4 : List Int) (r1 : List ByteArray) (r2 : List (S75)) (w : World) (hr0_0 : Kd.C Kd.string w A0_0 l0_0.length l0_0) (hc0_0 : l0_0.length ≤ c0_0) (hr0_1 : Kd.C k75 w A0_1 l0_1.length l0_1) (hc0_1 : l0_1.length ≤ c0_1) (hr1 : Kd.C k61 w A1 l1.length l1) (hc1 : l1.length ≤ c1) (hr4 : Kd.C (Kd.int .i64) w A4 l4.length l4) (hc4 : l4.length ≤ c4) (h : impl_WalDo.f k l0_0 l0_1 l1 a2 a3 l4 = some (r1, r2)) :
  Calls Try.prog 30 #[.agg #[.slice A0_0 l0_0.length c0_0, .slice A0_1 l0_1.length c0_1], .slice A1 l1.length c1, .bool a2, .int .i64 a3, .slice A4 l4.length c4] w fun e w' => ∃ v0_ v1_ : Value, e = .returned (.agg #[v0_, v1_]) ∧ Kd.R Kd.string 9 w' w.heap.size (fun _ => True) v0_ r1 ∧ Kd.R k75 75 w' w.heap.size (fun _ => True) v1_ r2 ∧ Below w.heap.size w w' := by
 have hu31 := Try.underlying31
 have hu61 := Try.underlying61
 have HR0_0 := Aside0.mk hr0_0
 have HC0_0 := Aside0.mk hc0_0
 clear hr0_0 hc0_0
 have HR0_1 := Aside0.mk hr0_1
 have HC0_1 := Aside0.mk hc0_1
 clear hr0_1 hc0_1
 have HR1 := Aside0.mk hr1
 have HC1 := Aside0.mk hc1
 clear hr1 hc1
 have HR4 := Aside0.mk hr4
 have HC4 := Aside0.mk hc4
 clear hr4 hc4
 have HB := Aside0.mk (Below.refl w.heap.size w)
 have H : ((impl_SecOk.f k l0_0 l0_1).bind fun t959 => (if t959 = true then (impl_WalDo.j0 k l1 a2 a3 l4 (decide ((l1.length : Int) > 600)) l0_0 l0_1) else (impl_WalDo.j0 k l1 a2 a3 l4 true l0_0 l0_1))) = some (r1, r2) := h
 clear h
 have HC6 := Aside0.mk H
 clear H
 go_enter Try.func30, Try.ntmps30
 go_upto_region 1 with (first | ((with_reducible refine gate_dst (N := 5) rfl ?_); (try (refine gate_guard (by rfl) ?_; dsimp only)); refine box_event ?hg (N := 5) ?hd (cs := #[.slice A0_0 l0_0.length c0_0, .slice A0_1 l0_1.length c0_1]) (t := 31) ?hr ?_; (case hd => rfl); (case hg => rfl); (case hr => first | (go_simp; done) | (go_simp; rfl)); intro gb957 hg w7 hbox hb; have n0_ := Aside0.mk (below_step (pB HB.out) hb); have n1_ := Aside0.mk (hbox); have n2_ := Aside0.mk ((by rw [hg]; exact (below_size (pB HB.out)) : w.heap.size ≤ gb957)); have n3_ := Aside0.mk ((by rw [hg]; exact (below_size (pB HB.out)) : w.heap.size ≤ gb957)); clear HB; have HB := n0_; have BK957 := n1_; have GW957 := n2_; have GE957 := n3_; clear n0_ n1_ n2_ n3_; clear hb hbox hg) | ((with_reducible refine gate_dst (N := 10) rfl ?_); (try (refine gate_guard (by rfl) ?_; dsimp only)); refine box_event ?hg (N := 10) ?hd (cs := #[.slice none 0 0, .slice none 0 0]) (t := 31) ?hr ?_; (case hd => rfl); (case hg => rfl); (case hr => first | (go_simp; done) | (go_simp; rfl)); intro gb958 hg w8 hbox hb; have n0_ := Aside0.mk (blk_below (pK BK957.out) hb); have n1_ := Aside0.mk (below_step (pS HB.out) hb); have n2_ := Aside0.mk (hbox); have n3_ := Aside0.mk ((by rw [hg]; exact (below_size (pS HB.out)) : w.heap.size ≤ gb958)); have n4_ := Aside0.mk ((by rw [hg]; exact (below_size (pS HB.out)) : w.heap.size ≤ gb958)); have n5_ := Aside0.mk ((by rw [hg]; exact Nat.ne_of_lt (blk_lt (pK BK957.out)) : gb957 ≠ gb958)); have n6_ := Aside0.mk ((by rw [hg]; exact Nat.ne_of_gt (blk_lt (pK BK957.out)) : gb958 ≠ gb957)); clear BK957; clear HB; have BK957 := n0_; have HB := n1_; have BK958 := n2_; have GW958 := n3_; have GE958 := n4_; have NB957_958 := n5_; have NB958_957 := n6_; clear n0_ n1_ n2_ n3_ n4_ n5_ n6_; clear hb hbox hg))
 (try simp only [Act.put, List.setIfInBounds_toArray, List.set_cons_zero, List.set_cons_succ])
 go_cut [21] (fun v21 wc => ∃ (kq : Nat) (x21_5 : Bool), v21 = .bool x21_5 ∧ Aside0 (impl_WalDo.j0 kq l1 a2 a3 l4 x21_5 l0_0 l0_1 = some (r1, r2)) ∧ Aside0 (kq ≤ k) ∧ Aside0 (wc.heap[gb957]? = some (.cells #[(.slice A0_0 l0_0.length c0_0), (.slice A0_1 l0_1.length c0_1)] 31 (0, 0))) ∧ Aside0 (wc.heap[gb958]? = some (.cells #[(.slice none 0 0), (.slice none 0 0)] 31 (0, 0))) ∧ Aside0 (Below w.heap.size w wc))
 case first =>
  have H := HC6.out
  clear HC6
  replace H := Option.bind_eq_some_iff.mp H
  obtain ⟨t959, A90, H⟩ := H
  replace H : (if t959 = true then (impl_WalDo.j0 k l1 a2 a3 l4 (decide ((l1.length : Int) > 600)) l0_0 l0_1) else (impl_WalDo.j0 k l1 a2 a3 l4 true l0_0 l0_1)) = some (r1, r2) := H
  have A9 := Aside0.mk A90
  clear A90
  by_cases c10 : t959 = true
  ·subst c10
   have H1 : (impl_WalDo.j0 k l1 a2 a3 l4 (decide ((l1.length : Int) > 600)) l0_0 l0_1) = some (r1, r2) := by rw [if_pos rfl] at H; exact H
   clear H
   have H := H1
   clear H1
   have H' := Aside0.mk H
   clear H
   have hnb11 := NB957_958.out
   have hnc11 := NB958_957.out
   have hcz12_0 : w8.cell? ⟨gb957, 0, none⟩ = some (.slice A0_0 l0_0.length c0_0) := (blk_cell BK957.out 0).trans rfl
   have hcz12_1 : w8.cell? ⟨gb957, 1, none⟩ = some (.slice A0_1 l0_1.length c0_1) := (blk_cell BK957.out 1).trans rfl
   have hfz12_0 := blk_frozen BK957.out 0
   have hfz12_1 := blk_frozen BK957.out 1
   go_wp2_with (first | ((with_reducible refine gate_callee (f := 63) rfl ?_); refine goesL_ (some 15) rfl rfl Try.func63 (by kernel_rfl) rfl #[.agg #[.slice A0_0 l0_0.length c0_0, .slice A0_1 l0_1.length c0_1]] rfl bM ?_; (with_reducible refine (impl_SecOk.calls k _ _ l0_0 _ _ l0_1 true _ ?side1 ?side2 ?side3 ?side4 A9.out).mono ?_); (case side1 => exact pC (Kd.C_below HR0_0.out HB.out)); (case side2 => exact HC0_0.out); (case side3 => exact pC (Kd.C_below HR0_1.out HB.out)); (case side4 => exact HC0_1.out); rintro e w13 ⟨rfl, hb⟩; refine ⟨_, rfl, ?_⟩; have n0_ := Aside0.mk (blk_below (pK BK957.out) hb); have n1_ := Aside0.mk (blk_below (pK BK958.out) hb); have n2_ := Aside0.mk (below_step (pS HB.out) hb); clear BK957; clear BK958; clear HB; have BK957 := n0_; have BK958 := n1_; have HB := n2_; clear n0_ n1_ n2_; (try clear hb); (try clear hb2); (try clear hk); (try clear hi)))
   go_meet
   case rel => exact ⟨_, (decide ((l1.length : Int) > 600)), (by first | rfl | (simp; done) | (simp [*]; done)), H', ⟨by first | omega | exact Nat.le_refl _⟩, ⟨pK BK957.out⟩, ⟨pK BK958.out⟩, ⟨pS HB.out⟩⟩
  ·replace c10 := Bool.eq_false_iff.mpr c10
   subst c10
   have H1 : (impl_WalDo.j0 k l1 a2 a3 l4 true l0_0 l0_1) = some (r1, r2) := by rw [if_neg (show ¬ (false = true) by decide)] at H; exact H
   clear H
   have H := H1
   clear H1
   have H' := Aside0.mk H
   clear H
   have hnb14 := NB957_958.out
   have hnc14 := NB958_957.out
   have hcz15_0 : w8.cell? ⟨gb957, 0, none⟩ = some (.slice A0_0 l0_0.length c0_0) := (blk_cell BK957.out 0).trans rfl
   have hcz15_1 : w8.cell? ⟨gb957, 1, none⟩ = some (.slice A0_1 l0_1.length c0_1) := (blk_cell BK957.out 1).trans rfl
   have hfz15_0 := blk_frozen BK957.out 0
   have hfz15_1 := blk_frozen BK957.out 1
   go_wp2_with (first | ((with_reducible refine gate_callee (f := 63) rfl ?_); refine goesL_ (some 15) rfl rfl Try.func63 (by kernel_rfl) rfl #[.agg #[.slice A0_0 l0_0.length c0_0, .slice A0_1 l0_1.length c0_1]] rfl bM ?_; (with_reducible refine (impl_SecOk.calls k _ _ l0_0 _ _ l0_1 false _ ?side1 ?side2 ?side3 ?side4 A9.out).mono ?_); (case side1 => exact pC (Kd.C_below HR0_0.out HB.out)); (case side2 => exact HC0_0.out); (case side3 => exact pC (Kd.C_below HR0_1.out HB.out)); (case side4 => exact HC0_1.out); rintro e w16 ⟨rfl, hb⟩; refine ⟨_, rfl, ?_⟩; have n0_ := Aside0.mk (blk_below (pK BK957.out) hb); have n1_ := Aside0.mk (blk_below (pK BK958.out) hb); have n2_ := Aside0.mk (below_step (pS HB.out) hb); clear BK957; clear BK958; clear HB; have BK957 := n0_; have BK958 := n1_; have HB := n2_; clear n0_ n1_ n2_; (try clear hb); (try clear hb2); (try clear hk); (try clear hi)))
   go_meet
   case rel => exact ⟨_, (true), (by first | rfl | (simp; done) | (simp [*]; done)), H', ⟨by first | omega | exact Nat.le_refl _⟩, ⟨pK BK957.out⟩, ⟨pK BK958.out⟩, ⟨pS HB.out⟩⟩
 case rest =>
  clear HC6
  try clear c1
  try clear p2
  try clear c3
  try clear c4
  try clear c6
  try clear c10
  try clear c11
  try clear c14
  try clear hcz12_0
  try clear hcz12_1
  try clear hcz15_0
  try clear hcz15_1
  try clear hfz12_0
  try clear hfz12_1
  try clear hfz15_0
  try clear hfz15_1
  obtain ⟨kq, x21_5, rfl, HA, HJ5, BK957, BK958, HB⟩ := hcut
  cases kq with
  | zero => exact absurd HA.out (by simp [impl_WalDo.j0])
  | succ kj5 =>
   have H := HA.out
   clear HA
   simp only [impl_WalDo.j0] at H
   by_cases c17 : x21_5 = true
   ·subst c17
    have H1 : (some (([] : List ByteArray), ([] : List (S75)))) = some (r1, r2) := by rw [if_pos rfl] at H; exact H
    clear H
    have H := H1
    clear H1
    simp only [Option.some.injEq, Prod.mk.injEq] at H
    obtain ⟨rfl, rfl⟩ := H
    have hnb18 := NB958_957.out
    have hnc18 := NB957_958.out
    have hcz19_0 : wc.cell? ⟨gb958, 0, none⟩ = some (.slice none 0 0) := (blk_cell BK958.out 0).trans rfl
    have hcz19_1 : wc.cell? ⟨gb958, 1, none⟩ = some (.slice none 0 0) := (blk_cell BK958.out 1).trans rfl
    have hfz19_0 := blk_frozen BK958.out 0
    have hfz19_1 := blk_frozen BK958.out 1
    go_wp2
    refine bodyPost_ret (results_cell_row rfl _ _ gb958 31 #[.slice none 0 0, .slice none 0 0] (0, 0) _ rfl (by (with_reducible repeat (first | refine blk_drewN ?_ _ | refine blk_drew ?_ | refine blk_alloc ?_ _)); refine blk_put (cs := #[.slice none 0 0, .slice none 0 0]) ?_ 1 _ rfl; (with_reducible repeat (first | refine blk_drewN ?_ _ | refine blk_drew ?_ | refine blk_alloc ?_ _)); refine blk_put (cs := #[.slice none 0 0, .slice none 0 0]) ?_ 0 _ rfl; (with_reducible repeat (first | refine blk_drewN ?_ _ | refine blk_drew ?_ | refine blk_alloc ?_ _)); exact BK958.out) Try.underlying31 rfl (by kernel_rfl)) rfl ?_
    exact ⟨_, _, by first | rfl | (simp [errW_none, errW_some] <;> rfl) | (simp [*, errW_none, errW_some] <;> rfl), by first | exact Kd.R_nil _ _ _ _ _ | exact Kd.N_nil _ _ _ _ _ | exact Kd.V_nil _ _ _ _ _ | exact Kd.Q_nil _ _ _ _ _ | exact Kd.S_nil _ _ _ _ _, by first | exact Kd.R_nil _ _ _ _ _ | exact Kd.N_nil _ _ _ _ _ | exact Kd.V_nil _ _ _ _ _ | exact Kd.Q_nil _ _ _ _ _ | exact Kd.S_nil _ _ _ _ _, pS HB.out⟩
   ·replace c17 := Bool.eq_false_iff.mpr c17
    subst c17
    have H1 : ((impl_secCopy.f l0_0 l0_1).bind fun bt960 => (impl_WalDo.l0 kj5 a2 a3 l4 l1 (l1.length : Int) 0 bt960.1 bt960.2)) = some (r1, r2) := by rw [if_neg (show ¬ (false = true) by decide)] at H; exact H
    clear H
    have H := H1
    clear H1
    replace H := Option.bind_eq_some_iff.mp H
    obtain ⟨⟨t960, t963⟩, A200, H⟩ := H
    replace H : (impl_WalDo.l0 kj5 a2 a3 l4 l1 (l1.length : Int) 0 t960 t963) = some (r1, r2) := H
    have A20 := Aside0.mk A200
    clear A200
    have H' := Aside0.mk H
    clear H
    have hnb21 := NB957_958.out
    have hnc21 := NB958_957.out
    have hcz22_0 : wc.cell? ⟨gb957, 0, none⟩ = some (.slice A0_0 l0_0.length c0_0) := (blk_cell BK957.out 0).trans rfl
    have hcz22_1 : wc.cell? ⟨gb957, 1, none⟩ = some (.slice A0_1 l0_1.length c0_1) := (blk_cell BK957.out 1).trans rfl
    have hfz22_0 := blk_frozen BK957.out 0
    have hfz22_1 := blk_frozen BK957.out 1
    go_wp2_with (first | ((with_reducible refine gate_callee (f := 64) rfl ?_); refine goesL_ (some 24) rfl rfl Try.func64 (by kernel_rfl) rfl #[.agg #[.slice A0_0 l0_0.length c0_0, .slice A0_1 l0_1.length c0_1]] rfl bM ?_; (with_reducible refine (impl_secCopy.calls _ _ l0_0 _ _ l0_1 t960 t963 _ ?side1 ?side2 ?side3 ?side4 A20.out).mono ?_); (case side1 => exact pC (Kd.C_below HR0_0.out HB.out)); (case side2 => exact HC0_0.out); (case side3 => exact pC (Kd.C_below HR0_1.out HB.out)); (case side4 => exact HC0_1.out); rintro e w23 ⟨v961, v964, rfl, ho0, ho1, hb⟩; refine ⟨_, rfl, ?_⟩; have n0_ := Aside0.mk (Kd.R_lower ho0 (below_size (pS HB.out))); have n1_ := Aside0.mk (Kd.R_lower ho1 (below_size (pS HB.out))); have n2_ := Aside0.mk (blk_below (pK BK957.out) hb); have n3_ := Aside0.mk (blk_below (pK BK958.out) hb); have n4_ := Aside0.mk (below_step (pS HB.out) hb); clear BK957; clear BK958; clear HB; have HO962 := n0_; have HO965 := n1_; have BK957 := n2_; have BK958 := n3_; have HB := n4_; clear n0_ n1_ n2_ n3_ n4_; (try clear hb); (try clear hb2); (try clear hk); (try clear hi); (try clear ho0); (try clear ho1)) | ((with_reducible refine gate_dst (N := 11) rfl ?_); (try (refine gate_guard (by rfl) ?_; dsimp only)); refine box_event ?hg (N := 11) ?hd (cs := #[.slice none 0 0, .slice none 0 0]) (t := 31) ?hr ?_; (case hd => rfl); (case hg => rfl); (case hr => first | (go_simp; done) | (go_simp; rfl)); intro gb966 hg w24 hbox hb; have n0_ := Aside0.mk (Kd.R_below (pR HO962.out) hb); have n1_ := Aside0.mk (Kd.R_below (pR HO965.out) hb); have n2_ := Aside0.mk (blk_below (pK BK957.out) hb); have n3_ := Aside0.mk (blk_below (pK BK958.out) hb); have n4_ := Aside0.mk (below_step (pS HB.out) hb); have n5_ := Aside0.mk (hbox); have n6_ := Aside0.mk ((by rw [hg]; exact (below_size (pS HB.out)) : w.heap.size ≤ gb966)); have n7_ := Aside0.mk ((by rw [hg]; exact (below_size (pS HB.out)) : w.heap.size ≤ gb966)); have n8_ := Aside0.mk ((by rw [hg]; exact Nat.ne_of_lt (blk_lt (pK BK957.out)) : gb957 ≠ gb966)); have n9_ := Aside0.mk ((by rw [hg]; exact Nat.ne_of_gt (blk_lt (pK BK957.out)) : gb966 ≠ gb957)); have n10_ := Aside0.mk ((by rw [hg]; exact Nat.ne_of_lt (blk_lt (pK BK958.out)) : gb958 ≠ gb966)); have n11_ := Aside0.mk ((by rw [hg]; exact Nat.ne_of_gt (blk_lt (pK BK958.out)) : gb966 ≠ gb958)); clear HO962; clear HO965; clear BK957; clear BK958; clear HB; have HO962 := n0_; have HO965 := n1_; have BK957 := n2_; have BK958 := n3_; have HB := n4_; have BK966 := n5_; have GW966 := n6_; have GE966 := n7_; have NB957_966 := n8_; have NB966_957 := n9_; have NB958_966 := n10_; have NB966_958 := n11_; clear n0_ n1_ n2_ n3_ n4_ n5_ n6_ n7_ n8_ n9_ n10_ n11_; clear hb hbox hg; obtain ⟨Ao25, co25, eo25⟩ := Kd.R_slice HO962.out; subst eo25; have hnb26 := NB966_957.out; have hnc26 := NB957_966.out; have hnb27 := NB966_958.out; have hnc27 := NB958_966.out; have hcz28_0 : w24.cell? ⟨gb966, 0, none⟩ = some (.slice none 0 0) := (blk_cell BK966.out 0).trans rfl; have hcz28_1 : w24.cell? ⟨gb966, 1, none⟩ = some (.slice none 0 0) := (blk_cell BK966.out 1).trans rfl; have hfz28_0 := blk_frozen BK966.out 0; have hfz28_1 := blk_frozen BK966.out 1; obtain ⟨Ao29, co29, eo29⟩ := Kd.R_slice HO965.out; subst eo29))
    go_loopg [27] kj5 (fun kq v27 w' => ∃ (x27_2 : Int) (x967000_2 : List ByteArray) (x967001_2 : List (S75)) (u967000 : Value) (u967001 : Value), v27 = .int .i64 x27_2 ∧ Aside0 (impl_WalDo.l0 kq a2 a3 l4 l1 (l1.length : Int) x27_2 x967000_2 x967001_2 = some (r1, r2)) ∧ Aside0 (kq ≤ kj5) ∧ Aside0 (Kd.R Kd.string 9 w' w.heap.size (fun _ => True) u967000 x967000_2) ∧ Aside0 (Kd.R k75 75 w' w.heap.size (fun _ => True) u967001 x967001_2) ∧ Aside0 (w'.heap[gb957]? = some (.cells #[(.slice A0_0 l0_0.length c0_0), (.slice A0_1 l0_1.length c0_1)] 31 (0, 0))) ∧ Aside0 (w'.heap[gb958]? = some (.cells #[(.slice none 0 0), (.slice none 0 0)] 31 (0, 0))) ∧ Aside0 (w'.heap[gb966]? = some (.cells #[u967000, u967001] 31 (0, 0))) ∧ Aside0 (Below w.heap.size w w'))
    case atStart => exact ⟨(0), (t960), (t963), (.slice Ao25 t960.length co25), (.slice Ao29 t963.length co29), (by first | rfl | (simp; done) | (simp [*]; done)), H', ⟨Nat.le_refl _⟩, ⟨pR (Kd.R_mono (Kd.R_far (p := ⟨gb966, 1, none⟩) (Kd.R_far (p := ⟨gb966, 0, none⟩) (Kd.R_types HO962.out BK966.out (by decide)) (fun _ hk => hk.2) (.slice Ao25 t960.length co25)) (fun _ hk => hk.2) (.slice Ao29 t963.length co29)) (fun _ hk => trivial))⟩, ⟨pR (Kd.R_mono (Kd.R_far (p := ⟨gb966, 1, none⟩) (Kd.R_far (p := ⟨gb966, 0, none⟩) (Kd.R_types HO965.out BK966.out (by decide)) (fun _ hk => hk.2) (.slice Ao25 t960.length co25)) (fun _ hk => hk.2) (.slice Ao29 t963.length co29)) (fun _ hk => trivial))⟩, ⟨by (with_reducible repeat (first | refine blk_drewN ?_ _ | refine blk_drew ?_ | refine blk_alloc ?_ _)); refine blk_far ?_ NB957_966.out _; (with_reducible repeat (first | refine blk_drewN ?_ _ | refine blk_drew ?_ | refine blk_alloc ?_ _)); refine blk_far ?_ NB957_966.out _; (with_reducible repeat (first | refine blk_drewN ?_ _ | refine blk_drew ?_ | refine blk_alloc ?_ _)); exact BK957.out⟩, ⟨by (with_reducible repeat (first | refine blk_drewN ?_ _ | refine blk_drew ?_ | refine blk_alloc ?_ _)); refine blk_far ?_ NB958_966.out _; (with_reducible repeat (first | refine blk_drewN ?_ _ | refine blk_drew ?_ | refine blk_alloc ?_ _)); refine blk_far ?_ NB958_966.out _; (with_reducible repeat (first | refine blk_drewN ?_ _ | refine blk_drew ?_ | refine blk_alloc ?_ _)); exact BK958.out⟩, ⟨by (with_reducible repeat (first | refine blk_drewN ?_ _ | refine blk_drew ?_ | refine blk_alloc ?_ _)); refine blk_put (cs := #[.slice Ao25 t960.length co25, .slice none 0 0]) ?_ 1 _ rfl; (with_reducible repeat (first | refine blk_drewN ?_ _ | refine blk_drew ?_ | refine blk_alloc ?_ _)); refine blk_put (cs := #[.slice none 0 0, .slice none 0 0]) ?_ 0 _ rfl; (with_reducible repeat (first | refine blk_drewN ?_ _ | refine blk_drew ?_ | refine blk_alloc ?_ _)); exact BK966.out⟩, ⟨pS HB.out⟩⟩
    case round =>
     clear H'
     try clear c1
     try clear c2
     try clear p2
     try clear c3
     try clear c4
     try clear c6
     try clear c10
     try clear c11
     try clear c14
     try clear c17
     try clear c18
     try clear c21
     try clear c26
     try clear c27
     try clear hcz12_0
     try clear hcz12_1
     try clear hcz15_0
     try clear hcz15_1
     try clear hcz19_0
     try clear hcz19_1
     try clear hcz22_0
     try clear hcz22_1
     try clear hcz28_0
     try clear hcz28_1
     try clear hfz12_0
     try clear hfz12_1
     try clear hfz15_0
     try clear hfz15_1
     try clear hfz19_0
     try clear hfz19_1
     try clear hfz22_0
     try clear hfz22_1
     try clear hfz28_0
     try clear hfz28_1
     try clear p2
     obtain ⟨x27_2, x967000_2, x967001_2, u967000, u967001, rfl, HA, HK2, HO_967000, HO_967001, BK957, BK958, BK966, HB⟩ := hrel
     cases gk with
     | zero => exact absurd HA.out (by simp [impl_WalDo.l0])
     | succ k2 =>
      have H := HA.out
      clear HA
      simp only [impl_WalDo.l0] at H
      by_cases c30 : x27_2 < (l1.length : Int)
      ·rw [if_pos c30] at H
       have c30b0 : decide (x27_2 < (l1.length : Int)) = true := decide_eq_true c30
       clear c30
       by_cases c31 : 0 ≤ x27_2
       ·rw [if_pos c31] at H
        have c31b0 : decide (0 ≤ x27_2) = true := decide_eq_true c31
        clear c31
        by_cases c32 : x27_2 < (l1.length : Int)
        ·rw [if_pos c32] at H
         have c32b0 : decide (x27_2 < (l1.length : Int)) = true := decide_eq_true c32
         clear c32
         have HC33 := Aside0.mk H
         clear H
         have p973 : 0 ≤ (x27_2 : Int) := of_decide_eq_true bA
         have q973 : x27_2 < (l1.length : Int) := of_decide_eq_true bA
         obtain ⟨ad973, e973, hx973_0, hx973_1, hx973_2⟩ := at_T61 HR1.out x27_2 p973 q973
         cases e973
         replace hx973_0 := (HB.out.cell (World.block_lt_of_cell? w _ hx973_0)).trans hx973_0
         replace hx973_1 := (HB.out.cell (World.block_lt_of_cell? w _ hx973_1)).trans hx973_1
         replace hx973_2 := (HB.out.cell (World.block_lt_of_cell? w _ hx973_2)).trans hx973_2
         replace p973 := eq_true p973
         replace q973 := eq_true q973
         go_upto_region 7 with (first | ((with_reducible refine gate_dst (N := 13) rfl ?_); (try (refine gate_guard (by rfl) ?_; dsimp only)); refine box_event ?hg (N := 13) ?hd (cs := #[.bool false, .int .i64 0, .string (⟨#[]⟩ : ByteArray)]) (t := 61) ?hr ?_; (case hd => rfl); (case hg => rfl); (case hr => first | (go_simp; done) | (go_simp; rfl)); intro gb974 hg w34 hbox hb; have n0_ := Aside0.mk (Kd.R_below (pR HO_967000.out) hb); have n1_ := Aside0.mk (Kd.R_below (pR HO_967001.out) hb); have n2_ := Aside0.mk (blk_below (pK BK957.out) hb); have n3_ := Aside0.mk (blk_below (pK BK958.out) hb); have n4_ := Aside0.mk (blk_below (pK BK966.out) hb); have n5_ := Aside0.mk (below_step (pS HB.out) hb); have n6_ := Aside0.mk (hbox); have n7_ := Aside0.mk ((by rw [hg]; exact (below_size (pS HB.out)) : w.heap.size ≤ gb974)); have n8_ := Aside0.mk ((by rw [hg]; exact (below_size (pS HB.out)) : w.heap.size ≤ gb974)); have n9_ := Aside0.mk ((by rw [hg]; exact Nat.ne_of_lt (blk_lt (pK BK957.out)) : gb957 ≠ gb974)); have n10_ := Aside0.mk ((by rw [hg]; exact Nat.ne_of_gt (blk_lt (pK BK957.out)) : gb974 ≠ gb957)); have n11_ := Aside0.mk ((by rw [hg]; exact Nat.ne_of_lt (blk_lt (pK BK958.out)) : gb958 ≠ gb974)); have n12_ := Aside0.mk ((by rw [hg]; exact Nat.ne_of_gt (blk_lt (pK BK958.out)) : gb974 ≠ gb958)); have n13_ := Aside0.mk ((by rw [hg]; exact Nat.ne_of_lt (blk_lt (pK BK966.out)) : gb966 ≠ gb974)); have n14_ := Aside0.mk ((by rw [hg]; exact Nat.ne_of_gt (blk_lt (pK BK966.out)) : gb974 ≠ gb966)); clear HO_967000; clear HO_967001; clear BK957; clear BK958; clear BK966; clear HB; have HO_967000 := n0_; have HO_967001 := n1_; have BK957 := n2_; have BK958 := n3_; have BK966 := n4_; have HB := n5_; have BK974 := n6_; have GW974 := n7_; have GE974 := n8_; have NB957_974 := n9_; have NB974_957 := n10_; have NB958_974 := n11_; have NB974_958 := n12_; have NB966_974 := n13_; have NB974_966 := n14_; clear n0_ n1_ n2_ n3_ n4_ n5_ n6_ n7_ n8_ n9_ n10_ n11_ n12_ n13_ n14_; clear hb hbox hg; have hnb35 := NB974_957.out; have hnc35 := NB957_974.out; have hnb36 := NB974_958.out; have hnc36 := NB958_974.out; have hnb37 := NB974_966.out; have hnc37 := NB966_974.out; have hcz38_0 : w34.cell? ⟨gb974, 0, none⟩ = some (.bool false) := (blk_cell BK974.out 0).trans rfl; have hcz38_1 : w34.cell? ⟨gb974, 1, none⟩ = some (.int .i64 0) := (blk_cell BK974.out 1).trans rfl; have hcz38_2 : w34.cell? ⟨gb974, 2, none⟩ = some (.string (⟨#[]⟩ : ByteArray)) := (blk_cell BK974.out 2).trans rfl; have hfz38_0 := blk_frozen BK974.out 0; have hfz38_1 := blk_frozen BK974.out 1; have hfz38_2 := blk_frozen BK974.out 2))
         (try simp only [Act.put, List.setIfInBounds_toArray, List.set_cons_zero, List.set_cons_succ])
         go_cut [37] (fun v37 wc => ∃ (kq : Nat) (x37_32 : Bool), v37 = .bool x37_32 ∧ Aside0 (impl_WalDo.j2 kq a2 a3 l4 l1 (l1.length : Int) x27_2 x37_32 x967000_2 x967001_2 ((rd_T61 l1 x27_2).f0) ((rd_T61 l1 x27_2).f1) ((rd_T61 l1 x27_2).f2) = some (r1, r2)) ∧ Aside0 (kq ≤ k2) ∧ Aside0 (Kd.R Kd.string 9 wc w.heap.size (fun _ => True) u967000 x967000_2) ∧ Aside0 (Kd.R k75 75 wc w.heap.size (fun _ => True) u967001 x967001_2) ∧ Aside0 (wc.heap[gb957]? = some (.cells #[(.slice A0_0 l0_0.length c0_0), (.slice A0_1 l0_1.length c0_1)] 31 (0, 0))) ∧ Aside0 (wc.heap[gb958]? = some (.cells #[(.slice none 0 0), (.slice none 0 0)] 31 (0, 0))) ∧ Aside0 (wc.heap[gb966]? = some (.cells #[u967000, u967001] 31 (0, 0))) ∧ Aside0 (wc.heap[gb974]? = some (.cells #[.bool ((rd_T61 l1 x27_2).f0), .int .i64 ((rd_T61 l1 x27_2).f1), .string ((rd_T61 l1 x27_2).f2)] 61 (0, 0))) ∧ Aside0 (Below w.heap.size w wc))
         case first =>
          have H := HC33.out
          clear HC33
          by_cases c39 : a2 = true
          ·subst c39
           have H1 : (impl_WalDo.j2 k2 true a3 l4 l1 (l1.length : Int) x27_2 (decide (x27_2 ≥ a3)) x967000_2 x967001_2 ((rd_T61 l1 x27_2).f0) ((rd_T61 l1 x27_2).f1) ((rd_T61 l1 x27_2).f2)) = some (r1, r2) := by rw [if_pos rfl] at H; exact H
           clear H
           have H := H1
           clear H1
           have H' := Aside0.mk H
           clear H
           go_wp2
           go_meet
           case rel => exact ⟨_, (decide (x27_2 ≥ a3)), (by first | rfl | (simp; done) | (simp [*]; done)), H', ⟨by have := HJ5.out; have := HK2.out; first | omega | exact Nat.le_refl _⟩, ⟨pR (Kd.R_mono (Kd.R_far (p := ⟨gb974, 2, none⟩) (Kd.R_far (p := ⟨gb974, 1, none⟩) (Kd.R_far (p := ⟨gb974, 0, none⟩) (Kd.R_types HO_967000.out BK974.out (by decide)) (fun _ hk => hk.2) (.bool ((rd_T61 l1 x27_2).f0))) (fun _ hk => hk.2) (.int .i64 ((rd_T61 l1 x27_2).f1))) (fun _ hk => hk.2) (.string ((rd_T61 l1 x27_2).f2))) (fun _ hk => trivial))⟩, ⟨pR (Kd.R_mono (Kd.R_far (p := ⟨gb974, 2, none⟩) (Kd.R_far (p := ⟨gb974, 1, none⟩) (Kd.R_far (p := ⟨gb974, 0, none⟩) (Kd.R_types HO_967001.out BK974.out (by decide)) (fun _ hk => hk.2) (.bool ((rd_T61 l1 x27_2).f0))) (fun _ hk => hk.2) (.int .i64 ((rd_T61 l1 x27_2).f1))) (fun _ hk => hk.2) (.string ((rd_T61 l1 x27_2).f2))) (fun _ hk => trivial))⟩, ⟨by (with_reducible repeat (first | refine blk_drewN ?_ _ | refine blk_drew ?_ | refine blk_alloc ?_ _)); refine blk_far ?_ NB957_974.out _; (with_reducible repeat (first | refine blk_drewN ?_ _ | refine blk_drew ?_ | refine blk_alloc ?_ _)); refine blk_far ?_ NB957_974.out _; (with_reducible repeat (first | refine blk_drewN ?_ _ | refine blk_drew ?_ | refine blk_alloc ?_ _)); refine blk_far ?_ NB957_974.out _; (with_reducible repeat (first | refine blk_drewN ?_ _ | refine blk_drew ?_ | refine blk_alloc ?_ _)); exact BK957.out⟩, ⟨by (with_reducible repeat (first | refine blk_drewN ?_ _ | refine blk_drew ?_ | refine blk_alloc ?_ _)); refine blk_far ?_ NB958_974.out _; (with_reducible repeat (first | refine blk_drewN ?_ _ | refine blk_drew ?_ | refine blk_alloc ?_ _)); refine blk_far ?_ NB958_974.out _; (with_reducible repeat (first | refine blk_drewN ?_ _ | refine blk_drew ?_ | refine blk_alloc ?_ _)); refine blk_far ?_ NB958_974.out _; (with_reducible repeat (first | refine blk_drewN ?_ _ | refine blk_drew ?_ | refine blk_alloc ?_ _)); exact BK958.out⟩, ⟨by (with_reducible repeat (first | refine blk_drewN ?_ _ | refine blk_drew ?_ | refine blk_alloc ?_ _)); refine blk_far ?_ NB966_974.out _; (with_reducible repeat (first | refine blk_drewN ?_ _ | refine blk_drew ?_ | refine blk_alloc ?_ _)); refine blk_far ?_ NB966_974.out _; (with_reducible repeat (first | refine blk_drewN ?_ _ | refine blk_drew ?_ | refine blk_alloc ?_ _)); refine blk_far ?_ NB966_974.out _; (with_reducible repeat (first | refine blk_drewN ?_ _ | refine blk_drew ?_ | refine blk_alloc ?_ _)); exact BK966.out⟩, ⟨by (with_reducible repeat (first | refine blk_drewN ?_ _ | refine blk_drew ?_ | refine blk_alloc ?_ _)); refine blk_put (cs := #[.bool ((rd_T61 l1 x27_2).f0), .int .i64 ((rd_T61 l1 x27_2).f1), .string (⟨#[]⟩ : ByteArray)]) ?_ 2 _ rfl; (with_reducible repeat (first | refine blk_drewN ?_ _ | refine blk_drew ?_ | refine blk_alloc ?_ _)); refine blk_put (cs := #[.bool ((rd_T61 l1 x27_2).f0), .int .i64 0, .string (⟨#[]⟩ : ByteArray)]) ?_ 1 _ rfl; (with_reducible repeat (first | refine blk_drewN ?_ _ | refine blk_drew ?_ | refine blk_alloc ?_ _)); refine blk_put (cs := #[.bool false, .int .i64 0, .string (⟨#[]⟩ : ByteArray)]) ?_ 0 _ rfl; (with_reducible repeat (first | refine blk_drewN ?_ _ | refine blk_drew ?_ | refine blk_alloc ?_ _)); exact BK974.out⟩, ⟨pS HB.out⟩⟩
          ·replace c39 := Bool.eq_false_iff.mpr c39
           subst c39
           have H1 : (impl_WalDo.j2 k2 false a3 l4 l1 (l1.length : Int) x27_2 false x967000_2 x967001_2 ((rd_T61 l1 x27_2).f0) ((rd_T61 l1 x27_2).f1) ((rd_T61 l1 x27_2).f2)) = some (r1, r2) := by rw [if_neg (show ¬ (false = true) by decide)] at H; exact H
           clear H
           have H := H1
           clear H1
           have H' := Aside0.mk H
           clear H
           go_wp2
           go_meet
           case rel => exact ⟨_, (false), (by first | rfl | (simp; done) | (simp [*]; done)), H', ⟨by have := HJ5.out; have := HK2.out; first | omega | exact Nat.le_refl _⟩, ⟨pR (Kd.R_mono (Kd.R_far (p := ⟨gb974, 2, none⟩) (Kd.R_far (p := ⟨gb974, 1, none⟩) (Kd.R_far (p := ⟨gb974, 0, none⟩) (Kd.R_types HO_967000.out BK974.out (by decide)) (fun _ hk => hk.2) (.bool ((rd_T61 l1 x27_2).f0))) (fun _ hk => hk.2) (.int .i64 ((rd_T61 l1 x27_2).f1))) (fun _ hk => hk.2) (.string ((rd_T61 l1 x27_2).f2))) (fun _ hk => trivial))⟩, ⟨pR (Kd.R_mono (Kd.R_far (p := ⟨gb974, 2, none⟩) (Kd.R_far (p := ⟨gb974, 1, none⟩) (Kd.R_far (p := ⟨gb974, 0, none⟩) (Kd.R_types HO_967001.out BK974.out (by decide)) (fun _ hk => hk.2) (.bool ((rd_T61 l1 x27_2).f0))) (fun _ hk => hk.2) (.int .i64 ((rd_T61 l1 x27_2).f1))) (fun _ hk => hk.2) (.string ((rd_T61 l1 x27_2).f2))) (fun _ hk => trivial))⟩, ⟨by (with_reducible repeat (first | refine blk_drewN ?_ _ | refine blk_drew ?_ | refine blk_alloc ?_ _)); refine blk_far ?_ NB957_974.out _; (with_reducible repeat (first | refine blk_drewN ?_ _ | refine blk_drew ?_ | refine blk_alloc ?_ _)); refine blk_far ?_ NB957_974.out _; (with_reducible repeat (first | refine blk_drewN ?_ _ | refine blk_drew ?_ | refine blk_alloc ?_ _)); refine blk_far ?_ NB957_974.out _; (with_reducible repeat (first | refine blk_drewN ?_ _ | refine blk_drew ?_ | refine blk_alloc ?_ _)); exact BK957.out⟩, ⟨by (with_reducible repeat (first | refine blk_drewN ?_ _ | refine blk_drew ?_ | refine blk_alloc ?_ _)); refine blk_far ?_ NB958_974.out _; (with_reducible repeat (first | refine blk_drewN ?_ _ | refine blk_drew ?_ | refine blk_alloc ?_ _)); refine blk_far ?_ NB958_974.out _; (with_reducible repeat (first | refine blk_drewN ?_ _ | refine blk_drew ?_ | refine blk_alloc ?_ _)); refine blk_far ?_ NB958_974.out _; (with_reducible repeat (first | refine blk_drewN ?_ _ | refine blk_drew ?_ | refine blk_alloc ?_ _)); exact BK958.out⟩, ⟨by (with_reducible repeat (first | refine blk_drewN ?_ _ | refine blk_drew ?_ | refine blk_alloc ?_ _)); refine blk_far ?_ NB966_974.out _; (with_reducible repeat (first | refine blk_drewN ?_ _ | refine blk_drew ?_ | refine blk_alloc ?_ _)); refine blk_far ?_ NB966_974.out _; (with_reducible repeat (first | refine blk_drewN ?_ _ | refine blk_drew ?_ | refine blk_alloc ?_ _)); refine blk_far ?_ NB966_974.out _; (with_reducible repeat (first | refine blk_drewN ?_ _ | refine blk_drew ?_ | refine blk_alloc ?_ _)); exact BK966.out⟩, ⟨by (with_reducible repeat (first | refine blk_drewN ?_ _ | refine blk_drew ?_ | refine blk_alloc ?_ _)); refine blk_put (cs := #[.bool ((rd_T61 l1 x27_2).f0), .int .i64 ((rd_T61 l1 x27_2).f1), .string (⟨#[]⟩ : ByteArray)]) ?_ 2 _ rfl; (with_reducible repeat (first | refine blk_drewN ?_ _ | refine blk_drew ?_ | refine blk_alloc ?_ _)); refine blk_put (cs := #[.bool ((rd_T61 l1 x27_2).f0), .int .i64 0, .string (⟨#[]⟩ : ByteArray)]) ?_ 1 _ rfl; (with_reducible repeat (first | refine blk_drewN ?_ _ | refine blk_drew ?_ | refine blk_alloc ?_ _)); refine blk_put (cs := #[.bool false, .int .i64 0, .string (⟨#[]⟩ : ByteArray)]) ?_ 0 _ rfl; (with_reducible repeat (first | refine blk_drewN ?_ _ | refine blk_drew ?_ | refine blk_alloc ?_ _)); exact BK974.out⟩, ⟨pS HB.out⟩⟩
         case rest =>
          clear HC33
          try clear c1
          try clear c2
          try clear p2
          try clear c3
          try clear c4
          try clear c6
          try clear p9
          try clear q9
          try clear hx9
          try clear c10
          try clear c11
          try clear c14
          try clear c17
          try clear c18
          try clear c21
          try clear c26
          try clear c27
          try clear c30
          try clear c30b0
          try clear c31
          try clear c31b0
          try clear c32
          try clear c32b0
          try clear c35
          try clear c36
          try clear c37
          try clear c39
          try clear hcz12_0
          try clear hcz12_1
          try clear hcz15_0
          try clear hcz15_1
          try clear hcz19_0
          try clear hcz19_1
          try clear hcz22_0
          try clear hcz22_1
          try clear hcz28_0
          try clear hcz28_1
          try clear hcz38_0
          try clear hcz38_1
          try clear hcz38_2
          try clear hfz12_0
          try clear hfz12_1
          try clear hfz15_0
          try clear hfz15_1
          try clear hfz19_0
          try clear hfz19_1
          try clear hfz22_0
          try clear hfz22_1
          try clear hfz28_0
          try clear hfz28_1
          try clear hfz38_0
          try clear hfz38_1
          try clear hfz38_2
          try clear hx973_0
          try clear hx973_1
          try clear hx973_2
          try clear p2
          try clear p973
          try clear q973
          obtain ⟨kq, x37_32, rfl, HA, HJ32, HO_967000, HO_967001, BK957, BK958, BK966, BK974, HB⟩ := hcut
          cases kq with
          | zero => exact absurd HA.out (by simp [impl_WalDo.j2])
          | succ kj32 =>
           have H := HA.out
           clear HA
           simp only [impl_WalDo.j2] at H
           by_cases c40 : x37_32 = true
           ·subst c40
            have H1 : (if a2 = true then ((impl_SecCut.f kj32 x967000_2 x967001_2 l4).bind fun bt975 => (some (bt975.1, bt975.2))) else (some (x967000_2, x967001_2))) = some (r1, r2) := by rw [if_pos rfl] at H; exact H
            clear H
            have H := H1
            clear H1
            by_cases c41 : a2 = true
            ·subst c41
             have H1 : ((impl_SecCut.f kj32 x967000_2 x967001_2 l4).bind fun bt975 => (some (bt975.1, bt975.2))) = some (r1, r2) := by rw [if_pos rfl] at H; exact H
             clear H
             have H := H1
             clear H1
             replace H := Option.bind_eq_some_iff.mp H
             obtain ⟨⟨t975, t978⟩, A420, H⟩ := H
             replace H : (some (t975, t978)) = some (r1, r2) := H
             have A42 := Aside0.mk A420
             clear A420
             simp only [Option.some.injEq, Prod.mk.injEq] at H
             obtain ⟨rfl, rfl⟩ := H
             have hnb43 := NB966_957.out
             have hnc43 := NB957_966.out
             have hnb44 := NB966_958.out
             have hnc44 := NB958_966.out
             have hnb45 := NB966_974.out
             have hnc45 := NB974_966.out
             have hcz46_0 : wc.cell? ⟨gb966, 0, none⟩ = some (u967000) := (blk_cell BK966.out 0).trans rfl
             have hcz46_1 : wc.cell? ⟨gb966, 1, none⟩ = some (u967001) := (blk_cell BK966.out 1).trans rfl
             have hfz46_0 := blk_frozen BK966.out 0
             have hfz46_1 := blk_frozen BK966.out 1
             obtain ⟨Ao47, co47, eo47⟩ := Kd.R_slice HO_967000.out
             subst eo47
             obtain ⟨Ao48, co48, eo48⟩ := Kd.R_slice HO_967001.out
             subst eo48
             go_wp2_with (first | ((with_reducible refine gate_callee (f := 66) rfl ?_); refine goesL_ (some 55) rfl rfl Try.func66 (by kernel_rfl) rfl #[.agg #[.slice Ao47 x967000_2.length co47, .slice Ao48 x967001_2.length co48], .slice A4 l4.length c4] rfl bM ?_; (with_reducible refine (impl_SecCut.calls kj32 _ _ x967000_2 _ _ x967001_2 _ _ l4 t975 t978 _ ?side1 ?side2 ?side3 ?side4 ?side5 ?side6 A42.out).mono ?_); (case side1 => exact pC (Kd.R_reads' HO_967000.out).2.2); (case side2 => exact (Kd.R_reads' HO_967000.out).2.1); (case side3 => exact pC (Kd.R_reads' HO_967001.out).2.2); (case side4 => exact (Kd.R_reads' HO_967001.out).2.1); (case side5 => exact pC (Kd.C_below HR4.out HB.out)); (case side6 => exact HC4.out); rintro e w49 ⟨v976, v979, rfl, ho0, ho1, hb⟩; refine ⟨_, rfl, ?_⟩; have n0_ := Aside0.mk (Kd.R_elder' (pR HO_967000.out) (Kd.R_base ho0) hb); have n1_ := Aside0.mk (Kd.R_elder' (pR HO_967001.out) (Kd.R_base ho1) hb); have n2_ := Aside0.mk (Kd.R_lower (Kd.R_new' ho0 (Kd.R_lt (pR HO_967000.out))) (below_size (pS HB.out))); have n3_ := Aside0.mk (Kd.R_lower (Kd.R_new' ho1 (Kd.R_lt (pR HO_967001.out))) (below_size (pS HB.out))); have n4_ := Aside0.mk (blk_below (pK BK957.out) hb); have n5_ := Aside0.mk (blk_below (pK BK958.out) hb); have n6_ := Aside0.mk (blk_below (pK BK966.out) hb); have n7_ := Aside0.mk (blk_below (pK BK974.out) hb); have n8_ := Aside0.mk (below_step (pS HB.out) hb); clear HO_967000; clear HO_967001; clear BK957; clear BK958; clear BK966; clear BK974; clear HB; have HO_967000 := n0_; have HO_967001 := n1_; have HO977 := n2_; have HO980 := n3_; have BK957 := n4_; have BK958 := n5_; have BK966 := n6_; have BK974 := n7_; have HB := n8_; clear n0_ n1_ n2_ n3_ n4_ n5_ n6_ n7_ n8_; (try clear hb); (try clear hb2); (try clear hk); (try clear hi); (try clear ho0); (try clear ho1); obtain ⟨Ao50, co50, eo50⟩ := Kd.R_slice HO977.out; subst eo50; have hcz51_0 : w49.cell? ⟨gb966, 0, none⟩ = some (.slice Ao47 x967000_2.length co47) := (blk_cell BK966.out 0).trans rfl; have hcz51_1 : w49.cell? ⟨gb966, 1, none⟩ = some (.slice Ao48 x967001_2.length co48) := (blk_cell BK966.out 1).trans rfl; have hfz51_0 := blk_frozen BK966.out 0; have hfz51_1 := blk_frozen BK966.out 1; obtain ⟨Ao52, co52, eo52⟩ := Kd.R_slice HO980.out; subst eo52; have hnb53 := NB958_957.out; have hnc53 := NB957_958.out; have hnb54 := NB958_974.out; have hnc54 := NB974_958.out; have hcz55_0 : w49.cell? ⟨gb958, 0, none⟩ = some (.slice none 0 0) := (blk_cell BK958.out 0).trans rfl; have hcz55_1 : w49.cell? ⟨gb958, 1, none⟩ = some (.slice none 0 0) := (blk_cell BK958.out 1).trans rfl; have hfz55_0 := blk_frozen BK958.out 0; have hfz55_1 := blk_frozen BK958.out 1))
             refine bodyPost_ret (results_cell_row rfl _ _ gb958 31 #[.slice Ao50 t975.length co50, .slice Ao52 t978.length co52] (0, 0) _ rfl (by (with_reducible repeat (first | refine blk_drewN ?_ _ | refine blk_drew ?_ | refine blk_alloc ?_ _)); refine blk_put (cs := #[.slice Ao50 t975.length co50, .slice none 0 0]) ?_ 1 _ rfl; (with_reducible repeat (first | refine blk_drewN ?_ _ | refine blk_drew ?_ | refine blk_alloc ?_ _)); refine blk_put (cs := #[.slice none 0 0, .slice none 0 0]) ?_ 0 _ rfl; (with_reducible repeat (first | refine blk_drewN ?_ _ | refine blk_drew ?_ | refine blk_alloc ?_ _)); refine blk_far ?_ NB958_966.out _; (with_reducible repeat (first | refine blk_drewN ?_ _ | refine blk_drew ?_ | refine blk_alloc ?_ _)); refine blk_far ?_ NB958_966.out _; (with_reducible repeat (first | refine blk_drewN ?_ _ | refine blk_drew ?_ | refine blk_alloc ?_ _)); exact BK958.out) Try.underlying31 rfl (by kernel_rfl)) rfl ?_
             exact ⟨_, _, by first | rfl | (simp [errW_none, errW_some] <;> rfl) | (simp [*, errW_none, errW_some] <;> rfl), pR (Kd.R_mono (Kd.R_far (p := ⟨gb958, 1, none⟩) (Kd.R_far (p := ⟨gb958, 0, none⟩) (Kd.R_far (p := ⟨gb966, 1, none⟩) (Kd.R_far (p := ⟨gb966, 0, none⟩) (Kd.R_types (Kd.R_types HO977.out BK966.out (by decide)) BK958.out (by decide)) (fun _ hk => hk.1.2) (.slice Ao50 t975.length co50)) (fun _ hk => hk.1.2) (.slice Ao52 t978.length co52)) (fun _ hk => hk.2) (.slice Ao50 t975.length co50)) (fun _ hk => hk.2) (.slice Ao52 t978.length co52)) (fun _ hk => trivial)), pR (Kd.R_mono (Kd.R_far (p := ⟨gb958, 1, none⟩) (Kd.R_far (p := ⟨gb958, 0, none⟩) (Kd.R_far (p := ⟨gb966, 1, none⟩) (Kd.R_far (p := ⟨gb966, 0, none⟩) (Kd.R_types (Kd.R_types HO980.out BK966.out (by decide)) BK958.out (by decide)) (fun _ hk => hk.1.2) (.slice Ao50 t975.length co50)) (fun _ hk => hk.1.2) (.slice Ao52 t978.length co52)) (fun _ hk => hk.2) (.slice Ao50 t975.length co50)) (fun _ hk => hk.2) (.slice Ao52 t978.length co52)) (fun _ hk => trivial)), pS HB.out⟩
            ·replace c41 := Bool.eq_false_iff.mpr c41
             subst c41
             have H1 : (some (x967000_2, x967001_2)) = some (r1, r2) := by rw [if_neg (show ¬ (false = true) by decide)] at H; exact H
             clear H
             have H := H1
             clear H1
             simp only [Option.some.injEq, Prod.mk.injEq] at H
             obtain ⟨rfl, rfl⟩ := H
             have hnb56 := NB966_957.out
             have hnc56 := NB957_966.out
             have hnb57 := NB966_958.out
             have hnc57 := NB958_966.out
             have hnb58 := NB966_974.out
             have hnc58 := NB974_966.out
             have hcz59_0 : wc.cell? ⟨gb966, 0, none⟩ = some (u967000) := (blk_cell BK966.out 0).trans rfl
             have hcz59_1 : wc.cell? ⟨gb966, 1, none⟩ = some (u967001) := (blk_cell BK966.out 1).trans rfl
             have hfz59_0 := blk_frozen BK966.out 0
             have hfz59_1 := blk_frozen BK966.out 1
             obtain ⟨Ao60, co60, eo60⟩ := Kd.R_slice HO_967000.out
             subst eo60
             have hnb61 := NB958_957.out
             have hnc61 := NB957_958.out
             have hnb62 := NB958_974.out
             have hnc62 := NB974_958.out
             have hcz63_0 : wc.cell? ⟨gb958, 0, none⟩ = some (.slice none 0 0) := (blk_cell BK958.out 0).trans rfl
             have hcz63_1 : wc.cell? ⟨gb958, 1, none⟩ = some (.slice none 0 0) := (blk_cell BK958.out 1).trans rfl
             have hfz63_0 := blk_frozen BK958.out 0
             have hfz63_1 := blk_frozen BK958.out 1
             obtain ⟨Ao64, co64, eo64⟩ := Kd.R_slice HO_967001.out
             subst eo64
             go_wp2
             refine bodyPost_ret (results_cell_row rfl _ _ gb958 31 #[.slice Ao60 x967000_2.length co60, .slice Ao64 x967001_2.length co64] (0, 0) _ rfl (by (with_reducible repeat (first | refine blk_drewN ?_ _ | refine blk_drew ?_ | refine blk_alloc ?_ _)); refine blk_put (cs := #[.slice Ao60 x967000_2.length co60, .slice none 0 0]) ?_ 1 _ rfl; (with_reducible repeat (first | refine blk_drewN ?_ _ | refine blk_drew ?_ | refine blk_alloc ?_ _)); refine blk_put (cs := #[.slice none 0 0, .slice none 0 0]) ?_ 0 _ rfl; (with_reducible repeat (first | refine blk_drewN ?_ _ | refine blk_drew ?_ | refine blk_alloc ?_ _)); exact BK958.out) Try.underlying31 rfl (by kernel_rfl)) rfl ?_
             exact ⟨_, _, by first | rfl | (simp [errW_none, errW_some] <;> rfl) | (simp [*, errW_none, errW_some] <;> rfl), pR (Kd.R_mono (Kd.R_far (p := ⟨gb958, 1, none⟩) (Kd.R_far (p := ⟨gb958, 0, none⟩) (Kd.R_types HO_967000.out BK958.out (by decide)) (fun _ hk => hk.2) (.slice Ao60 x967000_2.length co60)) (fun _ hk => hk.2) (.slice Ao64 x967001_2.length co64)) (fun _ hk => trivial)), pR (Kd.R_mono (Kd.R_far (p := ⟨gb958, 1, none⟩) (Kd.R_far (p := ⟨gb958, 0, none⟩) (Kd.R_types HO_967001.out BK958.out (by decide)) (fun _ hk => hk.2) (.slice Ao60 x967000_2.length co60)) (fun _ hk => hk.2) (.slice Ao64 x967001_2.length co64)) (fun _ hk => trivial)), pS HB.out⟩
           ·replace c40 := Bool.eq_false_iff.mpr c40
            subst c40
            have H1 : (if ((rd_T61 l1 x27_2).f0) = true then ((impl_SecFlush.f kj32 x967000_2 x967001_2).bind fun bt981 => (impl_WalDo.l0 kj32 a2 a3 l4 l1 (l1.length : Int) (wrap64 (x27_2 + 1)) bt981.1 bt981.2)) else ((impl_SecPut.f kj32 x967000_2 x967001_2 ((rd_T61 l1 x27_2).f1) ((rd_T61 l1 x27_2).f2)).bind fun bt987 => (impl_WalDo.l0 kj32 a2 a3 l4 l1 (l1.length : Int) (wrap64 (x27_2 + 1)) bt987.1 bt987.2.1))) = some (r1, r2) := by rw [if_neg (show ¬ (false = true) by decide)] at H; exact H
            clear H
            have H := H1
            clear H1
            by_cases c65 : ((rd_T61 l1 x27_2).f0) = true
            ·rw [if_pos c65] at H
             have c65b0 : ((rd_T61 l1 x27_2).f0) = true := c65
             clear c65
             replace H := Option.bind_eq_some_iff.mp H
             obtain ⟨⟨t981, t984⟩, A660, H⟩ := H
             replace H : (impl_WalDo.l0 kj32 a2 a3 l4 l1 (l1.length : Int) (wrap64 (x27_2 + 1)) t981 t984) = some (r1, r2) := H
             have A66 := Aside0.mk A660
             clear A660
             have H' := Aside0.mk H
             clear H
             have hnb67 := NB974_957.out
             have hnc67 := NB957_974.out
             have hnb68 := NB974_958.out
             have hnc68 := NB958_974.out
             have hnb69 := NB974_966.out
             have hnc69 := NB966_974.out
             have hcz70_0 : wc.cell? ⟨gb974, 0, none⟩ = some (.bool ((rd_T61 l1 x27_2).f0)) := (blk_cell BK974.out 0).trans rfl
             have hcz70_1 : wc.cell? ⟨gb974, 1, none⟩ = some (.int .i64 ((rd_T61 l1 x27_2).f1)) := (blk_cell BK974.out 1).trans rfl
             have hcz70_2 : wc.cell? ⟨gb974, 2, none⟩ = some (.string ((rd_T61 l1 x27_2).f2)) := (blk_cell BK974.out 2).trans rfl
             have hfz70_0 := blk_frozen BK974.out 0
             have hfz70_1 := blk_frozen BK974.out 1
             have hfz70_2 := blk_frozen BK974.out 2
             have hnb71 := NB966_957.out
             have hnc71 := NB957_966.out
             have hnb72 := NB966_958.out
             have hnc72 := NB958_966.out
             have hcz73_0 : wc.cell? ⟨gb966, 0, none⟩ = some (u967000) := (blk_cell BK966.out 0).trans rfl
             have hcz73_1 : wc.cell? ⟨gb966, 1, none⟩ = some (u967001) := (blk_cell BK966.out 1).trans rfl
             have hfz73_0 := blk_frozen BK966.out 0
             have hfz73_1 := blk_frozen BK966.out 1
             obtain ⟨Ao74, co74, eo74⟩ := Kd.R_slice HO_967000.out
             subst eo74
             obtain ⟨Ao75, co75, eo75⟩ := Kd.R_slice HO_967001.out
             subst eo75
             go_wp2_with (first | ((with_reducible refine gate_callee (f := 51) rfl ?_); refine goesL_ (some 41) rfl rfl Try.func51 (by kernel_rfl) rfl #[.agg #[.slice Ao74 x967000_2.length co74, .slice Ao75 x967001_2.length co75]] rfl bM ?_; (with_reducible refine (impl_SecFlush.calls kj32 _ _ x967000_2 _ _ x967001_2 t981 t984 _ ?side1 ?side2 ?side3 ?side4 A66.out).mono ?_); (case side1 => exact pC (Kd.R_reads' HO_967000.out).2.2); (case side2 => exact (Kd.R_reads' HO_967000.out).2.1); (case side3 => exact pC (Kd.R_reads' HO_967001.out).2.2); (case side4 => exact (Kd.R_reads' HO_967001.out).2.1); rintro e w76 ⟨v982, v985, rfl, ho0, ho1, hb⟩; refine ⟨_, rfl, ?_⟩; have n0_ := Aside0.mk (Kd.R_elder' (pR HO_967000.out) (Kd.R_base ho0) hb); have n1_ := Aside0.mk (Kd.R_elder' (pR HO_967001.out) (Kd.R_base ho1) hb); have n2_ := Aside0.mk (Kd.R_lower (Kd.R_new' ho0 (Kd.R_lt (pR HO_967000.out))) (below_size (pS HB.out))); have n3_ := Aside0.mk (Kd.R_lower (Kd.R_new' ho1 (Kd.R_lt (pR HO_967001.out))) (below_size (pS HB.out))); have n4_ := Aside0.mk (blk_below (pK BK957.out) hb); have n5_ := Aside0.mk (blk_below (pK BK958.out) hb); have n6_ := Aside0.mk (blk_below (pK BK966.out) hb); have n7_ := Aside0.mk (blk_below (pK BK974.out) hb); have n8_ := Aside0.mk (below_step (pS HB.out) hb); clear HO_967000; clear HO_967001; clear BK957; clear BK958; clear BK966; clear BK974; clear HB; have HO_967000 := n0_; have HO_967001 := n1_; have HO983 := n2_; have HO986 := n3_; have BK957 := n4_; have BK958 := n5_; have BK966 := n6_; have BK974 := n7_; have HB := n8_; clear n0_ n1_ n2_ n3_ n4_ n5_ n6_ n7_ n8_; (try clear hb); (try clear hb2); (try clear hk); (try clear hi); (try clear ho0); (try clear ho1); obtain ⟨Ao77, co77, eo77⟩ := Kd.R_slice HO983.out; subst eo77; have hcz78_0 : w76.cell? ⟨gb966, 0, none⟩ = some (.slice Ao74 x967000_2.length co74) := (blk_cell BK966.out 0).trans rfl; have hcz78_1 : w76.cell? ⟨gb966, 1, none⟩ = some (.slice Ao75 x967001_2.length co75) := (blk_cell BK966.out 1).trans rfl; have hfz78_0 := blk_frozen BK966.out 0; have hfz78_1 := blk_frozen BK966.out 1; obtain ⟨Ao79, co79, eo79⟩ := Kd.R_slice HO986.out; subst eo79))
             go_roundg kj32
             case measure => have := HJ5.out; have := HK2.out; have := HJ32.out; omega
             case rel => exact ⟨(wrap64 (x27_2 + 1)), (t981), (t984), (.slice Ao77 t981.length co77), (.slice Ao79 t984.length co79), (by first | rfl | (simp; done) | (simp [*]; done)), H', ⟨by have := HJ5.out; have := HK2.out; have := HJ32.out; omega⟩, ⟨pR (Kd.R_mono (Kd.R_far (p := ⟨gb966, 1, none⟩) (Kd.R_far (p := ⟨gb966, 0, none⟩) (Kd.R_types HO983.out BK966.out (by decide)) (fun _ hk => hk.2) (.slice Ao77 t981.length co77)) (fun _ hk => hk.2) (.slice Ao79 t984.length co79)) (fun _ hk => trivial))⟩, ⟨pR (Kd.R_mono (Kd.R_far (p := ⟨gb966, 1, none⟩) (Kd.R_far (p := ⟨gb966, 0, none⟩) (Kd.R_types HO986.out BK966.out (by decide)) (fun _ hk => hk.2) (.slice Ao77 t981.length co77)) (fun _ hk => hk.2) (.slice Ao79 t984.length co79)) (fun _ hk => trivial))⟩, ⟨by (with_reducible repeat (first | refine blk_drewN ?_ _ | refine blk_drew ?_ | refine blk_alloc ?_ _)); refine blk_far ?_ NB957_966.out _; (with_reducible repeat (first | refine blk_drewN ?_ _ | refine blk_drew ?_ | refine blk_alloc ?_ _)); refine blk_far ?_ NB957_966.out _; (with_reducible repeat (first | refine blk_drewN ?_ _ | refine blk_drew ?_ | refine blk_alloc ?_ _)); exact BK957.out⟩, ⟨by (with_reducible repeat (first | refine blk_drewN ?_ _ | refine blk_drew ?_ | refine blk_alloc ?_ _)); refine blk_far ?_ NB958_966.out _; (with_reducible repeat (first | refine blk_drewN ?_ _ | refine blk_drew ?_ | refine blk_alloc ?_ _)); refine blk_far ?_ NB958_966.out _; (with_reducible repeat (first | refine blk_drewN ?_ _ | refine blk_drew ?_ | refine blk_alloc ?_ _)); exact BK958.out⟩, ⟨by (with_reducible repeat (first | refine blk_drewN ?_ _ | refine blk_drew ?_ | refine blk_alloc ?_ _)); refine blk_put (cs := #[.slice Ao77 t981.length co77, .slice Ao75 x967001_2.length co75]) ?_ 1 _ rfl; (with_reducible repeat (first | refine blk_drewN ?_ _ | refine blk_drew ?_ | refine blk_alloc ?_ _)); refine blk_put (cs := #[.slice Ao74 x967000_2.length co74, .slice Ao75 x967001_2.length co75]) ?_ 0 _ rfl; (with_reducible repeat (first | refine blk_drewN ?_ _ | refine blk_drew ?_ | refine blk_alloc ?_ _)); exact BK966.out⟩, ⟨pS HB.out⟩⟩
            ·rw [if_neg c65] at H
             have c65b0 : ((rd_T61 l1 x27_2).f0) = false := by simpa using c65
             clear c65
             replace H := Option.bind_eq_some_iff.mp H
             obtain ⟨⟨t987, t990, t993⟩, A800, H⟩ := H
             replace H : (impl_WalDo.l0 kj32 a2 a3 l4 l1 (l1.length : Int) (wrap64 (x27_2 + 1)) t987 t990) = some (r1, r2) := H
             have A80 := Aside0.mk A800
             clear A800
             have H' := Aside0.mk H
             clear H
             have hnb81 := NB974_957.out
             have hnc81 := NB957_974.out
             have hnb82 := NB974_958.out
             have hnc82 := NB958_974.out
             have hnb83 := NB974_966.out
             have hnc83 := NB966_974.out
             have hcz84_0 : wc.cell? ⟨gb974, 0, none⟩ = some (.bool ((rd_T61 l1 x27_2).f0)) := (blk_cell BK974.out 0).trans rfl
             have hcz84_1 : wc.cell? ⟨gb974, 1, none⟩ = some (.int .i64 ((rd_T61 l1 x27_2).f1)) := (blk_cell BK974.out 1).trans rfl
             have hcz84_2 : wc.cell? ⟨gb974, 2, none⟩ = some (.string ((rd_T61 l1 x27_2).f2)) := (blk_cell BK974.out 2).trans rfl
             have hfz84_0 := blk_frozen BK974.out 0
             have hfz84_1 := blk_frozen BK974.out 1
             have hfz84_2 := blk_frozen BK974.out 2
             have hnb85 := NB966_957.out
             have hnc85 := NB957_966.out
             have hnb86 := NB966_958.out
             have hnc86 := NB958_966.out
             have hcz87_0 : wc.cell? ⟨gb966, 0, none⟩ = some (u967000) := (blk_cell BK966.out 0).trans rfl
             have hcz87_1 : wc.cell? ⟨gb966, 1, none⟩ = some (u967001) := (blk_cell BK966.out 1).trans rfl
             have hfz87_0 := blk_frozen BK966.out 0
             have hfz87_1 := blk_frozen BK966.out 1
             obtain ⟨Ao88, co88, eo88⟩ := Kd.R_slice HO_967000.out
             subst eo88
             obtain ⟨Ao89, co89, eo89⟩ := Kd.R_slice HO_967001.out
             subst eo89
             go_wp2_with (first | ((with_reducible refine gate_callee (f := 65) rfl ?_); refine goesL_ (some 48) rfl rfl Try.func65 (by kernel_rfl) rfl #[.agg #[.slice Ao88 x967000_2.length co88, .slice Ao89 x967001_2.length co89], .int .i64 ((rd_T61 l1 x27_2).f1), .string ((rd_T61 l1 x27_2).f2)] rfl bM ?_; (with_reducible refine (impl_SecPut.calls kj32 _ _ x967000_2 _ _ x967001_2 ((rd_T61 l1 x27_2).f1) ((rd_T61 l1 x27_2).f2) t987 t990 t993 _ ?side1 ?side2 ?side3 ?side4 A80.out).mono ?_); (case side1 => exact pC (Kd.R_reads' HO_967000.out).2.2); (case side2 => exact (Kd.R_reads' HO_967000.out).2.1); (case side3 => exact pC (Kd.R_reads' HO_967001.out).2.2); (case side4 => exact (Kd.R_reads' HO_967001.out).2.1); rintro e w90 ⟨v988, v991, rfl, ho0, ho1, hb⟩; refine ⟨_, rfl, ?_⟩; have n0_ := Aside0.mk (Kd.R_elder' (pR HO_967000.out) (Kd.R_base ho0) hb); have n1_ := Aside0.mk (Kd.R_elder' (pR HO_967001.out) (Kd.R_base ho1) hb); have n2_ := Aside0.mk (Kd.R_lower (Kd.R_new' ho0 (Kd.R_lt (pR HO_967000.out))) (below_size (pS HB.out))); have n3_ := Aside0.mk (Kd.R_lower (Kd.R_new' ho1 (Kd.R_lt (pR HO_967001.out))) (below_size (pS HB.out))); have n4_ := Aside0.mk (blk_below (pK BK957.out) hb); have n5_ := Aside0.mk (blk_below (pK BK958.out) hb); have n6_ := Aside0.mk (blk_below (pK BK966.out) hb); have n7_ := Aside0.mk (blk_below (pK BK974.out) hb); have n8_ := Aside0.mk (below_step (pS HB.out) hb); clear HO_967000; clear HO_967001; clear BK957; clear BK958; clear BK966; clear BK974; clear HB; have HO_967000 := n0_; have HO_967001 := n1_; have HO989 := n2_; have HO992 := n3_; have BK957 := n4_; have BK958 := n5_; have BK966 := n6_; have BK974 := n7_; have HB := n8_; clear n0_ n1_ n2_ n3_ n4_ n5_ n6_ n7_ n8_; (try clear hb); (try clear hb2); (try clear hk); (try clear hi); (try clear ho0); (try clear ho1); obtain ⟨Ao91, co91, eo91⟩ := Kd.R_slice HO989.out; subst eo91; have hcz92_0 : w90.cell? ⟨gb966, 0, none⟩ = some (.slice Ao88 x967000_2.length co88) := (blk_cell BK966.out 0).trans rfl; have hcz92_1 : w90.cell? ⟨gb966, 1, none⟩ = some (.slice Ao89 x967001_2.length co89) := (blk_cell BK966.out 1).trans rfl; have hfz92_0 := blk_frozen BK966.out 0; have hfz92_1 := blk_frozen BK966.out 1; obtain ⟨Ao93, co93, eo93⟩ := Kd.R_slice HO992.out; subst eo93))
             go_roundg kj32
             case measure => have := HJ5.out; have := HK2.out; have := HJ32.out; omega
             case rel => exact ⟨(wrap64 (x27_2 + 1)), (t987), (t990), (.slice Ao91 t987.length co91), (.slice Ao93 t990.length co93), (by first | rfl | (simp; done) | (simp [*]; done)), H', ⟨by have := HJ5.out; have := HK2.out; have := HJ32.out; omega⟩, ⟨pR (Kd.R_mono (Kd.R_far (p := ⟨gb966, 1, none⟩) (Kd.R_far (p := ⟨gb966, 0, none⟩) (Kd.R_types HO989.out BK966.out (by decide)) (fun _ hk => hk.2) (.slice Ao91 t987.length co91)) (fun _ hk => hk.2) (.slice Ao93 t990.length co93)) (fun _ hk => trivial))⟩, ⟨pR (Kd.R_mono (Kd.R_far (p := ⟨gb966, 1, none⟩) (Kd.R_far (p := ⟨gb966, 0, none⟩) (Kd.R_types HO992.out BK966.out (by decide)) (fun _ hk => hk.2) (.slice Ao91 t987.length co91)) (fun _ hk => hk.2) (.slice Ao93 t990.length co93)) (fun _ hk => trivial))⟩, ⟨by (with_reducible repeat (first | refine blk_drewN ?_ _ | refine blk_drew ?_ | refine blk_alloc ?_ _)); refine blk_far ?_ NB957_966.out _; (with_reducible repeat (first | refine blk_drewN ?_ _ | refine blk_drew ?_ | refine blk_alloc ?_ _)); refine blk_far ?_ NB957_966.out _; (with_reducible repeat (first | refine blk_drewN ?_ _ | refine blk_drew ?_ | refine blk_alloc ?_ _)); exact BK957.out⟩, ⟨by (with_reducible repeat (first | refine blk_drewN ?_ _ | refine blk_drew ?_ | refine blk_alloc ?_ _)); refine blk_far ?_ NB958_966.out _; (with_reducible repeat (first | refine blk_drewN ?_ _ | refine blk_drew ?_ | refine blk_alloc ?_ _)); refine blk_far ?_ NB958_966.out _; (with_reducible repeat (first | refine blk_drewN ?_ _ | refine blk_drew ?_ | refine blk_alloc ?_ _)); exact BK958.out⟩, ⟨by (with_reducible repeat (first | refine blk_drewN ?_ _ | refine blk_drew ?_ | refine blk_alloc ?_ _)); refine blk_put (cs := #[.slice Ao91 t987.length co91, .slice Ao89 x967001_2.length co89]) ?_ 1 _ rfl; (with_reducible repeat (first | refine blk_drewN ?_ _ | refine blk_drew ?_ | refine blk_alloc ?_ _)); refine blk_put (cs := #[.slice Ao88 x967000_2.length co88, .slice Ao89 x967001_2.length co89]) ?_ 0 _ rfl; (with_reducible repeat (first | refine blk_drewN ?_ _ | refine blk_drew ?_ | refine blk_alloc ?_ _)); exact BK966.out⟩, ⟨pS HB.out⟩⟩
        ·rw [if_neg c32] at H
         exact absurd H (by simp)
       ·rw [if_neg c31] at H
        exact absurd H (by simp)
      ·rw [if_neg c30] at H
       have c30b0 : decide (x27_2 < (l1.length : Int)) = false := decide_eq_false c30
       clear c30
       by_cases c94 : a2 = true
       ·subst c94
        have H1 : ((impl_SecCut.f k2 x967000_2 x967001_2 l4).bind fun bt967 => (some (bt967.1, bt967.2))) = some (r1, r2) := by rw [if_pos rfl] at H; exact H
        clear H
        have H := H1
        clear H1
        replace H := Option.bind_eq_some_iff.mp H
        obtain ⟨⟨t967, t970⟩, A950, H⟩ := H
        replace H : (some (t967, t970)) = some (r1, r2) := H
        have A95 := Aside0.mk A950
        clear A950
        simp only [Option.some.injEq, Prod.mk.injEq] at H
        obtain ⟨rfl, rfl⟩ := H
        have hnb96 := NB966_957.out
        have hnc96 := NB957_966.out
        have hnb97 := NB966_958.out
        have hnc97 := NB958_966.out
        have hcz98_0 : wr.cell? ⟨gb966, 0, none⟩ = some (u967000) := (blk_cell BK966.out 0).trans rfl
        have hcz98_1 : wr.cell? ⟨gb966, 1, none⟩ = some (u967001) := (blk_cell BK966.out 1).trans rfl
        have hfz98_0 := blk_frozen BK966.out 0
        have hfz98_1 := blk_frozen BK966.out 1
        obtain ⟨Ao99, co99, eo99⟩ := Kd.R_slice HO_967000.out
        subst eo99
        obtain ⟨Ao100, co100, eo100⟩ := Kd.R_slice HO_967001.out
        subst eo100
        go_wp2_with (first | ((with_reducible refine gate_callee (f := 66) rfl ?_); refine goesL_ (some 55) rfl rfl Try.func66 (by kernel_rfl) rfl #[.agg #[.slice Ao99 x967000_2.length co99, .slice Ao100 x967001_2.length co100], .slice A4 l4.length c4] rfl bM ?_; (with_reducible refine (impl_SecCut.calls k2 _ _ x967000_2 _ _ x967001_2 _ _ l4 t967 t970 _ ?side1 ?side2 ?side3 ?side4 ?side5 ?side6 A95.out).mono ?_); (case side1 => exact pC (Kd.R_reads' HO_967000.out).2.2); (case side2 => exact (Kd.R_reads' HO_967000.out).2.1); (case side3 => exact pC (Kd.R_reads' HO_967001.out).2.2); (case side4 => exact (Kd.R_reads' HO_967001.out).2.1); (case side5 => exact pC (Kd.C_below HR4.out HB.out)); (case side6 => exact HC4.out); rintro e w101 ⟨v968, v971, rfl, ho0, ho1, hb⟩; refine ⟨_, rfl, ?_⟩; have n0_ := Aside0.mk (Kd.R_elder' (pR HO_967000.out) (Kd.R_base ho0) hb); have n1_ := Aside0.mk (Kd.R_elder' (pR HO_967001.out) (Kd.R_base ho1) hb); have n2_ := Aside0.mk (Kd.R_lower (Kd.R_new' ho0 (Kd.R_lt (pR HO_967000.out))) (below_size (pS HB.out))); have n3_ := Aside0.mk (Kd.R_lower (Kd.R_new' ho1 (Kd.R_lt (pR HO_967001.out))) (below_size (pS HB.out))); have n4_ := Aside0.mk (blk_below (pK BK957.out) hb); have n5_ := Aside0.mk (blk_below (pK BK958.out) hb); have n6_ := Aside0.mk (blk_below (pK BK966.out) hb); have n7_ := Aside0.mk (below_step (pS HB.out) hb); clear HO_967000; clear HO_967001; clear BK957; clear BK958; clear BK966; clear HB; have HO_967000 := n0_; have HO_967001 := n1_; have HO969 := n2_; have HO972 := n3_; have BK957 := n4_; have BK958 := n5_; have BK966 := n6_; have HB := n7_; clear n0_ n1_ n2_ n3_ n4_ n5_ n6_ n7_; (try clear hb); (try clear hb2); (try clear hk); (try clear hi); (try clear ho0); (try clear ho1); obtain ⟨Ao102, co102, eo102⟩ := Kd.R_slice HO969.out; subst eo102; have hcz103_0 : w101.cell? ⟨gb966, 0, none⟩ = some (.slice Ao99 x967000_2.length co99) := (blk_cell BK966.out 0).trans rfl; have hcz103_1 : w101.cell? ⟨gb966, 1, none⟩ = some (.slice Ao100 x967001_2.length co100) := (blk_cell BK966.out 1).trans rfl; have hfz103_0 := blk_frozen BK966.out 0; have hfz103_1 := blk_frozen BK966.out 1; obtain ⟨Ao104, co104, eo104⟩ := Kd.R_slice HO972.out; subst eo104; have hnb105 := NB958_957.out; have hnc105 := NB957_958.out; have hcz106_0 : w101.cell? ⟨gb958, 0, none⟩ = some (.slice none 0 0) := (blk_cell BK958.out 0).trans rfl; have hcz106_1 : w101.cell? ⟨gb958, 1, none⟩ = some (.slice none 0 0) := (blk_cell BK958.out 1).trans rfl; have hfz106_0 := blk_frozen BK958.out 0; have hfz106_1 := blk_frozen BK958.out 1))
        refine bodyPost_ret (results_cell_row rfl _ _ gb958 31 #[.slice Ao102 t967.length co102, .slice Ao104 t970.length co104] (0, 0) _ rfl (by (with_reducible repeat (first | refine blk_drewN ?_ _ | refine blk_drew ?_ | refine blk_alloc ?_ _)); refine blk_put (cs := #[.slice Ao102 t967.length co102, .slice none 0 0]) ?_ 1 _ rfl; (with_reducible repeat (first | refine blk_drewN ?_ _ | refine blk_drew ?_ | refine blk_alloc ?_ _)); refine blk_put (cs := #[.slice none 0 0, .slice none 0 0]) ?_ 0 _ rfl; (with_reducible repeat (first | refine blk_drewN ?_ _ | refine blk_drew ?_ | refine blk_alloc ?_ _)); refine blk_far ?_ NB958_966.out _; (with_reducible repeat (first | refine blk_drewN ?_ _ | refine blk_drew ?_ | refine blk_alloc ?_ _)); refine blk_far ?_ NB958_966.out _; (with_reducible repeat (first | refine blk_drewN ?_ _ | refine blk_drew ?_ | refine blk_alloc ?_ _)); exact BK958.out) Try.underlying31 rfl (by kernel_rfl)) rfl ?_
        exact ⟨_, _, by first | rfl | (simp [errW_none, errW_some] <;> rfl) | (simp [*, errW_none, errW_some] <;> rfl), pR (Kd.R_mono (Kd.R_far (p := ⟨gb958, 1, none⟩) (Kd.R_far (p := ⟨gb958, 0, none⟩) (Kd.R_far (p := ⟨gb966, 1, none⟩) (Kd.R_far (p := ⟨gb966, 0, none⟩) (Kd.R_types (Kd.R_types HO969.out BK966.out (by decide)) BK958.out (by decide)) (fun _ hk => hk.1.2) (.slice Ao102 t967.length co102)) (fun _ hk => hk.1.2) (.slice Ao104 t970.length co104)) (fun _ hk => hk.2) (.slice Ao102 t967.length co102)) (fun _ hk => hk.2) (.slice Ao104 t970.length co104)) (fun _ hk => trivial)), pR (Kd.R_mono (Kd.R_far (p := ⟨gb958, 1, none⟩) (Kd.R_far (p := ⟨gb958, 0, none⟩) (Kd.R_far (p := ⟨gb966, 1, none⟩) (Kd.R_far (p := ⟨gb966, 0, none⟩) (Kd.R_types (Kd.R_types HO972.out BK966.out (by decide)) BK958.out (by decide)) (fun _ hk => hk.1.2) (.slice Ao102 t967.length co102)) (fun _ hk => hk.1.2) (.slice Ao104 t970.length co104)) (fun _ hk => hk.2) (.slice Ao102 t967.length co102)) (fun _ hk => hk.2) (.slice Ao104 t970.length co104)) (fun _ hk => trivial)), pS HB.out⟩
       ·replace c94 := Bool.eq_false_iff.mpr c94
        subst c94
        have H1 : (some (x967000_2, x967001_2)) = some (r1, r2) := by rw [if_neg (show ¬ (false = true) by decide)] at H; exact H
        clear H
        have H := H1
        clear H1
        simp only [Option.some.injEq, Prod.mk.injEq] at H
        obtain ⟨rfl, rfl⟩ := H
        have hnb107 := NB966_957.out
        have hnc107 := NB957_966.out
        have hnb108 := NB966_958.out
        have hnc108 := NB958_966.out
        have hcz109_0 : wr.cell? ⟨gb966, 0, none⟩ = some (u967000) := (blk_cell BK966.out 0).trans rfl
        have hcz109_1 : wr.cell? ⟨gb966, 1, none⟩ = some (u967001) := (blk_cell BK966.out 1).trans rfl
        have hfz109_0 := blk_frozen BK966.out 0
        have hfz109_1 := blk_frozen BK966.out 1
        obtain ⟨Ao110, co110, eo110⟩ := Kd.R_slice HO_967000.out
        subst eo110
        have hnb111 := NB958_957.out
        have hnc111 := NB957_958.out
        have hcz112_0 : wr.cell? ⟨gb958, 0, none⟩ = some (.slice none 0 0) := (blk_cell BK958.out 0).trans rfl
        have hcz112_1 : wr.cell? ⟨gb958, 1, none⟩ = some (.slice none 0 0) := (blk_cell BK958.out 1).trans rfl
        have hfz112_0 := blk_frozen BK958.out 0
        have hfz112_1 := blk_frozen BK958.out 1
        obtain ⟨Ao113, co113, eo113⟩ := Kd.R_slice HO_967001.out
        subst eo113
        go_wp2
        refine bodyPost_ret (results_cell_row rfl _ _ gb958 31 #[.slice Ao110 x967000_2.length co110, .slice Ao113 x967001_2.length co113] (0, 0) _ rfl (by (with_reducible repeat (first | refine blk_drewN ?_ _ | refine blk_drew ?_ | refine blk_alloc ?_ _)); refine blk_put (cs := #[.slice Ao110 x967000_2.length co110, .slice none 0 0]) ?_ 1 _ rfl; (with_reducible repeat (first | refine blk_drewN ?_ _ | refine blk_drew ?_ | refine blk_alloc ?_ _)); refine blk_put (cs := #[.slice none 0 0, .slice none 0 0]) ?_ 0 _ rfl; (with_reducible repeat (first | refine blk_drewN ?_ _ | refine blk_drew ?_ | refine blk_alloc ?_ _)); exact BK958.out) Try.underlying31 rfl (by kernel_rfl)) rfl ?_
        exact ⟨_, _, by first | rfl | (simp [errW_none, errW_some] <;> rfl) | (simp [*, errW_none, errW_some] <;> rfl), pR (Kd.R_mono (Kd.R_far (p := ⟨gb958, 1, none⟩) (Kd.R_far (p := ⟨gb958, 0, none⟩) (Kd.R_types HO_967000.out BK958.out (by decide)) (fun _ hk => hk.2) (.slice Ao110 x967000_2.length co110)) (fun _ hk => hk.2) (.slice Ao113 x967001_2.length co113)) (fun _ hk => trivial)), pR (Kd.R_mono (Kd.R_far (p := ⟨gb958, 1, none⟩) (Kd.R_far (p := ⟨gb958, 0, none⟩) (Kd.R_types HO_967001.out BK958.out (by decide)) (fun _ hk => hk.2) (.slice Ao110 x967000_2.length co110)) (fun _ hk => hk.2) (.slice Ao113 x967001_2.length co113)) (fun _ hk => trivial)), pS HB.out⟩

end Go.Proofs.Ythjocaegapchaaa.P
