-- printed by pprint.py (this session's program over the kit's printer) out of the translation. Lean checks it.
import Derived.Test.YthjocaegapchaaaPx0
import Derived.Test.YthjocaegapchaaaPx2
import Derived.Test.YthjocaegapchaaaPx7
namespace Go.Proofs.Ythjocaegapchaaa.P
open Go.RowKit Go.Proofs.YthjocaegapchaaaX Go.Proofs.YthjocaegapchaaaW.PrintWords Go.Proofs.YthjocaegapchaaaW.PrintLast Go.Proofs.YthjocaegapchaaaW.PrintMore
attribute [local go_sem] max2_int min2_int max_two min_two max_three min_three max_four min_four   -- for this text's walks alone
set_option linter.unusedVariables false
set_option linter.unusedSimpArgs false

/-! ### spec_WalDo: function 33 -/
mutual
def spec_WalDo.j0 : Nat → List (S61) → Bool → Int → List Int → Bool → List ByteArray → List (S75) → Option (List ByteArray × (List (S75)))
 | 0, _, _, _, _, _, _, _ => none
 | k + 1, x1, x2, x3, x4, x19, x669000, x669001 => if x19 = true then (some (([] : List ByteArray), ([] : List (S75)))) else ((spec_l1Copy.f x669000 x669001).bind fun bt671 => (spec_WalDo.l0 k x1 x2 x3 x4 0 bt671.1 bt671.2))
def spec_WalDo.l0 : Nat → List (S61) → Bool → Int → List Int → Int → List ByteArray → List (S75) → Option (List ByteArray × (List (S75)))
 | 0, _, _, _, _, _, _, _ => none
 | k + 1, x1, x2, x3, x4, x11, x669000, x669001 => if x11 < (x1.length : Int) then (if x2 = true then (spec_WalDo.j2 k x1 x2 x3 x4 x11 (decide (x11 ≥ x3)) x669000 x669001) else (spec_WalDo.j2 k x1 x2 x3 x4 x11 false x669000 x669001)) else (if x2 = true then ((spec_SecCut.f k x669000 x669001 x4).bind fun bt677 => (some (bt677.1, bt677.2))) else (some (x669000, x669001)))
def spec_WalDo.j2 : Nat → List (S61) → Bool → Int → List Int → Int → Bool → List ByteArray → List (S75) → Option (List ByteArray × (List (S75)))
 | 0, _, _, _, _, _, _, _, _ => none
 | k + 1, x1, x2, x3, x4, x11, x34, x669000, x669001 => if x34 = true then ((spec_SecCut.f k x669000 x669001 x4).bind fun bt683 => (some (bt683.1, bt683.2))) else (if 0 ≤ x11 then (if x11 < (x1.length : Int) then (if (rd_T61 x1 x11).f0 = true then ((spec_SecFlush.f k x669000 x669001).bind fun bt690 => (spec_WalDo.l0 k x1 x2 x3 x4 (wrap64 (x11 + 1)) bt690.1 bt690.2)) else ((spec_SecPut.f k x669000 x669001 ((rd_T61 x1 x11).f1) ((rd_T61 x1 x11).f2)).bind fun bt698 => (spec_WalDo.l0 k x1 x2 x3 x4 (wrap64 (x11 + 1)) bt698.1 bt698.2.1))) else (none)) else (none))
end
def spec_WalDo.f (k : Nat) (l0_0 : List ByteArray) (l0_1 : List (S75)) (l1 : List (S61)) (a2 : Bool) (a3 : Int) (l4 : List Int) : Option (List ByteArray × (List (S75))) := (spec_SecOk.f k l0_0 l0_1).bind fun t670 => (if t670 = true then (spec_WalDo.j0 k l1 a2 a3 l4 (decide ((l1.length : Int) > 600)) l0_0 l0_1) else (spec_WalDo.j0 k l1 a2 a3 l4 true l0_0 l0_1))
theorem spec_WalDo.mono_l : ∀ k, (∀ y0 y1 y2 y3 y4 y5 y6, LeO (spec_WalDo.j0 k y0 y1 y2 y3 y4 y5 y6) (spec_WalDo.j0 (k + 1) y0 y1 y2 y3 y4 y5 y6)) ∧ (∀ y0 y1 y2 y3 y4 y5 y6, LeO (spec_WalDo.l0 k y0 y1 y2 y3 y4 y5 y6) (spec_WalDo.l0 (k + 1) y0 y1 y2 y3 y4 y5 y6)) ∧ (∀ y0 y1 y2 y3 y4 y5 y6 y7, LeO (spec_WalDo.j2 k y0 y1 y2 y3 y4 y5 y6 y7) (spec_WalDo.j2 (k + 1) y0 y1 y2 y3 y4 y5 y6 y7))
 | 0 => ⟨fun _ _ _ _ _ _ _ r h => by simp [spec_WalDo.j0] at h, fun _ _ _ _ _ _ _ r h => by simp [spec_WalDo.l0] at h, fun _ _ _ _ _ _ _ _ r h => by simp [spec_WalDo.j2] at h⟩
 | k + 1 => by
  obtain ⟨ih0, ih1, ih2⟩ := spec_WalDo.mono_l k
  refine ⟨?_, ?_, ?_⟩
  ·intro y0 y1 y2 y3 y4 y5 y6
   unfold spec_WalDo.j0
   repeat' first
   | (with_reducible exact ih0 _ _ _ _ _ _ _)
   | (with_reducible exact ih1 _ _ _ _ _ _ _)
   | (with_reducible exact ih2 _ _ _ _ _ _ _ _)
   | (with_reducible exact spec_SecCut.mono _ _ _ _)
   | (with_reducible exact spec_SecFlush.mono _ _ _)
   | (with_reducible exact spec_SecOk.mono _ _ _)
   | (with_reducible exact spec_SecPut.mono _ _ _ _ _)
   | (with_reducible exact LeO.refl _)
   | (with_reducible exact LeO.none _)
   | (with_reducible refine LeO.ite ?_ ?_)
   | (with_reducible refine LeO.bind ?_ (fun _ => ?_))
   | exact ih0 _ _ _ _ _ _ _
   | exact ih1 _ _ _ _ _ _ _
   | exact ih2 _ _ _ _ _ _ _ _
   | exact spec_SecCut.mono _ _ _ _
   | exact spec_SecFlush.mono _ _ _
   | exact spec_SecOk.mono _ _ _
   | exact spec_SecPut.mono _ _ _ _ _
   | exact LeO.none _
   | refine LeO.ite ?_ ?_
   | refine LeO.bind ?_ (fun _ => ?_)
  ·intro y0 y1 y2 y3 y4 y5 y6
   unfold spec_WalDo.l0
   repeat' first
   | (with_reducible exact ih0 _ _ _ _ _ _ _)
   | (with_reducible exact ih1 _ _ _ _ _ _ _)
   | (with_reducible exact ih2 _ _ _ _ _ _ _ _)
   | (with_reducible exact spec_SecCut.mono _ _ _ _)
   | (with_reducible exact spec_SecFlush.mono _ _ _)
   | (with_reducible exact spec_SecOk.mono _ _ _)
   | (with_reducible exact spec_SecPut.mono _ _ _ _ _)
   | (with_reducible exact LeO.refl _)
   | (with_reducible exact LeO.none _)
   | (with_reducible refine LeO.ite ?_ ?_)
   | (with_reducible refine LeO.bind ?_ (fun _ => ?_))
   | exact ih0 _ _ _ _ _ _ _
   | exact ih1 _ _ _ _ _ _ _
   | exact ih2 _ _ _ _ _ _ _ _
   | exact spec_SecCut.mono _ _ _ _
   | exact spec_SecFlush.mono _ _ _
   | exact spec_SecOk.mono _ _ _
   | exact spec_SecPut.mono _ _ _ _ _
   | exact LeO.none _
   | refine LeO.ite ?_ ?_
   | refine LeO.bind ?_ (fun _ => ?_)
  ·intro y0 y1 y2 y3 y4 y5 y6 y7
   unfold spec_WalDo.j2
   repeat' first
   | (with_reducible exact ih0 _ _ _ _ _ _ _)
   | (with_reducible exact ih1 _ _ _ _ _ _ _)
   | (with_reducible exact ih2 _ _ _ _ _ _ _ _)
   | (with_reducible exact spec_SecCut.mono _ _ _ _)
   | (with_reducible exact spec_SecFlush.mono _ _ _)
   | (with_reducible exact spec_SecOk.mono _ _ _)
   | (with_reducible exact spec_SecPut.mono _ _ _ _ _)
   | (with_reducible exact LeO.refl _)
   | (with_reducible exact LeO.none _)
   | (with_reducible refine LeO.ite ?_ ?_)
   | (with_reducible refine LeO.bind ?_ (fun _ => ?_))
   | exact ih0 _ _ _ _ _ _ _
   | exact ih1 _ _ _ _ _ _ _
   | exact ih2 _ _ _ _ _ _ _ _
   | exact spec_SecCut.mono _ _ _ _
   | exact spec_SecFlush.mono _ _ _
   | exact spec_SecOk.mono _ _ _
   | exact spec_SecPut.mono _ _ _ _ _
   | exact LeO.none _
   | refine LeO.ite ?_ ?_
   | refine LeO.bind ?_ (fun _ => ?_)
theorem spec_WalDo.mono : ∀ a0 a1 a2 a3 a4 a5 k, LeO (spec_WalDo.f k a0 a1 a2 a3 a4 a5) (spec_WalDo.f (k + 1) a0 a1 a2 a3 a4 a5) := by
 intro a0 a1 a2 a3 a4 a5 k
 obtain ⟨ih0, ih1, ih2⟩ := spec_WalDo.mono_l k
 unfold spec_WalDo.f
 repeat' first
   | (with_reducible exact ih0 _ _ _ _ _ _ _)
   | (with_reducible exact ih1 _ _ _ _ _ _ _)
   | (with_reducible exact ih2 _ _ _ _ _ _ _ _)
   | (with_reducible exact spec_SecCut.mono _ _ _ _)
   | (with_reducible exact spec_SecFlush.mono _ _ _)
   | (with_reducible exact spec_SecOk.mono _ _ _)
   | (with_reducible exact spec_SecPut.mono _ _ _ _ _)
   | (with_reducible exact LeO.refl _)
   | (with_reducible exact LeO.none _)
   | (with_reducible refine LeO.ite ?_ ?_)
   | (with_reducible refine LeO.bind ?_ (fun _ => ?_))
   | exact ih0 _ _ _ _ _ _ _
   | exact ih1 _ _ _ _ _ _ _
   | exact ih2 _ _ _ _ _ _ _ _
   | exact spec_SecCut.mono _ _ _ _
   | exact spec_SecFlush.mono _ _ _
   | exact spec_SecOk.mono _ _ _
   | exact spec_SecPut.mono _ _ _ _ _
   | exact LeO.none _
   | refine LeO.ite ?_ ?_
   | refine LeO.bind ?_ (fun _ => ?_)
def spec_WalDo.T11 : Bool × List (List Nat × List Nat) := (true, [([], []), ([], []), ([], []), ([1, 2], [1, 2]), ([3], [3]), ([4], [4]), ([], []), ([], []), ([6, 7], [6, 7]), ([8], [8]), ([9], [9]), ([0, 5, 10], [0, 5, 10]), ([11], [11]), ([12], [12]), ([12], [12]), ([13, 11, 0, 1, 2, 3, 4, 5, 6, 7, 8, 9, 10, 11, 12, 13], [13])])
def spec_WalDo.B11 : List Nat := [0, 0, 0, 6, 14, 30, 0, 0, 192, 448, 960, 2047, 4095, 8191, 8191, 16383]
theorem spec_WalDo.tab11 : rtab .any (opsOf Try.f33 11) = spec_WalDo.T11 := by kernel_rfl
theorem spec_WalDo.bits11 : waitsOk spec_WalDo.T11.2 spec_WalDo.B11 = true := by kernel_rfl
set_option maxHeartbeats 8000000 in
set_option maxRecDepth 100000 in
theorem spec_WalDo.calls (k : Nat) (A0_0 : Option Addr) (c0_0 : Nat) (l0_0 : List ByteArray) (A0_1 : Option Addr) (c0_1 : Nat) (l0_1 : List (S75)) (A1 : Option Addr) (c1 : Nat) (l1 : List (S61)) (a2 : Bool) (a3 : Int) (A4 : Option Addr) (c4 : Nat) (l4 : List Int) (r1 : List ByteArray) (r2 : List (S75)) (w : World) (hr0_0 : Kd.C Kd.string w A0_0 l0_0.length l0_0) (hc0_0 : l0_0.length ≤ c0_0) (hr0_1 : Kd.C k75 w A0_1 l0_1.length l0_1) (hc0_1 : l0_1.length ≤ c0_1) (hr1 : Kd.C k61 w A1 l1.length l1) (hc1 : l1.length ≤ c1) (hr4 : Kd.C (Kd.int .i64) w A4 l4.length l4) (hc4 : l4.length ≤ c4) (h : spec_WalDo.f k l0_0 l0_1 l1 a2 a3 l4 = some (r1, r2)) :
  Calls Try.prog 33 #[.agg #[.slice A0_0 l0_0.length c0_0, .slice A0_1 l0_1.length c0_1], .slice A1 l1.length c1, .bool a2, .int .i64 a3, .slice A4 l4.length c4] w fun e w' => ∃ v0_ v1_ : Value, e = .returned (.agg #[v0_, v1_]) ∧ Kd.R Kd.string 9 w' w.heap.size (fun _ => True) v0_ r1 ∧ Kd.R k75 75 w' w.heap.size (fun _ => True) v1_ r2 ∧ Below w.heap.size w w' := by
 have hu31 := Try.underlying31
 have HR0_0 := Aside0.mk hr0_0
 have HC0_0 := Aside0.mk hc0_0
 clear hr0_0 hc0_0
 have HR0_1 := Aside0.mk hr0_1
 have HC0_1 := Aside0.mk hc0_1
 clear hr0_1 hc0_1
 have HR1 := Aside0.mk hr1
 have HC1 := Aside0.mk hc1
 clear hr1 hc1
 have HR4 := Aside0.mk hr4
 have HC4 := Aside0.mk hc4
 clear hr4 hc4
 have HB := Aside0.mk (Below.refl w.heap.size w)
 have H : ((spec_SecOk.f k l0_0 l0_1).bind fun t670 => (if t670 = true then (spec_WalDo.j0 k l1 a2 a3 l4 (decide ((l1.length : Int) > 600)) l0_0 l0_1) else (spec_WalDo.j0 k l1 a2 a3 l4 true l0_0 l0_1))) = some (r1, r2) := h
 clear h
 have HC6 := Aside0.mk H
 clear H
 go_enter Try.func33, Try.ntmps33
 go_upto_region 1 with (first | ((with_reducible refine gate_dst (N := 5) rfl ?_); (try (refine gate_guard (by rfl) ?_; dsimp only)); refine box_event ?hg (N := 5) ?hd (cs := #[.slice A0_0 l0_0.length c0_0, .slice A0_1 l0_1.length c0_1]) (t := 31) ?hr ?_; (case hd => rfl); (case hg => rfl); (case hr => first | (go_simp; done) | (go_simp; rfl)); intro gb668 hg w7 hbox hb; have n0_ := Aside0.mk (below_step (pB HB.out) hb); have n1_ := Aside0.mk (hbox); have n2_ := Aside0.mk ((by rw [hg]; exact (below_size (pB HB.out)) : w.heap.size ≤ gb668)); have n3_ := Aside0.mk ((by rw [hg]; exact (below_size (pB HB.out)) : w.heap.size ≤ gb668)); clear HB; have HB := n0_; have BK668 := n1_; have GW668 := n2_; have GE668 := n3_; clear n0_ n1_ n2_ n3_; clear hb hbox hg) | ((with_reducible refine gate_dst (N := 10) rfl ?_); (try (refine gate_guard (by rfl) ?_; dsimp only)); refine box_event ?hg (N := 10) ?hd (cs := #[.slice none 0 0, .slice none 0 0]) (t := 31) ?hr ?_; (case hd => rfl); (case hg => rfl); (case hr => first | (go_simp; done) | (go_simp; rfl)); intro gb669 hg w8 hbox hb; have n0_ := Aside0.mk (blk_below (pK BK668.out) hb); have n1_ := Aside0.mk (below_step (pS HB.out) hb); have n2_ := Aside0.mk (hbox); have n3_ := Aside0.mk ((by rw [hg]; exact (below_size (pS HB.out)) : w.heap.size ≤ gb669)); have n4_ := Aside0.mk ((by rw [hg]; exact (below_size (pS HB.out)) : w.heap.size ≤ gb669)); have n5_ := Aside0.mk ((by rw [hg]; exact Nat.ne_of_lt (blk_lt (pK BK668.out)) : gb668 ≠ gb669)); have n6_ := Aside0.mk ((by rw [hg]; exact Nat.ne_of_gt (blk_lt (pK BK668.out)) : gb669 ≠ gb668)); clear BK668; clear HB; have BK668 := n0_; have HB := n1_; have BK669 := n2_; have GW669 := n3_; have GE669 := n4_; have NB668_669 := n5_; have NB669_668 := n6_; clear n0_ n1_ n2_ n3_ n4_ n5_ n6_; clear hb hbox hg))
 (try simp only [Act.put, List.setIfInBounds_toArray, List.set_cons_zero, List.set_cons_succ])
 go_cut [19] (fun v19 wc => ∃ (kq : Nat) (x19_5 : Bool), v19 = .bool x19_5 ∧ Aside0 (spec_WalDo.j0 kq l1 a2 a3 l4 x19_5 l0_0 l0_1 = some (r1, r2)) ∧ Aside0 (kq ≤ k) ∧ Aside0 (wc.heap[gb668]? = some (.cells #[(.slice A0_0 l0_0.length c0_0), (.slice A0_1 l0_1.length c0_1)] 31 (0, 0))) ∧ Aside0 (wc.heap[gb669]? = some (.cells #[(.slice none 0 0), (.slice none 0 0)] 31 (0, 0))) ∧ Aside0 (Below w.heap.size w wc))
 case first =>
  have H := HC6.out
  clear HC6
  replace H := Option.bind_eq_some_iff.mp H
  obtain ⟨t670, A90, H⟩ := H
  replace H : (if t670 = true then (spec_WalDo.j0 k l1 a2 a3 l4 (decide ((l1.length : Int) > 600)) l0_0 l0_1) else (spec_WalDo.j0 k l1 a2 a3 l4 true l0_0 l0_1)) = some (r1, r2) := H
  have A9 := Aside0.mk A90
  clear A90
  by_cases c10 : t670 = true
  ·subst c10
   have H1 : (spec_WalDo.j0 k l1 a2 a3 l4 (decide ((l1.length : Int) > 600)) l0_0 l0_1) = some (r1, r2) := by rw [if_pos rfl] at H; exact H
   clear H
   have H := H1
   clear H1
   have H' := Aside0.mk H
   clear H
   have hnb11 := NB668_669.out
   have hnc11 := NB669_668.out
   have hcz12_0 : w8.cell? ⟨gb668, 0, none⟩ = some (.slice A0_0 l0_0.length c0_0) := (blk_cell BK668.out 0).trans rfl
   have hcz12_1 : w8.cell? ⟨gb668, 1, none⟩ = some (.slice A0_1 l0_1.length c0_1) := (blk_cell BK668.out 1).trans rfl
   have hfz12_0 := blk_frozen BK668.out 0
   have hfz12_1 := blk_frozen BK668.out 1
   go_wp2_with (first | ((with_reducible refine gate_callee (f := 68) rfl ?_); refine goesL_ (some 13) rfl rfl Try.func68 (by kernel_rfl) rfl #[.agg #[.slice A0_0 l0_0.length c0_0, .slice A0_1 l0_1.length c0_1]] rfl bM ?_; (with_reducible refine (spec_SecOk.calls k _ _ l0_0 _ _ l0_1 true _ ?side1 ?side2 ?side3 ?side4 A9.out).mono ?_); (case side1 => exact pC (Kd.C_below HR0_0.out HB.out)); (case side2 => exact HC0_0.out); (case side3 => exact pC (Kd.C_below HR0_1.out HB.out)); (case side4 => exact HC0_1.out); rintro e w13 ⟨rfl, hb⟩; refine ⟨_, rfl, ?_⟩; have n0_ := Aside0.mk (blk_below (pK BK668.out) hb); have n1_ := Aside0.mk (blk_below (pK BK669.out) hb); have n2_ := Aside0.mk (below_step (pS HB.out) hb); clear BK668; clear BK669; clear HB; have BK668 := n0_; have BK669 := n1_; have HB := n2_; clear n0_ n1_ n2_; (try clear hb); (try clear hb2); (try clear hk); (try clear hi)))
   go_meet
   case rel => exact ⟨_, (decide ((l1.length : Int) > 600)), (by first | rfl | (simp; done) | (simp [*]; done)), H', ⟨by first | omega | exact Nat.le_refl _⟩, ⟨pK BK668.out⟩, ⟨pK BK669.out⟩, ⟨pS HB.out⟩⟩
  ·replace c10 := Bool.eq_false_iff.mpr c10
   subst c10
   have H1 : (spec_WalDo.j0 k l1 a2 a3 l4 true l0_0 l0_1) = some (r1, r2) := by rw [if_neg (show ¬ (false = true) by decide)] at H; exact H
   clear H
   have H := H1
   clear H1
   have H' := Aside0.mk H
   clear H
   have hnb14 := NB668_669.out
   have hnc14 := NB669_668.out
   have hcz15_0 : w8.cell? ⟨gb668, 0, none⟩ = some (.slice A0_0 l0_0.length c0_0) := (blk_cell BK668.out 0).trans rfl
   have hcz15_1 : w8.cell? ⟨gb668, 1, none⟩ = some (.slice A0_1 l0_1.length c0_1) := (blk_cell BK668.out 1).trans rfl
   have hfz15_0 := blk_frozen BK668.out 0
   have hfz15_1 := blk_frozen BK668.out 1
   go_wp2_with (first | ((with_reducible refine gate_callee (f := 68) rfl ?_); refine goesL_ (some 13) rfl rfl Try.func68 (by kernel_rfl) rfl #[.agg #[.slice A0_0 l0_0.length c0_0, .slice A0_1 l0_1.length c0_1]] rfl bM ?_; (with_reducible refine (spec_SecOk.calls k _ _ l0_0 _ _ l0_1 false _ ?side1 ?side2 ?side3 ?side4 A9.out).mono ?_); (case side1 => exact pC (Kd.C_below HR0_0.out HB.out)); (case side2 => exact HC0_0.out); (case side3 => exact pC (Kd.C_below HR0_1.out HB.out)); (case side4 => exact HC0_1.out); rintro e w16 ⟨rfl, hb⟩; refine ⟨_, rfl, ?_⟩; have n0_ := Aside0.mk (blk_below (pK BK668.out) hb); have n1_ := Aside0.mk (blk_below (pK BK669.out) hb); have n2_ := Aside0.mk (below_step (pS HB.out) hb); clear BK668; clear BK669; clear HB; have BK668 := n0_; have BK669 := n1_; have HB := n2_; clear n0_ n1_ n2_; (try clear hb); (try clear hb2); (try clear hk); (try clear hi)))
   go_meet
   case rel => exact ⟨_, (true), (by first | rfl | (simp; done) | (simp [*]; done)), H', ⟨by first | omega | exact Nat.le_refl _⟩, ⟨pK BK668.out⟩, ⟨pK BK669.out⟩, ⟨pS HB.out⟩⟩
 case rest =>
  clear HC6
  try clear c1
  try clear p2
  try clear c3
  try clear c4
  try clear c6
  try clear c10
  try clear c11
  try clear c14
  try clear hcz12_0
  try clear hcz12_1
  try clear hcz15_0
  try clear hcz15_1
  try clear hfz12_0
  try clear hfz12_1
  try clear hfz15_0
  try clear hfz15_1
  obtain ⟨kq, x19_5, rfl, HA, HJ5, BK668, BK669, HB⟩ := hcut
  cases kq with
  | zero => exact absurd HA.out (by simp [spec_WalDo.j0])
  | succ kj5 =>
   have H := HA.out
   clear HA
   simp only [spec_WalDo.j0] at H
   by_cases c17 : x19_5 = true
   ·subst c17
    have H1 : (some (([] : List ByteArray), ([] : List (S75)))) = some (r1, r2) := by rw [if_pos rfl] at H; exact H
    clear H
    have H := H1
    clear H1
    simp only [Option.some.injEq, Prod.mk.injEq] at H
    obtain ⟨rfl, rfl⟩ := H
    have hnb18 := NB669_668.out
    have hnc18 := NB668_669.out
    have hcz19_0 : wc.cell? ⟨gb669, 0, none⟩ = some (.slice none 0 0) := (blk_cell BK669.out 0).trans rfl
    have hcz19_1 : wc.cell? ⟨gb669, 1, none⟩ = some (.slice none 0 0) := (blk_cell BK669.out 1).trans rfl
    have hfz19_0 := blk_frozen BK669.out 0
    have hfz19_1 := blk_frozen BK669.out 1
    go_wp2
    refine bodyPost_ret (results_cell_row rfl _ _ gb669 31 #[.slice none 0 0, .slice none 0 0] (0, 0) _ rfl (by (with_reducible repeat (first | refine blk_drewN ?_ _ | refine blk_drew ?_ | refine blk_alloc ?_ _)); refine blk_put (cs := #[.slice none 0 0, .slice none 0 0]) ?_ 1 _ rfl; (with_reducible repeat (first | refine blk_drewN ?_ _ | refine blk_drew ?_ | refine blk_alloc ?_ _)); refine blk_put (cs := #[.slice none 0 0, .slice none 0 0]) ?_ 0 _ rfl; (with_reducible repeat (first | refine blk_drewN ?_ _ | refine blk_drew ?_ | refine blk_alloc ?_ _)); exact BK669.out) Try.underlying31 rfl (by kernel_rfl)) rfl ?_
    exact ⟨_, _, by first | rfl | (simp [errW_none, errW_some] <;> rfl) | (simp [*, errW_none, errW_some] <;> rfl), by first | exact Kd.R_nil _ _ _ _ _ | exact Kd.N_nil _ _ _ _ _ | exact Kd.V_nil _ _ _ _ _ | exact Kd.Q_nil _ _ _ _ _ | exact Kd.S_nil _ _ _ _ _, by first | exact Kd.R_nil _ _ _ _ _ | exact Kd.N_nil _ _ _ _ _ | exact Kd.V_nil _ _ _ _ _ | exact Kd.Q_nil _ _ _ _ _ | exact Kd.S_nil _ _ _ _ _, pS HB.out⟩
   ·replace c17 := Bool.eq_false_iff.mpr c17
    subst c17
    have H1 : ((spec_l1Copy.f l0_0 l0_1).bind fun bt671 => (spec_WalDo.l0 kj5 l1 a2 a3 l4 0 bt671.1 bt671.2)) = some (r1, r2) := by rw [if_neg (show ¬ (false = true) by decide)] at H; exact H
    clear H
    have H := H1
    clear H1
    replace H := Option.bind_eq_some_iff.mp H
    obtain ⟨⟨t671, t674⟩, A200, H⟩ := H
    replace H : (spec_WalDo.l0 kj5 l1 a2 a3 l4 0 t671 t674) = some (r1, r2) := H
    have A20 := Aside0.mk A200
    clear A200
    have H' := Aside0.mk H
    clear H
    have hnb21 := NB668_669.out
    have hnc21 := NB669_668.out
    have hcz22_0 : wc.cell? ⟨gb668, 0, none⟩ = some (.slice A0_0 l0_0.length c0_0) := (blk_cell BK668.out 0).trans rfl
    have hcz22_1 : wc.cell? ⟨gb668, 1, none⟩ = some (.slice A0_1 l0_1.length c0_1) := (blk_cell BK668.out 1).trans rfl
    have hfz22_0 := blk_frozen BK668.out 0
    have hfz22_1 := blk_frozen BK668.out 1
    go_wp2_with (first | ((with_reducible refine gate_callee (f := 69) rfl ?_); refine goesL_ (some 22) rfl rfl Try.func69 (by kernel_rfl) rfl #[.agg #[.slice A0_0 l0_0.length c0_0, .slice A0_1 l0_1.length c0_1]] rfl bM ?_; (with_reducible refine (spec_l1Copy.calls _ _ l0_0 _ _ l0_1 t671 t674 _ ?side1 ?side2 ?side3 ?side4 A20.out).mono ?_); (case side1 => exact pC (Kd.C_below HR0_0.out HB.out)); (case side2 => exact HC0_0.out); (case side3 => exact pC (Kd.C_below HR0_1.out HB.out)); (case side4 => exact HC0_1.out); rintro e w23 ⟨v672, v675, rfl, ho0, ho1, hb⟩; refine ⟨_, rfl, ?_⟩; have n0_ := Aside0.mk (Kd.R_lower ho0 (below_size (pS HB.out))); have n1_ := Aside0.mk (Kd.R_lower ho1 (below_size (pS HB.out))); have n2_ := Aside0.mk (blk_below (pK BK668.out) hb); have n3_ := Aside0.mk (blk_below (pK BK669.out) hb); have n4_ := Aside0.mk (below_step (pS HB.out) hb); clear BK668; clear BK669; clear HB; have HO673 := n0_; have HO676 := n1_; have BK668 := n2_; have BK669 := n3_; have HB := n4_; clear n0_ n1_ n2_ n3_ n4_; (try clear hb); (try clear hb2); (try clear hk); (try clear hi); (try clear ho0); (try clear ho1); obtain ⟨Ao24, co24, eo24⟩ := Kd.R_slice HO673.out; subst eo24; have hcz25_0 : w23.cell? ⟨gb668, 0, none⟩ = some (.slice A0_0 l0_0.length c0_0) := (blk_cell BK668.out 0).trans rfl; have hcz25_1 : w23.cell? ⟨gb668, 1, none⟩ = some (.slice A0_1 l0_1.length c0_1) := (blk_cell BK668.out 1).trans rfl; have hfz25_0 := blk_frozen BK668.out 0; have hfz25_1 := blk_frozen BK668.out 1; obtain ⟨Ao26, co26, eo26⟩ := Kd.R_slice HO676.out; subst eo26))
    go_loopg [11] kj5 (fun kq v11 w' => ∃ (x11_2 : Int) (x669000_2 : List ByteArray) (x669001_2 : List (S75)) (u669000 : Value) (u669001 : Value), v11 = .int .i64 x11_2 ∧ Aside0 (spec_WalDo.l0 kq l1 a2 a3 l4 x11_2 x669000_2 x669001_2 = some (r1, r2)) ∧ Aside0 (kq ≤ kj5) ∧ Aside0 (Kd.R Kd.string 9 w' w.heap.size (fun _ => True) u669000 x669000_2) ∧ Aside0 (Kd.R k75 75 w' w.heap.size (fun _ => True) u669001 x669001_2) ∧ Aside0 (w'.heap[gb668]? = some (.cells #[u669000, u669001] 31 (0, 0))) ∧ Aside0 (w'.heap[gb669]? = some (.cells #[(.slice none 0 0), (.slice none 0 0)] 31 (0, 0))) ∧ Aside0 (Below w.heap.size w w'))
    case atStart => exact ⟨(0), (t671), (t674), (.slice Ao24 t671.length co24), (.slice Ao26 t674.length co26), (by first | rfl | (simp; done) | (simp [*]; done)), H', ⟨Nat.le_refl _⟩, ⟨pR (Kd.R_mono (Kd.R_far (p := ⟨gb668, 1, none⟩) (Kd.R_far (p := ⟨gb668, 0, none⟩) (Kd.R_types HO673.out BK668.out (by decide)) (fun _ hk => hk.2) (.slice Ao24 t671.length co24)) (fun _ hk => hk.2) (.slice Ao26 t674.length co26)) (fun _ hk => trivial))⟩, ⟨pR (Kd.R_mono (Kd.R_far (p := ⟨gb668, 1, none⟩) (Kd.R_far (p := ⟨gb668, 0, none⟩) (Kd.R_types HO676.out BK668.out (by decide)) (fun _ hk => hk.2) (.slice Ao24 t671.length co24)) (fun _ hk => hk.2) (.slice Ao26 t674.length co26)) (fun _ hk => trivial))⟩, ⟨by (with_reducible repeat (first | refine blk_drewN ?_ _ | refine blk_drew ?_ | refine blk_alloc ?_ _)); refine blk_put (cs := #[.slice Ao24 t671.length co24, .slice A0_1 l0_1.length c0_1]) ?_ 1 _ rfl; (with_reducible repeat (first | refine blk_drewN ?_ _ | refine blk_drew ?_ | refine blk_alloc ?_ _)); refine blk_put (cs := #[.slice A0_0 l0_0.length c0_0, .slice A0_1 l0_1.length c0_1]) ?_ 0 _ rfl; (with_reducible repeat (first | refine blk_drewN ?_ _ | refine blk_drew ?_ | refine blk_alloc ?_ _)); exact BK668.out⟩, ⟨by (with_reducible repeat (first | refine blk_drewN ?_ _ | refine blk_drew ?_ | refine blk_alloc ?_ _)); refine blk_far ?_ NB669_668.out _; (with_reducible repeat (first | refine blk_drewN ?_ _ | refine blk_drew ?_ | refine blk_alloc ?_ _)); refine blk_far ?_ NB669_668.out _; (with_reducible repeat (first | refine blk_drewN ?_ _ | refine blk_drew ?_ | refine blk_alloc ?_ _)); exact BK669.out⟩, ⟨pS HB.out⟩⟩
    case round =>
     clear H'
     try clear c1
     try clear c2
     try clear p2
     try clear c3
     try clear c4
     try clear c6
     try clear c10
     try clear c11
     try clear c14
     try clear c17
     try clear c18
     try clear c21
     try clear hcz12_0
     try clear hcz12_1
     try clear hcz15_0
     try clear hcz15_1
     try clear hcz19_0
     try clear hcz19_1
     try clear hcz22_0
     try clear hcz22_1
     try clear hcz25_0
     try clear hcz25_1
     try clear hfz12_0
     try clear hfz12_1
     try clear hfz15_0
     try clear hfz15_1
     try clear hfz19_0
     try clear hfz19_1
     try clear hfz22_0
     try clear hfz22_1
     try clear hfz25_0
     try clear hfz25_1
     try clear p2
     obtain ⟨x11_2, x669000_2, x669001_2, u669000, u669001, rfl, HA, HK2, HO_669000, HO_669001, BK668, BK669, HB⟩ := hrel
     cases gk with
     | zero => exact absurd HA.out (by simp [spec_WalDo.l0])
     | succ k2 =>
      have H := HA.out
      clear HA
      simp only [spec_WalDo.l0] at H
      by_cases c27 : x11_2 < (l1.length : Int)
      ·rw [if_pos c27] at H
       have c27b0 : decide (x11_2 < (l1.length : Int)) = true := decide_eq_true c27
       clear c27
       have HC28 := Aside0.mk H
       clear H
       go_upto_region 7 with (fail)
       go_cut [34] (fun v34 wc => ∃ (kq : Nat) (x34_27 : Bool), v34 = .bool x34_27 ∧ Aside0 (spec_WalDo.j2 kq l1 a2 a3 l4 x11_2 x34_27 x669000_2 x669001_2 = some (r1, r2)) ∧ Aside0 (kq ≤ k2) ∧ Aside0 (Kd.R Kd.string 9 wc w.heap.size (fun _ => True) u669000 x669000_2) ∧ Aside0 (Kd.R k75 75 wc w.heap.size (fun _ => True) u669001 x669001_2) ∧ Aside0 (wc.heap[gb668]? = some (.cells #[u669000, u669001] 31 (0, 0))) ∧ Aside0 (wc.heap[gb669]? = some (.cells #[(.slice none 0 0), (.slice none 0 0)] 31 (0, 0))) ∧ Aside0 (Below w.heap.size w wc))
       case first =>
        have H := HC28.out
        clear HC28
        by_cases c29 : a2 = true
        ·subst c29
         have H1 : (spec_WalDo.j2 k2 l1 true a3 l4 x11_2 (decide (x11_2 ≥ a3)) x669000_2 x669001_2) = some (r1, r2) := by rw [if_pos rfl] at H; exact H
         clear H
         have H := H1
         clear H1
         have H' := Aside0.mk H
         clear H
         go_wp2
         go_meet
         case rel => exact ⟨_, (decide (x11_2 ≥ a3)), (by first | rfl | (simp; done) | (simp [*]; done)), H', ⟨by have := HJ5.out; have := HK2.out; first | omega | exact Nat.le_refl _⟩, ⟨pR HO_669000.out⟩, ⟨pR HO_669001.out⟩, ⟨pK BK668.out⟩, ⟨pK BK669.out⟩, ⟨pS HB.out⟩⟩
        ·replace c29 := Bool.eq_false_iff.mpr c29
         subst c29
         have H1 : (spec_WalDo.j2 k2 l1 false a3 l4 x11_2 false x669000_2 x669001_2) = some (r1, r2) := by rw [if_neg (show ¬ (false = true) by decide)] at H; exact H
         clear H
         have H := H1
         clear H1
         have H' := Aside0.mk H
         clear H
         go_wp2
         go_meet
         case rel => exact ⟨_, (false), (by first | rfl | (simp; done) | (simp [*]; done)), H', ⟨by have := HJ5.out; have := HK2.out; first | omega | exact Nat.le_refl _⟩, ⟨pR HO_669000.out⟩, ⟨pR HO_669001.out⟩, ⟨pK BK668.out⟩, ⟨pK BK669.out⟩, ⟨pS HB.out⟩⟩
       case rest =>
        clear HC28
        try clear c1
        try clear c2
        try clear p2
        try clear c3
        try clear c4
        try clear c6
        try clear c10
        try clear c11
        try clear c14
        try clear c17
        try clear c18
        try clear c21
        try clear c27
        try clear c27b0
        try clear c29
        try clear hcz12_0
        try clear hcz12_1
        try clear hcz15_0
        try clear hcz15_1
        try clear hcz19_0
        try clear hcz19_1
        try clear hcz22_0
        try clear hcz22_1
        try clear hcz25_0
        try clear hcz25_1
        try clear hfz12_0
        try clear hfz12_1
        try clear hfz15_0
        try clear hfz15_1
        try clear hfz19_0
        try clear hfz19_1
        try clear hfz22_0
        try clear hfz22_1
        try clear hfz25_0
        try clear hfz25_1
        try clear p2
        obtain ⟨kq, x34_27, rfl, HA, HJ27, HO_669000, HO_669001, BK668, BK669, HB⟩ := hcut
        cases kq with
        | zero => exact absurd HA.out (by simp [spec_WalDo.j2])
        | succ kj27 =>
         have H := HA.out
         clear HA
         simp only [spec_WalDo.j2] at H
         by_cases c30 : x34_27 = true
         ·subst c30
          have H1 : ((spec_SecCut.f kj27 x669000_2 x669001_2 l4).bind fun bt683 => (some (bt683.1, bt683.2))) = some (r1, r2) := by rw [if_pos rfl] at H; exact H
          clear H
          have H := H1
          clear H1
          replace H := Option.bind_eq_some_iff.mp H
          obtain ⟨⟨t683, t686⟩, A310, H⟩ := H
          replace H : (some (t683, t686)) = some (r1, r2) := H
          have A31 := Aside0.mk A310
          clear A310
          simp only [Option.some.injEq, Prod.mk.injEq] at H
          obtain ⟨rfl, rfl⟩ := H
          have hnb32 := NB668_669.out
          have hnc32 := NB669_668.out
          have hcz33_0 : wc.cell? ⟨gb668, 0, none⟩ = some (u669000) := (blk_cell BK668.out 0).trans rfl
          have hcz33_1 : wc.cell? ⟨gb668, 1, none⟩ = some (u669001) := (blk_cell BK668.out 1).trans rfl
          have hfz33_0 := blk_frozen BK668.out 0
          have hfz33_1 := blk_frozen BK668.out 1
          obtain ⟨Ao34, co34, eo34⟩ := Kd.R_slice HO_669000.out
          subst eo34
          obtain ⟨Ao35, co35, eo35⟩ := Kd.R_slice HO_669001.out
          subst eo35
          go_wp2_with (first | ((with_reducible refine gate_callee (f := 70) rfl ?_); refine goesL_ (some 37) rfl rfl Try.func70 (by kernel_rfl) rfl #[.agg #[.slice Ao34 x669000_2.length co34, .slice Ao35 x669001_2.length co35], .slice A4 l4.length c4] rfl bM ?_; (with_reducible refine (spec_SecCut.calls kj27 _ _ x669000_2 _ _ x669001_2 _ _ l4 t683 t686 _ ?side1 ?side2 ?side3 ?side4 ?side5 ?side6 A31.out).mono ?_); (case side1 => exact pC (Kd.R_reads' HO_669000.out).2.2); (case side2 => exact (Kd.R_reads' HO_669000.out).2.1); (case side3 => exact pC (Kd.R_reads' HO_669001.out).2.2); (case side4 => exact (Kd.R_reads' HO_669001.out).2.1); (case side5 => exact pC (Kd.C_below HR4.out HB.out)); (case side6 => exact HC4.out); rintro e w36 ⟨v684, v687, rfl, ho0, ho1, hb⟩; refine ⟨_, rfl, ?_⟩; have n0_ := Aside0.mk (Kd.R_elder' (pR HO_669000.out) (Kd.R_base ho0) hb); have n1_ := Aside0.mk (Kd.R_elder' (pR HO_669001.out) (Kd.R_base ho1) hb); have n2_ := Aside0.mk (Kd.R_lower (Kd.R_new' ho0 (Kd.R_lt (pR HO_669000.out))) (below_size (pS HB.out))); have n3_ := Aside0.mk (Kd.R_lower (Kd.R_new' ho1 (Kd.R_lt (pR HO_669001.out))) (below_size (pS HB.out))); have n4_ := Aside0.mk (blk_below (pK BK668.out) hb); have n5_ := Aside0.mk (blk_below (pK BK669.out) hb); have n6_ := Aside0.mk (below_step (pS HB.out) hb); clear HO_669000; clear HO_669001; clear BK668; clear BK669; clear HB; have HO_669000 := n0_; have HO_669001 := n1_; have HO685 := n2_; have HO688 := n3_; have BK668 := n4_; have BK669 := n5_; have HB := n6_; clear n0_ n1_ n2_ n3_ n4_ n5_ n6_; (try clear hb); (try clear hb2); (try clear hk); (try clear hi); (try clear ho0); (try clear ho1); obtain ⟨Ao37, co37, eo37⟩ := Kd.R_slice HO685.out; subst eo37; have hcz38_0 : w36.cell? ⟨gb669, 0, none⟩ = some (.slice none 0 0) := (blk_cell BK669.out 0).trans rfl; have hcz38_1 : w36.cell? ⟨gb669, 1, none⟩ = some (.slice none 0 0) := (blk_cell BK669.out 1).trans rfl; have hfz38_0 := blk_frozen BK669.out 0; have hfz38_1 := blk_frozen BK669.out 1; obtain ⟨Ao39, co39, eo39⟩ := Kd.R_slice HO688.out; subst eo39))
          refine bodyPost_ret (results_cell_row rfl _ _ gb669 31 #[.slice Ao37 t683.length co37, .slice Ao39 t686.length co39] (0, 0) _ rfl (by (with_reducible repeat (first | refine blk_drewN ?_ _ | refine blk_drew ?_ | refine blk_alloc ?_ _)); refine blk_put (cs := #[.slice Ao37 t683.length co37, .slice none 0 0]) ?_ 1 _ rfl; (with_reducible repeat (first | refine blk_drewN ?_ _ | refine blk_drew ?_ | refine blk_alloc ?_ _)); refine blk_put (cs := #[.slice none 0 0, .slice none 0 0]) ?_ 0 _ rfl; (with_reducible repeat (first | refine blk_drewN ?_ _ | refine blk_drew ?_ | refine blk_alloc ?_ _)); exact BK669.out) Try.underlying31 rfl (by kernel_rfl)) rfl ?_
          exact ⟨_, _, by first | rfl | (simp [errW_none, errW_some] <;> rfl) | (simp [*, errW_none, errW_some] <;> rfl), pR (Kd.R_mono (Kd.R_far (p := ⟨gb669, 1, none⟩) (Kd.R_far (p := ⟨gb669, 0, none⟩) (Kd.R_types HO685.out BK669.out (by decide)) (fun _ hk => hk.2) (.slice Ao37 t683.length co37)) (fun _ hk => hk.2) (.slice Ao39 t686.length co39)) (fun _ hk => trivial)), pR (Kd.R_mono (Kd.R_far (p := ⟨gb669, 1, none⟩) (Kd.R_far (p := ⟨gb669, 0, none⟩) (Kd.R_types HO688.out BK669.out (by decide)) (fun _ hk => hk.2) (.slice Ao37 t683.length co37)) (fun _ hk => hk.2) (.slice Ao39 t686.length co39)) (fun _ hk => trivial)), pS HB.out⟩
         ·replace c30 := Bool.eq_false_iff.mpr c30
          subst c30
          have H1 : (if 0 ≤ x11_2 then (if x11_2 < (l1.length : Int) then (if (rd_T61 l1 x11_2).f0 = true then ((spec_SecFlush.f kj27 x669000_2 x669001_2).bind fun bt690 => (spec_WalDo.l0 kj27 l1 a2 a3 l4 (wrap64 (x11_2 + 1)) bt690.1 bt690.2)) else ((spec_SecPut.f kj27 x669000_2 x669001_2 ((rd_T61 l1 x11_2).f1) ((rd_T61 l1 x11_2).f2)).bind fun bt698 => (spec_WalDo.l0 kj27 l1 a2 a3 l4 (wrap64 (x11_2 + 1)) bt698.1 bt698.2.1))) else (none)) else (none)) = some (r1, r2) := by rw [if_neg (show ¬ (false = true) by decide)] at H; exact H
          clear H
          have H := H1
          clear H1
          by_cases c40 : 0 ≤ x11_2
          ·rw [if_pos c40] at H
           have c40b0 : decide (0 ≤ x11_2) = true := decide_eq_true c40
           clear c40
           by_cases c41 : x11_2 < (l1.length : Int)
           ·rw [if_pos c41] at H
            have c41b0 : decide (x11_2 < (l1.length : Int)) = true := decide_eq_true c41
            clear c41
            obtain ⟨bq42, hbq42⟩ : ∃ b_ : Bool, b_ = ((rd_T61 l1 x11_2).f0) := ⟨_, rfl⟩
            replace H : (if bq42 = true then ((spec_SecFlush.f kj27 x669000_2 x669001_2).bind fun bt690 => (spec_WalDo.l0 kj27 l1 a2 a3 l4 (wrap64 (x11_2 + 1)) bt690.1 bt690.2)) else ((spec_SecPut.f kj27 x669000_2 x669001_2 ((rd_T61 l1 x11_2).f1) ((rd_T61 l1 x11_2).f2)).bind fun bt698 => (spec_WalDo.l0 kj27 l1 a2 a3 l4 (wrap64 (x11_2 + 1)) bt698.1 bt698.2.1))) = some (r1, r2) := by rw [← hbq42] at H; exact H
            have Nbq42 := Aside0.mk hbq42
            clear hbq42
            by_cases c43 : bq42 = true
            ·subst c43
             have H1 : ((spec_SecFlush.f kj27 x669000_2 x669001_2).bind fun bt690 => (spec_WalDo.l0 kj27 l1 a2 a3 l4 (wrap64 (x11_2 + 1)) bt690.1 bt690.2)) = some (r1, r2) := by rw [if_pos rfl] at H; exact H
             clear H
             have H := H1
             clear H1
             replace H := Option.bind_eq_some_iff.mp H
             obtain ⟨⟨t690, t693⟩, A440, H⟩ := H
             replace H : (spec_WalDo.l0 kj27 l1 a2 a3 l4 (wrap64 (x11_2 + 1)) t690 t693) = some (r1, r2) := H
             have A44 := Aside0.mk A440
             clear A440
             have H' := Aside0.mk H
             clear H
             have p689 : 0 ≤ (x11_2 : Int) := of_decide_eq_true bA
             have q689 : x11_2 < (l1.length : Int) := of_decide_eq_true bA
             obtain ⟨ad689, e689, hx689_0, hx689_1, hx689_2⟩ := at_T61 HR1.out x11_2 p689 q689
             (try rw [← Nbq42.out] at hx689_0)
             cases e689
             replace hx689_0 := (HB.out.cell (World.block_lt_of_cell? w _ hx689_0)).trans hx689_0
             replace hx689_1 := (HB.out.cell (World.block_lt_of_cell? w _ hx689_1)).trans hx689_1
             replace hx689_2 := (HB.out.cell (World.block_lt_of_cell? w _ hx689_2)).trans hx689_2
             replace p689 := eq_true p689
             replace q689 := eq_true q689
             have hnb45 := NB668_669.out
             have hnc45 := NB669_668.out
             have hcz46_0 : wc.cell? ⟨gb668, 0, none⟩ = some (u669000) := (blk_cell BK668.out 0).trans rfl
             have hcz46_1 : wc.cell? ⟨gb668, 1, none⟩ = some (u669001) := (blk_cell BK668.out 1).trans rfl
             have hfz46_0 := blk_frozen BK668.out 0
             have hfz46_1 := blk_frozen BK668.out 1
             obtain ⟨Ao47, co47, eo47⟩ := Kd.R_slice HO_669000.out
             subst eo47
             obtain ⟨Ao48, co48, eo48⟩ := Kd.R_slice HO_669001.out
             subst eo48
             go_wp2_with (first | ((with_reducible refine gate_callee (f := 45) rfl ?_); refine goesL_ (some 44) rfl rfl Try.func45 (by kernel_rfl) rfl #[.agg #[.slice Ao47 x669000_2.length co47, .slice Ao48 x669001_2.length co48]] rfl bM ?_; (with_reducible refine (spec_SecFlush.calls kj27 _ _ x669000_2 _ _ x669001_2 t690 t693 _ ?side1 ?side2 ?side3 ?side4 A44.out).mono ?_); (case side1 => exact pC (Kd.R_reads' HO_669000.out).2.2); (case side2 => exact (Kd.R_reads' HO_669000.out).2.1); (case side3 => exact pC (Kd.R_reads' HO_669001.out).2.2); (case side4 => exact (Kd.R_reads' HO_669001.out).2.1); rintro e w49 ⟨v691, v694, rfl, ho0, ho1, hb⟩; refine ⟨_, rfl, ?_⟩; have n0_ := Aside0.mk (Kd.R_elder' (pR HO_669000.out) (Kd.R_base ho0) hb); have n1_ := Aside0.mk (Kd.R_elder' (pR HO_669001.out) (Kd.R_base ho1) hb); have n2_ := Aside0.mk (Kd.R_lower (Kd.R_new' ho0 (Kd.R_lt (pR HO_669000.out))) (below_size (pS HB.out))); have n3_ := Aside0.mk (Kd.R_lower (Kd.R_new' ho1 (Kd.R_lt (pR HO_669001.out))) (below_size (pS HB.out))); have n4_ := Aside0.mk (blk_below (pK BK668.out) hb); have n5_ := Aside0.mk (blk_below (pK BK669.out) hb); have n6_ := Aside0.mk (below_step (pS HB.out) hb); clear HO_669000; clear HO_669001; clear BK668; clear BK669; clear HB; have HO_669000 := n0_; have HO_669001 := n1_; have HO692 := n2_; have HO695 := n3_; have BK668 := n4_; have BK669 := n5_; have HB := n6_; clear n0_ n1_ n2_ n3_ n4_ n5_ n6_; (try clear hb); (try clear hb2); (try clear hk); (try clear hi); (try clear ho0); (try clear ho1); obtain ⟨Ao50, co50, eo50⟩ := Kd.R_slice HO692.out; subst eo50; have hcz51_0 : w49.cell? ⟨gb668, 0, none⟩ = some (.slice Ao47 x669000_2.length co47) := (blk_cell BK668.out 0).trans rfl; have hcz51_1 : w49.cell? ⟨gb668, 1, none⟩ = some (.slice Ao48 x669001_2.length co48) := (blk_cell BK668.out 1).trans rfl; have hfz51_0 := blk_frozen BK668.out 0; have hfz51_1 := blk_frozen BK668.out 1; obtain ⟨Ao52, co52, eo52⟩ := Kd.R_slice HO695.out; subst eo52))
             go_roundg kj27
             case measure => have := HJ5.out; have := HK2.out; have := HJ27.out; omega
             case rel => exact ⟨(wrap64 (x11_2 + 1)), (t690), (t693), (.slice Ao50 t690.length co50), (.slice Ao52 t693.length co52), (by first | rfl | (simp; done) | (simp [*]; done)), H', ⟨by have := HJ5.out; have := HK2.out; have := HJ27.out; omega⟩, ⟨pR (Kd.R_mono (Kd.R_far (p := ⟨gb668, 1, none⟩) (Kd.R_far (p := ⟨gb668, 0, none⟩) (Kd.R_types HO692.out BK668.out (by decide)) (fun _ hk => hk.2) (.slice Ao50 t690.length co50)) (fun _ hk => hk.2) (.slice Ao52 t693.length co52)) (fun _ hk => trivial))⟩, ⟨pR (Kd.R_mono (Kd.R_far (p := ⟨gb668, 1, none⟩) (Kd.R_far (p := ⟨gb668, 0, none⟩) (Kd.R_types HO695.out BK668.out (by decide)) (fun _ hk => hk.2) (.slice Ao50 t690.length co50)) (fun _ hk => hk.2) (.slice Ao52 t693.length co52)) (fun _ hk => trivial))⟩, ⟨by (with_reducible repeat (first | refine blk_drewN ?_ _ | refine blk_drew ?_ | refine blk_alloc ?_ _)); refine blk_put (cs := #[.slice Ao50 t690.length co50, .slice Ao48 x669001_2.length co48]) ?_ 1 _ rfl; (with_reducible repeat (first | refine blk_drewN ?_ _ | refine blk_drew ?_ | refine blk_alloc ?_ _)); refine blk_put (cs := #[.slice Ao47 x669000_2.length co47, .slice Ao48 x669001_2.length co48]) ?_ 0 _ rfl; (with_reducible repeat (first | refine blk_drewN ?_ _ | refine blk_drew ?_ | refine blk_alloc ?_ _)); exact BK668.out⟩, ⟨by (with_reducible repeat (first | refine blk_drewN ?_ _ | refine blk_drew ?_ | refine blk_alloc ?_ _)); refine blk_far ?_ NB669_668.out _; (with_reducible repeat (first | refine blk_drewN ?_ _ | refine blk_drew ?_ | refine blk_alloc ?_ _)); refine blk_far ?_ NB669_668.out _; (with_reducible repeat (first | refine blk_drewN ?_ _ | refine blk_drew ?_ | refine blk_alloc ?_ _)); exact BK669.out⟩, ⟨pS HB.out⟩⟩
            ·replace c43 := Bool.eq_false_iff.mpr c43
             subst c43
             have H1 : ((spec_SecPut.f kj27 x669000_2 x669001_2 ((rd_T61 l1 x11_2).f1) ((rd_T61 l1 x11_2).f2)).bind fun bt698 => (spec_WalDo.l0 kj27 l1 a2 a3 l4 (wrap64 (x11_2 + 1)) bt698.1 bt698.2.1)) = some (r1, r2) := by rw [if_neg (show ¬ (false = true) by decide)] at H; exact H
             clear H
             have H := H1
             clear H1
             replace H := Option.bind_eq_some_iff.mp H
             obtain ⟨⟨t698, t701, t704⟩, A530, H⟩ := H
             replace H : (spec_WalDo.l0 kj27 l1 a2 a3 l4 (wrap64 (x11_2 + 1)) t698 t701) = some (r1, r2) := H
             have A53 := Aside0.mk A530
             clear A530
             have H' := Aside0.mk H
             clear H
             have p689 : 0 ≤ (x11_2 : Int) := of_decide_eq_true bA
             have q689 : x11_2 < (l1.length : Int) := of_decide_eq_true bA
             obtain ⟨ad689, e689, hx689_0, hx689_1, hx689_2⟩ := at_T61 HR1.out x11_2 p689 q689
             (try rw [← Nbq42.out] at hx689_0)
             cases e689
             replace hx689_0 := (HB.out.cell (World.block_lt_of_cell? w _ hx689_0)).trans hx689_0
             replace hx689_1 := (HB.out.cell (World.block_lt_of_cell? w _ hx689_1)).trans hx689_1
             replace hx689_2 := (HB.out.cell (World.block_lt_of_cell? w _ hx689_2)).trans hx689_2
             replace p689 := eq_true p689
             replace q689 := eq_true q689
             try go_wp2
             have n0_ := Aside0.mk (Kd.R_drew HO_669000.out)
             have n1_ := Aside0.mk (Kd.R_drew HO_669001.out)
             have n2_ := Aside0.mk (blk_drew BK668.out)
             have n3_ := Aside0.mk (blk_drew BK669.out)
             have n4_ := Aside0.mk (below_drew1 HB.out)
             clear HO_669000
             clear HO_669001
             clear BK668
             clear BK669
             clear HB
             have HO_669000 := n0_
             have HO_669001 := n1_
             have BK668 := n2_
             have BK669 := n3_
             have HB := n4_
             clear n0_ n1_ n2_ n3_ n4_
             have p696 : 0 ≤ (x11_2 : Int) := of_decide_eq_true bA
             have q696 : x11_2 < (l1.length : Int) := of_decide_eq_true bA
             obtain ⟨ad696, e696, hx696_0, hx696_1, hx696_2⟩ := at_T61 HR1.out x11_2 p696 q696
             have hw696_2 := hx696_2
             (try rw [← Nbq42.out] at hw696_2)
             have hw696_1 := hx696_1
             (try rw [← Nbq42.out] at hw696_1)
             have hw696_0 := hx696_0
             (try rw [← Nbq42.out] at hw696_0)
             (try rw [← Nbq42.out] at hx696_0)
             obtain rfl : ad689 = ad696 := (by injection e696)
             replace hx696_0 := (HB.out.cell (World.block_lt_of_cell? w _ hx696_0)).trans hx696_0
             replace hx696_1 := (HB.out.cell (World.block_lt_of_cell? w _ hx696_1)).trans hx696_1
             replace hx696_2 := (HB.out.cell (World.block_lt_of_cell? w _ hx696_2)).trans hx696_2
             replace p696 := eq_true p696
             replace q696 := eq_true q696
             have p697 : 0 ≤ (x11_2 : Int) := of_decide_eq_true bA
             have q697 : x11_2 < (l1.length : Int) := of_decide_eq_true bA
             obtain ⟨ad697, e697, hx697_0, hx697_1, hx697_2⟩ := at_T61 HR1.out x11_2 p697 q697
             have hw697_2 := hx697_2
             (try rw [← Nbq42.out] at hw697_2)
             have hw697_1 := hx697_1
             (try rw [← Nbq42.out] at hw697_1)
             have hw697_0 := hx697_0
             (try rw [← Nbq42.out] at hw697_0)
             (try rw [← Nbq42.out] at hx697_0)
             obtain rfl : ad689 = ad697 := (by injection e697)
             replace hx697_0 := (HB.out.cell (World.block_lt_of_cell? w _ hx697_0)).trans hx697_0
             replace hx697_1 := (HB.out.cell (World.block_lt_of_cell? w _ hx697_1)).trans hx697_1
             replace hx697_2 := (HB.out.cell (World.block_lt_of_cell? w _ hx697_2)).trans hx697_2
             replace p697 := eq_true p697
             replace q697 := eq_true q697
             obtain ⟨Ao55, co55, eo55⟩ := Kd.R_slice HO_669000.out
             (first | subst eo55 | (injection eo55 with f1_ f2_ f3_; have f4_ := f1_.symm; have f5_ := f3_.symm; clear f1_ f2_ f3_; subst f4_; subst f5_))
             obtain ⟨Ao56, co56, eo56⟩ := Kd.R_slice HO_669001.out
             (first | subst eo56 | (injection eo56 with f1_ f2_ f3_; have f4_ := f1_.symm; have f5_ := f3_.symm; clear f1_ f2_ f3_; subst f4_; subst f5_))
             refine start_ (n := 16) (S := fun w' => w'.cell? ⟨gb668, 0, none⟩ = some (.slice Ao55 x669000_2.length co55) ∧ w'.cell? ⟨gb668, 1, none⟩ = some (.slice Ao56 x669001_2.length co56) ∧ w'.cell? (ad689.add ((x11_2).toNat * 3)) = some (.bool (false)) ∧ w'.cell? ⟨(ad689.add ((x11_2).toNat * 3)).block, (ad689.add ((x11_2).toNat * 3)).off + 1, none⟩ = some (.int .i64 ((rd_T61 l1 x11_2).f1)) ∧ w'.cell? ⟨(ad689.add ((x11_2).toNat * 3)).block, (ad689.add ((x11_2).toNat * 3)).off + 2, none⟩ = some (.string ((rd_T61 l1 x11_2).f2)) ∧ w'.cell? (ad689.add ((x11_2).toNat * 3)) = some (.bool (false)) ∧ w'.cell? ⟨(ad689.add ((x11_2).toNat * 3)).block, (ad689.add ((x11_2).toNat * 3)).off + 1, none⟩ = some (.int .i64 ((rd_T61 l1 x11_2).f1)) ∧ w'.cell? ⟨(ad689.add ((x11_2).toNat * 3)).block, (ad689.add ((x11_2).toNat * 3)).off + 2, none⟩ = some (.string ((rd_T61 l1 x11_2).f2))) (ds := [15]) #[false, false, false, false, false, false, false, false, false, false, false, false, false, false, false, false] (by kernel_rfl) rfl rfl ⟨(blk_cell BK668.out 0).trans rfl, (blk_cell BK668.out 1).trans rfl, ((HB.out.cell (World.block_lt_of_cell? w _ hw696_0)).trans hw696_0), ((HB.out.cell (World.block_lt_of_cell? w _ hw696_1)).trans hw696_1), ((HB.out.cell (World.block_lt_of_cell? w _ hw696_2)).trans hw696_2), ((HB.out.cell (World.block_lt_of_cell? w _ hw697_0)).trans hw697_0), ((HB.out.cell (World.block_lt_of_cell? w _ hw697_1)).trans hw697_1), ((HB.out.cell (World.block_lt_of_cell? w _ hw697_2)).trans hw697_2)⟩ (fun hHeld => ?_); refine with_tabW spec_WalDo.tab11 spec_WalDo.bits11 (fun HT_ HW_ => ?_)
             generalize wc.drew = w54 at HO_669000 HO_669001 BK668 BK669 HB hx696_0 hx696_1 hx696_2 hx697_0 hx697_1 hx697_2 hHeld ⊢
             refine pure_ (i := 1) (N := some 47) (v := ?_) (a' := ?_) #[false, true, false, false, false, false, false, false, false, false, false, false, false, false, false, false] rfl rfl (any_of HT_.out (by kernel_rfl)) (fun _ _ _ h => h) (Or.inl ⟨by rfl, ?_⟩) ?_ ?_
             rotate_left
             ·intro w'
              go_simp
              with_reducible rfl
             rotate_left
             ·simp only [Act.put, List.setIfInBounds_toArray, List.set_cons_zero, List.set_cons_succ, i64_w, i32_w]
              rfl
             refine pure_ (i := 2) (N := some 48) (v := ?_) (a' := ?_) #[false, true, true, false, false, false, false, false, false, false, false, false, false, false, false, false] rfl rfl (any_of HT_.out (by kernel_rfl)) (fun _ _ _ h => h) (Or.inl ⟨by rfl, ?_⟩) ?_ ?_
             rotate_left
             ·intro w'
              go_simp
              with_reducible rfl
             rotate_left
             ·simp only [Act.put, List.setIfInBounds_toArray, List.set_cons_zero, List.set_cons_succ, i64_w, i32_w]
              rfl
             refine pure_ (i := 3) (N := some 49) (v := ?_) (a' := ?_) #[false, true, true, true, false, false, false, false, false, false, false, false, false, false, false, false] rfl rfl (any_of HT_.out (by kernel_rfl)) (fun _ _ _ h => h) (Or.inl ⟨by rfl, ?_⟩) ?_ ?_
             rotate_left
             ·intro w'
              go_simp
              with_reducible rfl
             rotate_left
             ·simp only [Act.put, List.setIfInBounds_toArray, List.set_cons_zero, List.set_cons_succ, i64_w, i32_w]
              rfl
             refine pure_ (i := 4) (N := some 50) (v := ?_) (a' := ?_) #[false, true, true, true, true, false, false, false, false, false, false, false, false, false, false, false] rfl rfl (any_of HT_.out (by kernel_rfl)) (fun _ _ _ h => h) (Or.inl ⟨by rfl, ?_⟩) ?_ ?_
             rotate_left
             ·intro w'
              go_simp
              with_reducible rfl
             rotate_left
             ·simp only [Act.put, List.setIfInBounds_toArray, List.set_cons_zero, List.set_cons_succ, i64_w, i32_w]
              rfl
             refine pure_ (i := 6) (N := some 52) (v := ?_) (a' := ?_) #[false, true, true, true, true, false, true, false, false, false, false, false, false, false, false, false] rfl rfl (any_of HT_.out (by kernel_rfl)) (fun _ _ _ h => h) (Or.inl ⟨by rfl, ?_⟩) ?_ ?_
             rotate_left
             ·intro w'
              go_simp
              with_reducible rfl
             rotate_left
             ·simp only [Act.put, List.setIfInBounds_toArray, List.set_cons_zero, List.set_cons_succ, i64_w, i32_w]
              rfl
             refine pure_ (i := 7) (N := some 53) (v := ?_) (a' := ?_) #[false, true, true, true, true, false, true, true, false, false, false, false, false, false, false, false] rfl rfl (any_of HT_.out (by kernel_rfl)) (fun _ _ _ h => h) (Or.inl ⟨by rfl, ?_⟩) ?_ ?_
             rotate_left
             ·intro w'
              go_simp
              with_reducible rfl
             rotate_left
             ·simp only [Act.put, List.setIfInBounds_toArray, List.set_cons_zero, List.set_cons_succ, i64_w, i32_w]
              rfl
             refine pure_ (i := 8) (N := some 54) (v := ?_) (a' := ?_) #[false, true, true, true, true, false, true, true, true, false, false, false, false, false, false, false] rfl rfl (any_of HT_.out (by kernel_rfl)) (fun _ _ _ h => h) (Or.inl ⟨by rfl, ?_⟩) ?_ ?_
             rotate_left
             ·intro w'
              go_simp
              with_reducible rfl
             rotate_left
             ·simp only [Act.put, List.setIfInBounds_toArray, List.set_cons_zero, List.set_cons_succ, i64_w, i32_w]
              rfl
             refine pure_ (i := 9) (N := some 55) (v := ?_) (a' := ?_) #[false, true, true, true, true, false, true, true, true, true, false, false, false, false, false, false] rfl rfl (any_of HT_.out (by kernel_rfl)) (fun _ _ _ h => h) (Or.inl ⟨by rfl, ?_⟩) ?_ ?_
             rotate_left
             ·intro w'
              go_simp
              with_reducible rfl
             rotate_left
             ·simp only [Act.put, List.setIfInBounds_toArray, List.set_cons_zero, List.set_cons_succ, i64_w, i32_w]
              rfl
             refine take_ (i := 0) (N := some 46) (v := ?_) (a' := ?_) #[true, true, true, true, true, false, true, true, true, true, false, false, false, false, false, false] rfl rfl (take_ofW HT_.out HW_.out (by kernel_rfl)) (fun _ _ _ h => h) (Or.inl ⟨by rfl, ?_⟩) hHeld ?_ ?_
             rotate_left
             ·rintro w' ⟨s0, s1, s2, s3, s4, s5, s6, s7⟩
              go_simp
              with_reducible rfl
             rotate_left
             ·simp only [Act.put, List.setIfInBounds_toArray, List.set_cons_zero, List.set_cons_succ, i64_w, i32_w]
              rfl
             refine take_ (i := 5) (N := some 51) (v := ?_) (a' := ?_) #[true, true, true, true, true, true, true, true, true, true, false, false, false, false, false, false] rfl rfl (take_ofW HT_.out HW_.out (by kernel_rfl)) (fun _ _ _ h => h) (Or.inl ⟨by rfl, ?_⟩) hHeld ?_ ?_
             rotate_left
             ·rintro w' ⟨s0, s1, s2, s3, s4, s5, s6, s7⟩
              go_simp
              with_reducible rfl
             rotate_left
             ·simp only [Act.put, List.setIfInBounds_toArray, List.set_cons_zero, List.set_cons_succ, i64_w, i32_w]
              rfl
             refine take_ (i := 10) (N := some 56) (v := ?_) (a' := ?_) #[true, true, true, true, true, true, true, true, true, true, true, false, false, false, false, false] rfl rfl (take_ofW HT_.out HW_.out (by kernel_rfl)) (fun _ _ _ h => h) (Or.inl ⟨by rfl, ?_⟩) hHeld ?_ ?_
             rotate_left
             ·rintro w' ⟨s0, s1, s2, s3, s4, s5, s6, s7⟩
              go_simp
              with_reducible rfl
             rotate_left
             ·simp only [Act.put, List.setIfInBounds_toArray, List.set_cons_zero, List.set_cons_succ, i64_w, i32_w]
              rfl
             refine one_ (i := 11) (N := some 57) #[true, true, true, true, true, true, true, true, true, true, true, true, false, false, false, false] rfl rfl (one_of HT_.out (by kernel_rfl)) (by decide) (fun K hK => ?_)
             refine goes_ Try.func71 (by kernel_rfl) rfl #[.agg #[.slice Ao55 x669000_2.length co55, .slice Ao56 x669001_2.length co56], .int .i64 ((rd_T61 l1 x11_2).f1), .string ((rd_T61 l1 x11_2).f2)] (by rfl) rfl rfl bM ?_
             with_reducible refine (spec_SecPut.calls kj27 _ _ x669000_2 _ _ x669001_2 ((rd_T61 l1 x11_2).f1) ((rd_T61 l1 x11_2).f2) t698 t701 t704 _ ?side1 ?side2 ?side3 ?side4 A53.out).mono ?_
             (case side1 => exact pC (Kd.R_reads' HO_669000.out).2.2)
             (case side2 => exact (Kd.R_reads' HO_669000.out).2.1)
             (case side3 => exact pC (Kd.R_reads' HO_669001.out).2.2)
             (case side4 => exact (Kd.R_reads' HO_669001.out).2.1)
             rintro e w57 ⟨v699, v702, rfl, ho0, ho1, hb⟩
             refine ⟨_, rfl, ?_⟩
             have n0_ := Aside0.mk (Kd.R_elder' (pR HO_669000.out) (Kd.R_base ho0) hb)
             have n1_ := Aside0.mk (Kd.R_elder' (pR HO_669001.out) (Kd.R_base ho1) hb)
             have n2_ := Aside0.mk (Kd.R_lower (Kd.R_new' ho0 (Kd.R_lt (pR HO_669000.out))) (below_size (pS HB.out)))
             have n3_ := Aside0.mk (Kd.R_lower (Kd.R_new' ho1 (Kd.R_lt (pR HO_669001.out))) (below_size (pS HB.out)))
             have n4_ := Aside0.mk (blk_below (pK BK668.out) hb)
             have n5_ := Aside0.mk (blk_below (pK BK669.out) hb)
             have n6_ := Aside0.mk (below_step (pS HB.out) hb)
             clear HO_669000
             clear HO_669001
             clear BK668
             clear BK669
             clear HB
             have HO_669000 := n0_
             have HO_669001 := n1_
             have HO700 := n2_
             have HO703 := n3_
             have BK668 := n4_
             have BK669 := n5_
             have HB := n6_
             clear n0_ n1_ n2_ n3_ n4_ n5_ n6_
             (try clear hb)
             (try clear hb2)
             (try clear hk)
             (try clear hi)
             (try clear ho0)
             (try clear ho1)
             obtain ⟨Ao58, co58, eo58⟩ := Kd.R_slice HO700.out
             (first | subst eo58 | (injection eo58 with f1_ f2_ f3_; have f4_ := f1_.symm; have f5_ := f3_.symm; clear f1_ f2_ f3_; subst f4_; subst f5_))
             obtain ⟨Ao60, co60, eo60⟩ := Kd.R_slice HO703.out
             (first | subst eo60 | (injection eo60 with f1_ f2_ f3_; have f4_ := f1_.symm; have f5_ := f3_.symm; clear f1_ f2_ f3_; subst f4_; subst f5_))
             refine hK.out _ _ ⟨(blk_cell BK668.out 0).trans rfl, (blk_cell BK668.out 1).trans rfl, ((HB.out.cell (World.block_lt_of_cell? w _ hw696_0)).trans hw696_0), ((HB.out.cell (World.block_lt_of_cell? w _ hw696_1)).trans hw696_1), ((HB.out.cell (World.block_lt_of_cell? w _ hw696_2)).trans hw696_2), ((HB.out.cell (World.block_lt_of_cell? w _ hw697_0)).trans hw697_0), ((HB.out.cell (World.block_lt_of_cell? w _ hw697_1)).trans hw697_1), ((HB.out.cell (World.block_lt_of_cell? w _ hw697_2)).trans hw697_2)⟩ (fun hHeld => ?_)
             clear hK K
             refine norm_ (a' := ?_) ?_ ?_
             rotate_left
             ·show Act.put _ (some 57) _ = _
              simp only [Act.put, List.setIfInBounds_toArray, List.set_cons_zero, List.set_cons_succ, i64_w, i32_w]
              rfl
             refine pure_ (i := 12) (N := some 45) (v := ?_) (a' := ?_) #[true, true, true, true, true, true, true, true, true, true, true, true, true, false, false, false] rfl rfl (any_of HT_.out (by kernel_rfl)) (fun _ _ _ h => h) (Or.inl ⟨by rfl, ?_⟩) ?_ ?_
             rotate_left
             ·intro w'
              go_simp
              with_reducible rfl
             rotate_left
             ·simp only [Act.put, List.setIfInBounds_toArray, List.set_cons_zero, List.set_cons_succ, i64_w, i32_w]
              rfl
             refine pure_ (i := 13) (N := some 58) (v := ?_) (a' := ?_) #[true, true, true, true, true, true, true, true, true, true, true, true, true, true, false, false] rfl rfl (any_of HT_.out (by kernel_rfl)) (fun _ _ _ h => h) (Or.inl ⟨by rfl, ?_⟩) ?_ ?_
             rotate_left
             ·intro w'
              go_simp
              with_reducible rfl
             rotate_left
             ·simp only [Act.put, List.setIfInBounds_toArray, List.set_cons_zero, List.set_cons_succ, i64_w, i32_w]
              rfl
             refine pure_ (i := 14) (N := some 59) (v := ?_) (a' := ?_) #[true, true, true, true, true, true, true, true, true, true, true, true, true, true, true, false] rfl rfl (any_of HT_.out (by kernel_rfl)) (fun _ _ _ h => h) (Or.inl ⟨by rfl, ?_⟩) ?_ ?_
             rotate_left
             ·intro w'
              go_simp
              with_reducible rfl
             rotate_left
             ·simp only [Act.put, List.setIfInBounds_toArray, List.set_cons_zero, List.set_cons_succ, i64_w, i32_w]
              rfl
             refine last_ (i := 15) (N := none) #[true, true, true, true, true, true, true, true, true, true, true, true, true, true, true, true] rfl rfl (one_of HT_.out (by kernel_rfl)) (by decide) (fun K hK => ?_)
             have hs59 : w57.cell? ⟨gb668, 0, none⟩ = some (.slice Ao55 x669000_2.length co55) := (blk_cell BK668.out 0).trans rfl
             have hfs59 := blk_frozen BK668.out 0
             have hns59_1 := NB669_668.out
             have hms59_1 := NB668_669.out
             have hs61 : w57.cell? ⟨gb668, 1, none⟩ = some (.slice Ao56 x669001_2.length co56) := (blk_cell BK668.out 1).trans rfl
             have hfs61 := blk_frozen BK668.out 1
             have hns61_1 := NB669_668.out
             have hms61_1 := NB668_669.out
             refine skip_ (w1 := ?_) (by rfl) rfl ?_ ?_
             rotate_left
             ·go_simp
              rfl
             refine hK.out _ _ ?_
             clear hK K
             refine done_ (done_of HT_.out (by kernel_rfl)) ?_
             try go_wp2
             go_roundg kj27
             case measure => have := HJ5.out; have := HK2.out; have := HJ27.out; omega
             case rel => exact ⟨(wrap64 (x11_2 + 1)), (t698), (t701), (.slice Ao58 t698.length co58), (.slice Ao60 t701.length co60), (by first | rfl | (simp; done) | (simp [*]; done)), H', ⟨by have := HJ5.out; have := HK2.out; have := HJ27.out; omega⟩, ⟨pR (Kd.R_mono (Kd.R_far (p := ⟨gb668, 1, none⟩) (Kd.R_far (p := ⟨gb668, 0, none⟩) (Kd.R_types HO700.out BK668.out (by decide)) (fun _ hk => hk.2) (.slice Ao58 t698.length co58)) (fun _ hk => hk.2) (.slice Ao60 t701.length co60)) (fun _ hk => trivial))⟩, ⟨pR (Kd.R_mono (Kd.R_far (p := ⟨gb668, 1, none⟩) (Kd.R_far (p := ⟨gb668, 0, none⟩) (Kd.R_types HO703.out BK668.out (by decide)) (fun _ hk => hk.2) (.slice Ao58 t698.length co58)) (fun _ hk => hk.2) (.slice Ao60 t701.length co60)) (fun _ hk => trivial))⟩, ⟨by (with_reducible repeat (first | refine blk_drewN ?_ _ | refine blk_drew ?_ | refine blk_alloc ?_ _)); refine blk_put (cs := #[.slice Ao58 t698.length co58, .slice Ao56 x669001_2.length co56]) ?_ 1 _ rfl; (with_reducible repeat (first | refine blk_drewN ?_ _ | refine blk_drew ?_ | refine blk_alloc ?_ _)); refine blk_put (cs := #[.slice Ao55 x669000_2.length co55, .slice Ao56 x669001_2.length co56]) ?_ 0 _ rfl; (with_reducible repeat (first | refine blk_drewN ?_ _ | refine blk_drew ?_ | refine blk_alloc ?_ _)); exact BK668.out⟩, ⟨by (with_reducible repeat (first | refine blk_drewN ?_ _ | refine blk_drew ?_ | refine blk_alloc ?_ _)); refine blk_far ?_ NB669_668.out _; (with_reducible repeat (first | refine blk_drewN ?_ _ | refine blk_drew ?_ | refine blk_alloc ?_ _)); refine blk_far ?_ NB669_668.out _; (with_reducible repeat (first | refine blk_drewN ?_ _ | refine blk_drew ?_ | refine blk_alloc ?_ _)); exact BK669.out⟩, ⟨pS HB.out⟩⟩
           ·rw [if_neg c41] at H
            exact absurd H (by simp)
          ·rw [if_neg c40] at H
           exact absurd H (by simp)
      ·rw [if_neg c27] at H
       have c27b0 : decide (x11_2 < (l1.length : Int)) = false := decide_eq_false c27
       clear c27
       by_cases c62 : a2 = true
       ·subst c62
        have H1 : ((spec_SecCut.f k2 x669000_2 x669001_2 l4).bind fun bt677 => (some (bt677.1, bt677.2))) = some (r1, r2) := by rw [if_pos rfl] at H; exact H
        clear H
        have H := H1
        clear H1
        replace H := Option.bind_eq_some_iff.mp H
        obtain ⟨⟨t677, t680⟩, A630, H⟩ := H
        replace H : (some (t677, t680)) = some (r1, r2) := H
        have A63 := Aside0.mk A630
        clear A630
        simp only [Option.some.injEq, Prod.mk.injEq] at H
        obtain ⟨rfl, rfl⟩ := H
        have hnb64 := NB668_669.out
        have hnc64 := NB669_668.out
        have hcz65_0 : wr.cell? ⟨gb668, 0, none⟩ = some (u669000) := (blk_cell BK668.out 0).trans rfl
        have hcz65_1 : wr.cell? ⟨gb668, 1, none⟩ = some (u669001) := (blk_cell BK668.out 1).trans rfl
        have hfz65_0 := blk_frozen BK668.out 0
        have hfz65_1 := blk_frozen BK668.out 1
        obtain ⟨Ao66, co66, eo66⟩ := Kd.R_slice HO_669000.out
        subst eo66
        obtain ⟨Ao67, co67, eo67⟩ := Kd.R_slice HO_669001.out
        subst eo67
        go_wp2_with (first | ((with_reducible refine gate_callee (f := 70) rfl ?_); refine goesL_ (some 63) rfl rfl Try.func70 (by kernel_rfl) rfl #[.agg #[.slice Ao66 x669000_2.length co66, .slice Ao67 x669001_2.length co67], .slice A4 l4.length c4] rfl bM ?_; (with_reducible refine (spec_SecCut.calls k2 _ _ x669000_2 _ _ x669001_2 _ _ l4 t677 t680 _ ?side1 ?side2 ?side3 ?side4 ?side5 ?side6 A63.out).mono ?_); (case side1 => exact pC (Kd.R_reads' HO_669000.out).2.2); (case side2 => exact (Kd.R_reads' HO_669000.out).2.1); (case side3 => exact pC (Kd.R_reads' HO_669001.out).2.2); (case side4 => exact (Kd.R_reads' HO_669001.out).2.1); (case side5 => exact pC (Kd.C_below HR4.out HB.out)); (case side6 => exact HC4.out); rintro e w68 ⟨v678, v681, rfl, ho0, ho1, hb⟩; refine ⟨_, rfl, ?_⟩; have n0_ := Aside0.mk (Kd.R_elder' (pR HO_669000.out) (Kd.R_base ho0) hb); have n1_ := Aside0.mk (Kd.R_elder' (pR HO_669001.out) (Kd.R_base ho1) hb); have n2_ := Aside0.mk (Kd.R_lower (Kd.R_new' ho0 (Kd.R_lt (pR HO_669000.out))) (below_size (pS HB.out))); have n3_ := Aside0.mk (Kd.R_lower (Kd.R_new' ho1 (Kd.R_lt (pR HO_669001.out))) (below_size (pS HB.out))); have n4_ := Aside0.mk (blk_below (pK BK668.out) hb); have n5_ := Aside0.mk (blk_below (pK BK669.out) hb); have n6_ := Aside0.mk (below_step (pS HB.out) hb); clear HO_669000; clear HO_669001; clear BK668; clear BK669; clear HB; have HO_669000 := n0_; have HO_669001 := n1_; have HO679 := n2_; have HO682 := n3_; have BK668 := n4_; have BK669 := n5_; have HB := n6_; clear n0_ n1_ n2_ n3_ n4_ n5_ n6_; (try clear hb); (try clear hb2); (try clear hk); (try clear hi); (try clear ho0); (try clear ho1); obtain ⟨Ao69, co69, eo69⟩ := Kd.R_slice HO679.out; subst eo69; have hcz70_0 : w68.cell? ⟨gb669, 0, none⟩ = some (.slice none 0 0) := (blk_cell BK669.out 0).trans rfl; have hcz70_1 : w68.cell? ⟨gb669, 1, none⟩ = some (.slice none 0 0) := (blk_cell BK669.out 1).trans rfl; have hfz70_0 := blk_frozen BK669.out 0; have hfz70_1 := blk_frozen BK669.out 1; obtain ⟨Ao71, co71, eo71⟩ := Kd.R_slice HO682.out; subst eo71))
        refine bodyPost_ret (results_cell_row rfl _ _ gb669 31 #[.slice Ao69 t677.length co69, .slice Ao71 t680.length co71] (0, 0) _ rfl (by (with_reducible repeat (first | refine blk_drewN ?_ _ | refine blk_drew ?_ | refine blk_alloc ?_ _)); refine blk_put (cs := #[.slice Ao69 t677.length co69, .slice none 0 0]) ?_ 1 _ rfl; (with_reducible repeat (first | refine blk_drewN ?_ _ | refine blk_drew ?_ | refine blk_alloc ?_ _)); refine blk_put (cs := #[.slice none 0 0, .slice none 0 0]) ?_ 0 _ rfl; (with_reducible repeat (first | refine blk_drewN ?_ _ | refine blk_drew ?_ | refine blk_alloc ?_ _)); exact BK669.out) Try.underlying31 rfl (by kernel_rfl)) rfl ?_
        exact ⟨_, _, by first | rfl | (simp [errW_none, errW_some] <;> rfl) | (simp [*, errW_none, errW_some] <;> rfl), pR (Kd.R_mono (Kd.R_far (p := ⟨gb669, 1, none⟩) (Kd.R_far (p := ⟨gb669, 0, none⟩) (Kd.R_types HO679.out BK669.out (by decide)) (fun _ hk => hk.2) (.slice Ao69 t677.length co69)) (fun _ hk => hk.2) (.slice Ao71 t680.length co71)) (fun _ hk => trivial)), pR (Kd.R_mono (Kd.R_far (p := ⟨gb669, 1, none⟩) (Kd.R_far (p := ⟨gb669, 0, none⟩) (Kd.R_types HO682.out BK669.out (by decide)) (fun _ hk => hk.2) (.slice Ao69 t677.length co69)) (fun _ hk => hk.2) (.slice Ao71 t680.length co71)) (fun _ hk => trivial)), pS HB.out⟩
       ·replace c62 := Bool.eq_false_iff.mpr c62
        subst c62
        have H1 : (some (x669000_2, x669001_2)) = some (r1, r2) := by rw [if_neg (show ¬ (false = true) by decide)] at H; exact H
        clear H
        have H := H1
        clear H1
        simp only [Option.some.injEq, Prod.mk.injEq] at H
        obtain ⟨rfl, rfl⟩ := H
        have hnb72 := NB668_669.out
        have hnc72 := NB669_668.out
        have hcz73_0 : wr.cell? ⟨gb668, 0, none⟩ = some (u669000) := (blk_cell BK668.out 0).trans rfl
        have hcz73_1 : wr.cell? ⟨gb668, 1, none⟩ = some (u669001) := (blk_cell BK668.out 1).trans rfl
        have hfz73_0 := blk_frozen BK668.out 0
        have hfz73_1 := blk_frozen BK668.out 1
        obtain ⟨Ao74, co74, eo74⟩ := Kd.R_slice HO_669000.out
        subst eo74
        have hcz75_0 : wr.cell? ⟨gb669, 0, none⟩ = some (.slice none 0 0) := (blk_cell BK669.out 0).trans rfl
        have hcz75_1 : wr.cell? ⟨gb669, 1, none⟩ = some (.slice none 0 0) := (blk_cell BK669.out 1).trans rfl
        have hfz75_0 := blk_frozen BK669.out 0
        have hfz75_1 := blk_frozen BK669.out 1
        obtain ⟨Ao76, co76, eo76⟩ := Kd.R_slice HO_669001.out
        subst eo76
        go_wp2
        refine bodyPost_ret (results_cell_row rfl _ _ gb669 31 #[.slice Ao74 x669000_2.length co74, .slice Ao76 x669001_2.length co76] (0, 0) _ rfl (by (with_reducible repeat (first | refine blk_drewN ?_ _ | refine blk_drew ?_ | refine blk_alloc ?_ _)); refine blk_put (cs := #[.slice Ao74 x669000_2.length co74, .slice none 0 0]) ?_ 1 _ rfl; (with_reducible repeat (first | refine blk_drewN ?_ _ | refine blk_drew ?_ | refine blk_alloc ?_ _)); refine blk_put (cs := #[.slice none 0 0, .slice none 0 0]) ?_ 0 _ rfl; (with_reducible repeat (first | refine blk_drewN ?_ _ | refine blk_drew ?_ | refine blk_alloc ?_ _)); exact BK669.out) Try.underlying31 rfl (by kernel_rfl)) rfl ?_
        exact ⟨_, _, by first | rfl | (simp [errW_none, errW_some] <;> rfl) | (simp [*, errW_none, errW_some] <;> rfl), pR (Kd.R_mono (Kd.R_far (p := ⟨gb669, 1, none⟩) (Kd.R_far (p := ⟨gb669, 0, none⟩) (Kd.R_types HO_669000.out BK669.out (by decide)) (fun _ hk => hk.2) (.slice Ao74 x669000_2.length co74)) (fun _ hk => hk.2) (.slice Ao76 x669001_2.length co76)) (fun _ hk => trivial)), pR (Kd.R_mono (Kd.R_far (p := ⟨gb669, 1, none⟩) (Kd.R_far (p := ⟨gb669, 0, none⟩) (Kd.R_types HO_669001.out BK669.out (by decide)) (fun _ hk => hk.2) (.slice Ao74 x669000_2.length co74)) (fun _ hk => hk.2) (.slice Ao76 x669001_2.length co76)) (fun _ hk => trivial)), pS HB.out⟩

/-! ### impl_copied_SecWrite: function 88 -/
def impl_copied_SecWrite.f (l0 : List S75) : Option (List S75) := if l0.length ≤ 11728124029610 then some l0 else none
set_option maxHeartbeats 8000000 in
set_option maxRecDepth 100000 in
theorem impl_copied_SecWrite.calls (A0 : Option Addr) (c0 : Nat) (l0 : List S75) (r : List S75) (w : World) (hr0 : Kd.C k75 w A0 l0.length l0) (hc0 : l0.length ≤ c0) (h : impl_copied_SecWrite.f l0 = some r) :
    Calls Try.prog 88 #[.slice A0 l0.length c0] w fun e w' => ∃ v0_ : Value, e = .returned (v0_) ∧ Kd.R k75 75 w' w.heap.size (fun _ => True) v0_ r ∧ Below w.heap.size w w' := by
  unfold impl_copied_SecWrite.f at h
  by_cases hz : l0.length ≤ 11728124029610
  · rw [if_pos hz] at h
    obtain rfl := Option.some.inj h
    have HR := Aside0.mk hr0
    have HZ := Aside0.mk hz
    clear hr0 hc0 h hz
    by_cases h0 : l0.length = 0
    · obtain rfl := List.eq_nil_of_length_eq_zero h0
      clear h0
      go_enter Try.func88, Try.ntmps88
      go_wp2
      go_ret
      exact ⟨_, rfl, Kd.R_nil _ _ _ _ _, Below.refl _ _⟩
    · have c0b : ((l0.length : Int) == 0) = false := beq_eq_false_iff_ne.mpr (by omega)
      have c0c : ((l0.length : Int) != 0) = true := bne_iff_ne.mpr (by omega)
      have c0d : ¬ (l0 = []) := fun h_ => h0 (by rw [h_]; rfl)
      clear h0
      have HB := Aside0.mk (Below.refl w.heap.size w)
      go_enter Try.func88, Try.ntmps88
      go_wp2_with (first
        | (refine Kd.R_make k75 _ 75 rfl (N := 9) rfl 29 _ _ rfl (l0.length : Int) rfl rfl Try.underlying29 (.agg #[(.int .i64 0), (.string ⟨#[]⟩)]) 24 info75 rfl (by decide) (by omega) z75 (ok := fun _ => True) (okp := fun _ => True) (k75_mkM _ _ _ z75) (fun _ hk => hk) trivial (Int.natCast_nonneg _) (by have hz := HZ.out; rw [Int.toNat_natCast]; omega) HB.out (Nat.le_refl _) ?_
           intro v1 w1 hR1 hB1 hg1 hn1
           rw [Int.toNat_natCast] at hR1
           have HR1 := Aside0.mk hR1
           have HB1 := Aside0.mk hB1
           have HC1 := Aside0.mk (Kd.C_below HR.out (below_of_grown hg1))
           clear hR1 hB1 hg1 hn1)
        | (refine R_copy k75 flat75 w.heap.size rfl _ _ 29 29 75 rfl Try.underlying29 (by rw [show (Try.prog.info? 75).map (·.size) = ((Try.prog.info? 75).map (fun i => (i.zero, i.size, i.bytes))).map (fun x => x.2.1) from by rw [Option.map_map]; rfl, info75]; rfl) _ _ _ _ _ l0 (fun _ => True) rfl rfl rfl (by simp) HR1.out HC1.out HB1.out ?_
           intro w2 hR2 hB2 _
           have HR2 := Aside0.mk hR2
           have HB2 := Aside0.mk hB2
           clear hR2 hB2))
      go_ret
      exact ⟨_, rfl, HR2.out, HB2.out⟩
  · rw [if_neg hz] at h; cases h

/-! ### impl_secCopy: function 64 -/
def impl_secCopy.f (l0_0 : List ByteArray) (l0_1 : List (S75)) : Option (List ByteArray × (List (S75))) := (impl_copied_string.f l0_0).bind fun t914 => ((impl_copied_SecWrite.f l0_1).bind fun t917 => (some (t914, t917)))
def impl_secCopy.T1 : Bool × List (List Nat × List Nat) := (true, [([], []), ([0], [0]), ([1], [1]), ([], []), ([3], [3]), ([4, 2], [4]), ([2, 5], [2, 5]), ([6, 5, 0, 1, 2, 3, 4, 5, 6], [6])])
def impl_secCopy.B1 : List Nat := [0, 1, 3, 0, 8, 31, 63, 127]
theorem impl_secCopy.tab1 : rtab .any (opsOf Try.f64 1) = impl_secCopy.T1 := by kernel_rfl
theorem impl_secCopy.bits1 : waitsOk impl_secCopy.T1.2 impl_secCopy.B1 = true := by kernel_rfl
set_option maxHeartbeats 8000000 in
set_option maxRecDepth 100000 in
theorem impl_secCopy.calls (A0_0 : Option Addr) (c0_0 : Nat) (l0_0 : List ByteArray) (A0_1 : Option Addr) (c0_1 : Nat) (l0_1 : List (S75)) (r1 : List ByteArray) (r2 : List (S75)) (w : World) (hr0_0 : Kd.C Kd.string w A0_0 l0_0.length l0_0) (hc0_0 : l0_0.length ≤ c0_0) (hr0_1 : Kd.C k75 w A0_1 l0_1.length l0_1) (hc0_1 : l0_1.length ≤ c0_1) (h : impl_secCopy.f l0_0 l0_1 = some (r1, r2)) :
  Calls Try.prog 64 #[.agg #[.slice A0_0 l0_0.length c0_0, .slice A0_1 l0_1.length c0_1]] w fun e w' => ∃ v0_ v1_ : Value, e = .returned (.agg #[v0_, v1_]) ∧ Kd.R Kd.string 9 w' w.heap.size (fun _ => True) v0_ r1 ∧ Kd.R k75 75 w' w.heap.size (fun _ => True) v1_ r2 ∧ Below w.heap.size w w' := by
 have hu31 := Try.underlying31
 have HR0_0 := Aside0.mk hr0_0
 have HC0_0 := Aside0.mk hc0_0
 clear hr0_0 hc0_0
 have HR0_1 := Aside0.mk hr0_1
 have HC0_1 := Aside0.mk hc0_1
 clear hr0_1 hc0_1
 have HB := Aside0.mk (Below.refl w.heap.size w)
 have H : ((impl_copied_string.f l0_0).bind fun t914 => ((impl_copied_SecWrite.f l0_1).bind fun t917 => (some (t914, t917)))) = some (r1, r2) := h
 clear h
 replace H := Option.bind_eq_some_iff.mp H
 obtain ⟨t914, A20, H⟩ := H
 replace H : ((impl_copied_SecWrite.f l0_1).bind fun t917 => (some (t914, t917))) = some (r1, r2) := H
 have A2 := Aside0.mk A20
 clear A20
 replace H := Option.bind_eq_some_iff.mp H
 obtain ⟨t917, A30, H⟩ := H
 replace H : (some (t914, t917)) = some (r1, r2) := H
 have A3 := Aside0.mk A30
 clear A30
 simp only [Option.some.injEq, Prod.mk.injEq] at H
 obtain ⟨rfl, rfl⟩ := H
 go_enter Try.func64, Try.ntmps64
 try go_wp2_with (first | ((with_reducible refine gate_dst (N := 1) rfl ?_); refine box_event ?hg (N := 1) ?hd (cs := #[.slice A0_0 l0_0.length c0_0, .slice A0_1 l0_1.length c0_1]) (t := 31) ?hr ?_; (case hd => rfl); (case hg => rfl); (case hr => first | (go_simp; done) | (go_simp; rfl)); intro gb912 hg w4 hbox hb; have n0_ := Aside0.mk (below_step (pB HB.out) hb); have n1_ := Aside0.mk (hbox); have n2_ := Aside0.mk ((by rw [hg]; exact (below_size (pB HB.out)) : w.heap.size ≤ gb912)); have n3_ := Aside0.mk ((by rw [hg]; exact (below_size (pB HB.out)) : w.heap.size ≤ gb912)); clear HB; have HB := n0_; have BK912 := n1_; have GW912 := n2_; have GE912 := n3_; clear n0_ n1_ n2_ n3_; clear hb hbox hg) | ((with_reducible refine gate_dst (N := 2) rfl ?_); refine box_event ?hg (N := 2) ?hd (cs := #[.slice none 0 0, .slice none 0 0]) (t := 31) ?hr ?_; (case hd => rfl); (case hg => rfl); (case hr => first | (go_simp; done) | (go_simp; rfl)); intro gb913 hg w5 hbox hb; have n0_ := Aside0.mk (blk_below (pK BK912.out) hb); have n1_ := Aside0.mk (below_step (pS HB.out) hb); have n2_ := Aside0.mk (hbox); have n3_ := Aside0.mk ((by rw [hg]; exact (below_size (pS HB.out)) : w.heap.size ≤ gb913)); have n4_ := Aside0.mk ((by rw [hg]; exact (below_size (pS HB.out)) : w.heap.size ≤ gb913)); have n5_ := Aside0.mk ((by rw [hg]; exact Nat.ne_of_lt (blk_lt (pK BK912.out)) : gb912 ≠ gb913)); have n6_ := Aside0.mk ((by rw [hg]; exact Nat.ne_of_gt (blk_lt (pK BK912.out)) : gb913 ≠ gb912)); clear BK912; clear HB; have BK912 := n0_; have HB := n1_; have BK913 := n2_; have GW913 := n3_; have GE913 := n4_; have NB912_913 := n5_; have NB913_912 := n6_; clear n0_ n1_ n2_ n3_ n4_ n5_ n6_; clear hb hbox hg))
 have n0_ := Aside0.mk (blk_drew BK912.out)
 have n1_ := Aside0.mk (blk_drew BK913.out)
 have n2_ := Aside0.mk (below_drew1 HB.out)
 clear BK912
 clear BK913
 clear HB
 have BK912 := n0_
 have BK913 := n1_
 have HB := n2_
 clear n0_ n1_ n2_
 refine start_ (n := 8) (S := fun w' => w'.cell? ⟨gb912, 0, none⟩ = some (.slice A0_0 l0_0.length c0_0) ∧ w'.cell? ⟨gb912, 1, none⟩ = some (.slice A0_1 l0_1.length c0_1)) (ds := []) #[false, false, false, false, false, false, false, false] (by kernel_rfl) rfl rfl ⟨(blk_cell BK912.out 0).trans rfl, (blk_cell BK912.out 1).trans rfl⟩ (fun hHeld => ?_); refine with_tabW impl_secCopy.tab1 impl_secCopy.bits1 (fun HT_ HW_ => ?_)
 generalize w5.drew = w6 at BK912 BK913 HB hHeld ⊢
 refine pure_ (i := 0) (N := some 3) (v := ?_) (a' := ?_) #[true, false, false, false, false, false, false, false] rfl rfl (any_of HT_.out (by kernel_rfl)) (fun _ _ _ h => h) (Or.inl ⟨by rfl, ?_⟩) ?_ ?_
 rotate_left
 ·intro w'
  go_simp
  with_reducible rfl
 rotate_left
 ·simp only [Act.put, List.setIfInBounds_toArray, List.set_cons_zero, List.set_cons_succ, i64_w, i32_w]
  rfl
 refine pure_ (i := 3) (N := some 6) (v := ?_) (a' := ?_) #[true, false, false, true, false, false, false, false] rfl rfl (any_of HT_.out (by kernel_rfl)) (fun _ _ _ h => h) (Or.inl ⟨by rfl, ?_⟩) ?_ ?_
 rotate_left
 ·intro w'
  go_simp
  with_reducible rfl
 rotate_left
 ·simp only [Act.put, List.setIfInBounds_toArray, List.set_cons_zero, List.set_cons_succ, i64_w, i32_w]
  rfl
 refine take_ (i := 1) (N := some 4) (v := ?_) (a' := ?_) #[true, true, false, true, false, false, false, false] rfl rfl (take_ofW HT_.out HW_.out (by kernel_rfl)) (fun _ _ _ h => h) (Or.inl ⟨by rfl, ?_⟩) hHeld ?_ ?_
 rotate_left
 ·rintro w' ⟨s0, s1⟩
  go_simp
  with_reducible rfl
 rotate_left
 ·simp only [Act.put, List.setIfInBounds_toArray, List.set_cons_zero, List.set_cons_succ, i64_w, i32_w]
  rfl
 refine take_ (i := 4) (N := some 7) (v := ?_) (a' := ?_) #[true, true, false, true, true, false, false, false] rfl rfl (take_ofW HT_.out HW_.out (by kernel_rfl)) (fun _ _ _ h => h) (Or.inl ⟨by rfl, ?_⟩) hHeld ?_ ?_
 rotate_left
 ·rintro w' ⟨s0, s1⟩
  go_simp
  with_reducible rfl
 rotate_left
 ·simp only [Act.put, List.setIfInBounds_toArray, List.set_cons_zero, List.set_cons_succ, i64_w, i32_w]
  rfl
 refine one_ (i := 2) (N := some 5) #[true, true, true, true, true, false, false, false] rfl rfl (one_of HT_.out (by kernel_rfl)) (by decide) (fun K hK => ?_)
 refine goes_ Try.func50 (by kernel_rfl) rfl #[.slice A0_0 l0_0.length c0_0] (by rfl) rfl rfl bM ?_
 with_reducible refine (impl_copied_string.calls _ _ l0_0 t914 _ ?side1 ?side2 A2.out).mono ?_
 (case side1 => exact pC (Kd.C_below HR0_0.out HB.out))
 (case side2 => exact HC0_0.out)
 rintro e w7 ⟨v915, rfl, ho0, hb⟩
 refine ⟨_, rfl, ?_⟩
 have n0_ := Aside0.mk (Kd.R_lower ho0 (below_size (pS HB.out)))
 have n1_ := Aside0.mk (blk_below (pK BK912.out) hb)
 have n2_ := Aside0.mk (blk_below (pK BK913.out) hb)
 have n3_ := Aside0.mk (below_step (pS HB.out) hb)
 clear BK912
 clear BK913
 clear HB
 have HO916 := n0_
 have BK912 := n1_
 have BK913 := n2_
 have HB := n3_
 clear n0_ n1_ n2_ n3_
 (try clear hb)
 (try clear hb2)
 (try clear hk)
 (try clear hi)
 (try clear ho0)
 refine hK.out _ _ ⟨(blk_cell BK912.out 0).trans rfl, (blk_cell BK912.out 1).trans rfl⟩ (fun hHeld => ?_)
 clear hK K
 refine norm_ (a' := ?_) ?_ ?_
 rotate_left
 ·show Act.put _ (some 5) _ = _
  simp only [Act.put, List.setIfInBounds_toArray, List.set_cons_zero, List.set_cons_succ, i64_w, i32_w]
  rfl
 refine one_ (i := 5) (N := some 8) #[true, true, true, true, true, true, false, false] rfl rfl (one_of HT_.out (by kernel_rfl)) (by decide) (fun K hK => ?_)
 refine goes_ Try.func88 (by kernel_rfl) rfl #[.slice A0_1 l0_1.length c0_1] (by rfl) rfl rfl bM ?_
 with_reducible refine (impl_copied_SecWrite.calls _ _ l0_1 t917 _ ?side1 ?side2 A3.out).mono ?_
 (case side1 => exact pC (Kd.C_below HR0_1.out HB.out))
 (case side2 => exact HC0_1.out)
 rintro e w8 ⟨v918, rfl, ho0, hb⟩
 refine ⟨_, rfl, ?_⟩
 have n0_ := Aside0.mk (Kd.R_below (pR HO916.out) hb)
 have n1_ := Aside0.mk (Kd.R_lower ho0 (below_size (pS HB.out)))
 have n2_ := Aside0.mk (blk_below (pK BK912.out) hb)
 have n3_ := Aside0.mk (blk_below (pK BK913.out) hb)
 have n4_ := Aside0.mk (below_step (pS HB.out) hb)
 clear HO916
 clear BK912
 clear BK913
 clear HB
 have HO916 := n0_
 have HO919 := n1_
 have BK912 := n2_
 have BK913 := n3_
 have HB := n4_
 clear n0_ n1_ n2_ n3_ n4_
 (try clear hb)
 (try clear hb2)
 (try clear hk)
 (try clear hi)
 (try clear ho0)
 obtain ⟨Ao9, co9, eo9⟩ := Kd.R_slice HO919.out
 (first | subst eo9 | (injection eo9 with f1_ f2_ f3_; have f4_ := f1_.symm; have f5_ := f3_.symm; clear f1_ f2_ f3_; subst f4_; subst f5_))
 obtain ⟨Ao10, co10, eo10⟩ := Kd.R_slice HO916.out
 (first | subst eo10 | (injection eo10 with f1_ f2_ f3_; have f4_ := f1_.symm; have f5_ := f3_.symm; clear f1_ f2_ f3_; subst f4_; subst f5_))
 refine hK.out _ _ ⟨(blk_cell BK912.out 0).trans rfl, (blk_cell BK912.out 1).trans rfl⟩ (fun hHeld => ?_)
 clear hK K
 refine norm_ (a' := ?_) ?_ ?_
 rotate_left
 ·show Act.put _ (some 8) _ = _
  simp only [Act.put, List.setIfInBounds_toArray, List.set_cons_zero, List.set_cons_succ, i64_w, i32_w]
  rfl
 refine pure_ (i := 6) (N := some 9) (v := ?_) (a' := ?_) #[true, true, true, true, true, true, true, false] rfl rfl (any_of HT_.out (by kernel_rfl)) (fun _ _ _ h => h) (Or.inl ⟨by rfl, ?_⟩) ?_ ?_
 rotate_left
 ·intro w'
  go_simp
  with_reducible rfl
 rotate_left
 ·simp only [Act.put, List.setIfInBounds_toArray, List.set_cons_zero, List.set_cons_succ, i64_w, i32_w]
  rfl
 refine one_ (i := 7) (N := none) #[true, true, true, true, true, true, true, true] rfl rfl (one_of HT_.out (by kernel_rfl)) (by decide) (fun K hK => ?_)
 have hs11 : w8.cell? ⟨gb913, 0, none⟩ = some (.slice none 0 0) := (blk_cell BK913.out 0).trans rfl
 have hfs11 := blk_frozen BK913.out 0
 have hns11_0 := NB912_913.out
 have hms11_0 := NB913_912.out
 have hs12 : w8.cell? ⟨gb913, 1, none⟩ = some (.slice none 0 0) := (blk_cell BK913.out 1).trans rfl
 have hfs12 := blk_frozen BK913.out 1
 have hns12_0 := NB912_913.out
 have hms12_0 := NB913_912.out
 refine skip_ (w1 := ?_) (by rfl) rfl ?_ ?_
 rotate_left
 ·go_simp
  rfl
 refine hK.out _ _ ⟨((cell_far (p := ⟨gb913, _, none⟩) NB912_913.out _).trans (((cell_far (p := ⟨gb913, _, none⟩) NB912_913.out _).trans (hHeld.1)))), ((cell_far (p := ⟨gb913, _, none⟩) NB912_913.out _).trans (((cell_far (p := ⟨gb913, _, none⟩) NB912_913.out _).trans (hHeld.2))))⟩ (fun hHeld => ?_)
 clear hK K
 refine done_ (done_of HT_.out (by kernel_rfl)) ?_
 try go_wp2
 refine bodyPost_ret (results_cell_row rfl _ _ gb913 31 #[.slice Ao10 t914.length co10, .slice Ao9 t917.length co9] (0, 0) _ rfl (by (with_reducible repeat (first | refine blk_drewN ?_ _ | refine blk_drew ?_ | refine blk_alloc ?_ _)); refine blk_put (cs := #[.slice Ao10 t914.length co10, .slice none 0 0]) ?_ 1 _ rfl; (with_reducible repeat (first | refine blk_drewN ?_ _ | refine blk_drew ?_ | refine blk_alloc ?_ _)); refine blk_put (cs := #[.slice none 0 0, .slice none 0 0]) ?_ 0 _ rfl; (with_reducible repeat (first | refine blk_drewN ?_ _ | refine blk_drew ?_ | refine blk_alloc ?_ _)); exact BK913.out) Try.underlying31 rfl (by kernel_rfl)) rfl ?_
 exact ⟨_, _, by first | rfl | (simp [errW_none, errW_some] <;> rfl) | (simp [*, errW_none, errW_some] <;> rfl), pR (Kd.R_mono (Kd.R_far (p := ⟨gb913, 1, none⟩) (Kd.R_far (p := ⟨gb913, 0, none⟩) (Kd.R_types HO916.out BK913.out (by decide)) (fun _ hk => hk.2) (.slice Ao10 t914.length co10)) (fun _ hk => hk.2) (.slice Ao9 t917.length co9)) (fun _ hk => trivial)), pR (Kd.R_mono (Kd.R_far (p := ⟨gb913, 1, none⟩) (Kd.R_far (p := ⟨gb913, 0, none⟩) (Kd.R_types HO919.out BK913.out (by decide)) (fun _ hk => hk.2) (.slice Ao10 t914.length co10)) (fun _ hk => hk.2) (.slice Ao9 t917.length co9)) (fun _ hk => trivial)), pS HB.out⟩

/-! ### impl_SecPut: function 65 -/
def impl_SecPut.f (k : Nat) (l0_0 : List ByteArray) (l0_1 : List (S75)) (a1 : Int) (a2 : ByteArray) : Option (List ByteArray × (List (S75)) × Bool) := (impl_SecOk.f k l0_0 l0_1).bind fun t922 => (if t922 = true then ((impl_secCopy.f l0_0 l0_1).bind fun bt923 => (if bt923.2.length < 5864062014805 then ((some (bt923.2 ++ [(⟨a1, a2⟩ : S75)] : List (S75))).bind fun y930 => ((impl_SecOk.f k bt923.1 y930).bind fun t933 => (if t933 = true then ((impl_secCopy.f bt923.1 y930).bind fun bt934 => (some (bt934.1, bt934.2, true))) else ((impl_secCopy.f l0_0 l0_1).bind fun bt940 => (some (bt940.1, bt940.2, false)))))) else (none))) else (some (([] : List ByteArray), ([] : List (S75)), false)))
theorem impl_SecPut.mono : ∀ a0 a1 a2 a3 k, LeO (impl_SecPut.f k a0 a1 a2 a3) (impl_SecPut.f (k + 1) a0 a1 a2 a3) := by
 intro a0 a1 a2 a3 k
 unfold impl_SecPut.f
 repeat' first
   | (with_reducible exact impl_SecOk.mono _ _ _)
   | (with_reducible exact LeO.refl _)
   | (with_reducible exact LeO.none _)
   | (with_reducible refine LeO.ite ?_ ?_)
   | (with_reducible refine LeO.bind ?_ (fun _ => ?_))
   | exact impl_SecOk.mono _ _ _
   | exact LeO.none _
   | refine LeO.ite ?_ ?_
   | refine LeO.bind ?_ (fun _ => ?_)
set_option maxHeartbeats 8000000 in
set_option maxRecDepth 100000 in
theorem impl_SecPut.calls (k : Nat) (A0_0 : Option Addr) (c0_0 : Nat) (l0_0 : List ByteArray) (A0_1 : Option Addr) (c0_1 : Nat) (l0_1 : List (S75)) (a1 : Int) (a2 : ByteArray) (r1 : List ByteArray) (r2 : List (S75)) (r3 : Bool) (w : World) (hr0_0 : Kd.C Kd.string w A0_0 l0_0.length l0_0) (hc0_0 : l0_0.length ≤ c0_0) (hr0_1 : Kd.C k75 w A0_1 l0_1.length l0_1) (hc0_1 : l0_1.length ≤ c0_1) (h : impl_SecPut.f k l0_0 l0_1 a1 a2 = some (r1, r2, r3)) :
  Calls Try.prog 65 #[.agg #[.slice A0_0 l0_0.length c0_0, .slice A0_1 l0_1.length c0_1], .int .i64 a1, .string a2] w fun e w' => ∃ v0_ v1_ : Value, e = .returned (.tuple #[.agg #[v0_, v1_], .bool r3]) ∧ Kd.R Kd.string 9 w' w.heap.size (fun _ => True) v0_ r1 ∧ Kd.R k75 75 w' w.heap.size (fun _ => True) v1_ r2 ∧ Below w.heap.size w w' := by
 have hu31 := Try.underlying31
 have hu75 := Try.underlying75
 have HR0_0 := Aside0.mk hr0_0
 have HC0_0 := Aside0.mk hc0_0
 clear hr0_0 hc0_0
 have HR0_1 := Aside0.mk hr0_1
 have HC0_1 := Aside0.mk hc0_1
 clear hr0_1 hc0_1
 have HB := Aside0.mk (Below.refl w.heap.size w)
 have H : ((impl_SecOk.f k l0_0 l0_1).bind fun t922 => (if t922 = true then ((impl_secCopy.f l0_0 l0_1).bind fun bt923 => (if bt923.2.length < 5864062014805 then ((some (bt923.2 ++ [(⟨a1, a2⟩ : S75)] : List (S75))).bind fun y930 => ((impl_SecOk.f k bt923.1 y930).bind fun t933 => (if t933 = true then ((impl_secCopy.f bt923.1 y930).bind fun bt934 => (some (bt934.1, bt934.2, true))) else ((impl_secCopy.f l0_0 l0_1).bind fun bt940 => (some (bt940.1, bt940.2, false)))))) else (none))) else (some (([] : List ByteArray), ([] : List (S75)), false)))) = some (r1, r2, r3) := h
 clear h
 replace H := Option.bind_eq_some_iff.mp H
 obtain ⟨t922, A40, H⟩ := H
 replace H : (if t922 = true then ((impl_secCopy.f l0_0 l0_1).bind fun bt923 => (if bt923.2.length < 5864062014805 then ((some (bt923.2 ++ [(⟨a1, a2⟩ : S75)] : List (S75))).bind fun y930 => ((impl_SecOk.f k bt923.1 y930).bind fun t933 => (if t933 = true then ((impl_secCopy.f bt923.1 y930).bind fun bt934 => (some (bt934.1, bt934.2, true))) else ((impl_secCopy.f l0_0 l0_1).bind fun bt940 => (some (bt940.1, bt940.2, false)))))) else (none))) else (some (([] : List ByteArray), ([] : List (S75)), false))) = some (r1, r2, r3) := H
 have A4 := Aside0.mk A40
 clear A40
 by_cases c5 : t922 = true
 ·subst c5
  have H1 : ((impl_secCopy.f l0_0 l0_1).bind fun bt923 => (if bt923.2.length < 5864062014805 then ((some (bt923.2 ++ [(⟨a1, a2⟩ : S75)] : List (S75))).bind fun y930 => ((impl_SecOk.f k bt923.1 y930).bind fun t933 => (if t933 = true then ((impl_secCopy.f bt923.1 y930).bind fun bt934 => (some (bt934.1, bt934.2, true))) else ((impl_secCopy.f l0_0 l0_1).bind fun bt940 => (some (bt940.1, bt940.2, false)))))) else (none))) = some (r1, r2, r3) := by rw [if_pos rfl] at H; exact H
  clear H
  have H := H1
  clear H1
  replace H := Option.bind_eq_some_iff.mp H
  obtain ⟨⟨t923, t926⟩, A60, H⟩ := H
  replace H : (if t926.length < 5864062014805 then ((some (t926 ++ [(⟨a1, a2⟩ : S75)] : List (S75))).bind fun y930 => ((impl_SecOk.f k t923 y930).bind fun t933 => (if t933 = true then ((impl_secCopy.f t923 y930).bind fun bt934 => (some (bt934.1, bt934.2, true))) else ((impl_secCopy.f l0_0 l0_1).bind fun bt940 => (some (bt940.1, bt940.2, false)))))) else (none)) = some (r1, r2, r3) := H
  have A6 := Aside0.mk A60
  clear A60
  by_cases c7 : t926.length < 5864062014805
  ·rw [if_pos c7] at H
   have LMc7 := Aside0.mk c7
   clear c7
   obtain ⟨y930, hy930⟩ : ∃ y_ : List (S75), y_ = (t926 ++ [(⟨a1, a2⟩ : S75)]) := ⟨_, rfl⟩
   replace H : ((impl_SecOk.f k t923 y930).bind fun t933 => (if t933 = true then ((impl_secCopy.f t923 y930).bind fun bt934 => (some (bt934.1, bt934.2, true))) else ((impl_secCopy.f l0_0 l0_1).bind fun bt940 => (some (bt940.1, bt940.2, false))))) = some (r1, r2, r3) := by first | (rw [hy930]; with_reducible exact H) | (have H2_ := (Option.bind_some _ _).symm.trans H; rw [hy930]; with_reducible exact H2_) | (have H2_ := (Option.bind_some _ _).symm.trans H; with_reducible exact H2_) | with_reducible exact H | (rw [hy930]; exact H) | exact H
   have Ny930 := Aside0.mk hy930
   clear hy930
   replace H := Option.bind_eq_some_iff.mp H
   obtain ⟨t933, A80, H⟩ := H
   replace H : (if t933 = true then ((impl_secCopy.f t923 y930).bind fun bt934 => (some (bt934.1, bt934.2, true))) else ((impl_secCopy.f l0_0 l0_1).bind fun bt940 => (some (bt940.1, bt940.2, false)))) = some (r1, r2, r3) := H
   have A8 := Aside0.mk A80
   clear A80
   by_cases c9 : t933 = true
   ·subst c9
    have H1 : ((impl_secCopy.f t923 y930).bind fun bt934 => (some (bt934.1, bt934.2, true))) = some (r1, r2, r3) := by rw [if_pos rfl] at H; exact H
    clear H
    have H := H1
    clear H1
    replace H := Option.bind_eq_some_iff.mp H
    obtain ⟨⟨t934, t937⟩, A100, H⟩ := H
    replace H : (some (t934, t937, true)) = some (r1, r2, r3) := H
    have A10 := Aside0.mk A100
    clear A100
    simp only [Option.some.injEq, Prod.mk.injEq] at H
    obtain ⟨rfl, rfl, rfl⟩ := H
    go_enter Try.func65, Try.ntmps65
    go_wp2_with (first | ((with_reducible refine gate_dst (N := 3) rfl ?_); refine box_event ?hg (N := 3) ?hd (cs := #[.slice A0_0 l0_0.length c0_0, .slice A0_1 l0_1.length c0_1]) (t := 31) ?hr ?_; (case hd => rfl); (case hg => rfl); (case hr => first | (go_simp; done) | (go_simp; rfl)); intro gb920 hg w11 hbox hb; have n0_ := Aside0.mk (below_step (pB HB.out) hb); have n1_ := Aside0.mk (hbox); have n2_ := Aside0.mk ((by rw [hg]; exact (below_size (pB HB.out)) : w.heap.size ≤ gb920)); have n3_ := Aside0.mk ((by rw [hg]; exact (below_size (pB HB.out)) : w.heap.size ≤ gb920)); clear HB; have HB := n0_; have BK920 := n1_; have GW920 := n2_; have GE920 := n3_; clear n0_ n1_ n2_ n3_; clear hb hbox hg) | ((with_reducible refine gate_dst (N := 6) rfl ?_); refine box_event ?hg (N := 6) ?hd (cs := #[.slice none 0 0, .slice none 0 0]) (t := 31) ?hr ?_; (case hd => rfl); (case hg => rfl); (case hr => first | (go_simp; done) | (go_simp; rfl)); intro gb921 hg w12 hbox hb; have n0_ := Aside0.mk (blk_below (pK BK920.out) hb); have n1_ := Aside0.mk (below_step (pS HB.out) hb); have n2_ := Aside0.mk (hbox); have n3_ := Aside0.mk ((by rw [hg]; exact (below_size (pS HB.out)) : w.heap.size ≤ gb921)); have n4_ := Aside0.mk ((by rw [hg]; exact (below_size (pS HB.out)) : w.heap.size ≤ gb921)); have n5_ := Aside0.mk ((by rw [hg]; exact Nat.ne_of_lt (blk_lt (pK BK920.out)) : gb920 ≠ gb921)); have n6_ := Aside0.mk ((by rw [hg]; exact Nat.ne_of_gt (blk_lt (pK BK920.out)) : gb921 ≠ gb920)); clear BK920; clear HB; have BK920 := n0_; have HB := n1_; have BK921 := n2_; have GW921 := n3_; have GE921 := n4_; have NB920_921 := n5_; have NB921_920 := n6_; clear n0_ n1_ n2_ n3_ n4_ n5_ n6_; clear hb hbox hg; have hnb13 := NB920_921.out; have hnc13 := NB921_920.out; have hcz14_0 : w12.cell? ⟨gb920, 0, none⟩ = some (.slice A0_0 l0_0.length c0_0) := (blk_cell BK920.out 0).trans rfl; have hcz14_1 : w12.cell? ⟨gb920, 1, none⟩ = some (.slice A0_1 l0_1.length c0_1) := (blk_cell BK920.out 1).trans rfl; have hfz14_0 := blk_frozen BK920.out 0; have hfz14_1 := blk_frozen BK920.out 1) | ((with_reducible refine gate_callee (f := 63) rfl ?_); refine goesL_ (some 10) rfl rfl Try.func63 (by kernel_rfl) rfl #[.agg #[.slice A0_0 l0_0.length c0_0, .slice A0_1 l0_1.length c0_1]] rfl bM ?_; (with_reducible refine (impl_SecOk.calls k _ _ l0_0 _ _ l0_1 true _ ?side1 ?side2 ?side3 ?side4 A4.out).mono ?_); (case side1 => exact pC (Kd.C_below HR0_0.out HB.out)); (case side2 => exact HC0_0.out); (case side3 => exact pC (Kd.C_below HR0_1.out HB.out)); (case side4 => exact HC0_1.out); rintro e w15 ⟨rfl, hb⟩; refine ⟨_, rfl, ?_⟩; have n0_ := Aside0.mk (blk_below (pK BK920.out) hb); have n1_ := Aside0.mk (blk_below (pK BK921.out) hb); have n2_ := Aside0.mk (below_step (pS HB.out) hb); clear BK920; clear BK921; clear HB; have BK920 := n0_; have BK921 := n1_; have HB := n2_; clear n0_ n1_ n2_; (try clear hb); (try clear hb2); (try clear hk); (try clear hi); have hcz16_0 : w15.cell? ⟨gb920, 0, none⟩ = some (.slice A0_0 l0_0.length c0_0) := (blk_cell BK920.out 0).trans rfl; have hcz16_1 : w15.cell? ⟨gb920, 1, none⟩ = some (.slice A0_1 l0_1.length c0_1) := (blk_cell BK920.out 1).trans rfl; have hfz16_0 := blk_frozen BK920.out 0; have hfz16_1 := blk_frozen BK920.out 1) | ((with_reducible refine gate_callee (f := 64) rfl ?_); refine goesL_ (some 14) rfl rfl Try.func64 (by kernel_rfl) rfl #[.agg #[.slice A0_0 l0_0.length c0_0, .slice A0_1 l0_1.length c0_1]] rfl bM ?_; (with_reducible refine (impl_secCopy.calls _ _ l0_0 _ _ l0_1 t923 t926 _ ?side1 ?side2 ?side3 ?side4 A6.out).mono ?_); (case side1 => exact pC (Kd.C_below HR0_0.out HB.out)); (case side2 => exact HC0_0.out); (case side3 => exact pC (Kd.C_below HR0_1.out HB.out)); (case side4 => exact HC0_1.out); rintro e w17 ⟨v924, v927, rfl, ho0, ho1, hb⟩; refine ⟨_, rfl, ?_⟩; have n0_ := Aside0.mk (Kd.R_lower ho0 (below_size (pS HB.out))); have n1_ := Aside0.mk (Kd.R_lower ho1 (below_size (pS HB.out))); have n2_ := Aside0.mk (blk_below (pK BK920.out) hb); have n3_ := Aside0.mk (blk_below (pK BK921.out) hb); have n4_ := Aside0.mk (below_step (pS HB.out) hb); clear BK920; clear BK921; clear HB; have HO925 := n0_; have HO928 := n1_; have BK920 := n2_; have BK921 := n3_; have HB := n4_; clear n0_ n1_ n2_ n3_ n4_; (try clear hb); (try clear hb2); (try clear hk); (try clear hi); (try clear ho0); (try clear ho1)) | ((with_reducible refine gate_dst (N := 8) rfl ?_); refine box_event ?hg (N := 8) ?hd (cs := #[.slice none 0 0, .slice none 0 0]) (t := 31) ?hr ?_; (case hd => rfl); (case hg => rfl); (case hr => first | (go_simp; done) | (go_simp; rfl)); intro gb929 hg w18 hbox hb; have n0_ := Aside0.mk (Kd.R_below (pR HO925.out) hb); have n1_ := Aside0.mk (Kd.R_below (pR HO928.out) hb); have n2_ := Aside0.mk (blk_below (pK BK920.out) hb); have n3_ := Aside0.mk (blk_below (pK BK921.out) hb); have n4_ := Aside0.mk (below_step (pS HB.out) hb); have n5_ := Aside0.mk (hbox); have n6_ := Aside0.mk ((by rw [hg]; exact (below_size (pS HB.out)) : w.heap.size ≤ gb929)); have n7_ := Aside0.mk ((by rw [hg]; exact (below_size (pS HB.out)) : w.heap.size ≤ gb929)); have n8_ := Aside0.mk ((by rw [hg]; exact Nat.ne_of_lt (blk_lt (pK BK920.out)) : gb920 ≠ gb929)); have n9_ := Aside0.mk ((by rw [hg]; exact Nat.ne_of_gt (blk_lt (pK BK920.out)) : gb929 ≠ gb920)); have n10_ := Aside0.mk ((by rw [hg]; exact Nat.ne_of_lt (blk_lt (pK BK921.out)) : gb921 ≠ gb929)); have n11_ := Aside0.mk ((by rw [hg]; exact Nat.ne_of_gt (blk_lt (pK BK921.out)) : gb929 ≠ gb921)); clear HO925; clear HO928; clear BK920; clear BK921; clear HB; have HO925 := n0_; have HO928 := n1_; have BK920 := n2_; have BK921 := n3_; have HB := n4_; have BK929 := n5_; have GW929 := n6_; have GE929 := n7_; have NB920_929 := n8_; have NB929_920 := n9_; have NB921_929 := n10_; have NB929_921 := n11_; clear n0_ n1_ n2_ n3_ n4_ n5_ n6_ n7_ n8_ n9_ n10_ n11_; clear hb hbox hg; obtain ⟨Ao19, co19, eo19⟩ := Kd.R_slice HO925.out; subst eo19; have hnb20 := NB929_920.out; have hnc20 := NB920_929.out; have hnb21 := NB929_921.out; have hnc21 := NB921_929.out; have hcz22_0 : w18.cell? ⟨gb929, 0, none⟩ = some (.slice none 0 0) := (blk_cell BK929.out 0).trans rfl; have hcz22_1 : w18.cell? ⟨gb929, 1, none⟩ = some (.slice none 0 0) := (blk_cell BK929.out 1).trans rfl; have hfz22_0 := blk_frozen BK929.out 0; have hfz22_1 := blk_frozen BK929.out 1; obtain ⟨Ao23, co23, eo23⟩ := Kd.R_slice HO928.out; subst eo23) | ((with_reducible refine gate_builtin (b := .append) (xs := #[.tmp 16, .tmp 20]) rfl ?_); at_builtin; refine Kd.R_append k75 (w0 := w) w.heap.size rfl (.tmp 16) (.tmp 20) 29 75 (.agg #[(.int .i64 0), (.string ⟨#[]⟩)]) 24 rfl Try.underlying29 info75 rfl (by decide) (by omega) (.slice Ao23 t926.length co23) t926 (⟨a1, a2⟩ : S75) [.int .i64 a1, .string a2] (fun _ => True) (fun _ => False) rfl (by first | (go_simp; done) | (go_simp; rfl)) ?aP (fun _ hk => hk.elim) ?aF ?aO ?aB ?aS ?aL ?_; (case aP => exact k75_mkM _ _ _ (⟨a1, a2⟩ : S75)); (case aB => exact (pS HB.out)); (case aF => exact (fun _ _ => trivial)); (case aO => exact (pR (Kd.R_mono (Kd.R_far (p := ⟨gb929, 1, none⟩) (Kd.R_far (p := ⟨gb929, 0, none⟩) (Kd.R_types HO928.out BK929.out (by decide)) (fun _ hk => hk.2) (.slice Ao19 t923.length co19)) (fun _ hk => hk.2) (.slice Ao23 t926.length co23)) (fun _ hk => trivial)))); (case aS => exact (below_size (pS HB.out))); (case aL => have := LMc7.out; omega); intro v931 w24 ho hb hg hat; rw [← Ny930.out] at ho; have n0_ := Aside0.mk (blk_grown (g := gb920) (o := .cells #[.slice A0_0 l0_0.length c0_0, .slice A0_1 l0_1.length c0_1] 31 (0, 0)) (by (with_reducible repeat (first | refine blk_drewN ?_ _ | refine blk_drew ?_ | refine blk_alloc ?_ _)); refine blk_far ?_ NB920_929.out _; (with_reducible repeat (first | refine blk_drewN ?_ _ | refine blk_drew ?_ | refine blk_alloc ?_ _)); refine blk_far ?_ NB920_929.out _; (with_reducible repeat (first | refine blk_drewN ?_ _ | refine blk_drew ?_ | refine blk_alloc ?_ _)); exact BK920.out) hg (Kd.R_ne HO928.out BK920.out (by decide))); have n1_ := Aside0.mk (blk_grown (g := gb921) (o := .cells #[.slice none 0 0, .slice none 0 0] 31 (0, 0)) (by (with_reducible repeat (first | refine blk_drewN ?_ _ | refine blk_drew ?_ | refine blk_alloc ?_ _)); refine blk_far ?_ NB921_929.out _; (with_reducible repeat (first | refine blk_drewN ?_ _ | refine blk_drew ?_ | refine blk_alloc ?_ _)); refine blk_far ?_ NB921_929.out _; (with_reducible repeat (first | refine blk_drewN ?_ _ | refine blk_drew ?_ | refine blk_alloc ?_ _)); exact BK921.out) hg (Kd.R_ne HO928.out BK921.out (by decide))); have n2_ := Aside0.mk (Kd.R_over' (pR (Kd.R_mono (Kd.R_far (p := ⟨gb929, 1, none⟩) (Kd.R_far (p := ⟨gb929, 0, none⟩) (Kd.R_types HO925.out BK929.out (by decide)) (fun _ hk => hk.2) (.slice Ao19 t923.length co19)) (fun _ hk => hk.2) (.slice Ao23 t926.length co23)) (fun _ h_ => h_.1))) (Kd.R_typed (pR (Kd.R_mono (Kd.R_far (p := ⟨gb929, 1, none⟩) (Kd.R_far (p := ⟨gb929, 0, none⟩) (Kd.R_types HO928.out BK929.out (by decide)) (fun _ hk => hk.2) (.slice Ao19 t923.length co19)) (fun _ hk => hk.2) (.slice Ao23 t926.length co23)) (fun _ h_ => h_.1)))) (by decide) hg); have n3_ := Aside0.mk (blk_grown (g := gb929) (o := .cells #[.slice Ao19 t923.length co19, .slice Ao23 t926.length co23] 31 (0, 0)) (by (with_reducible repeat (first | refine blk_drewN ?_ _ | refine blk_drew ?_ | refine blk_alloc ?_ _)); refine blk_put (cs := #[.slice Ao19 t923.length co19, .slice none 0 0]) ?_ 1 _ rfl; (with_reducible repeat (first | refine blk_drewN ?_ _ | refine blk_drew ?_ | refine blk_alloc ?_ _)); refine blk_put (cs := #[.slice none 0 0, .slice none 0 0]) ?_ 0 _ rfl; (with_reducible repeat (first | refine blk_drewN ?_ _ | refine blk_drew ?_ | refine blk_alloc ?_ _)); exact BK929.out) hg (Kd.R_ne HO928.out BK929.out (by decide))); have n4_ := Aside0.mk (hb); have n5_ := Aside0.mk (ho); clear BK920; clear BK921; clear HO925; clear BK929; clear HB; clear HO928; have BK920 := n0_; have BK921 := n1_; have HO925 := n2_; have BK929 := n3_; have HB := n4_; have HO932 := n5_; clear n0_ n1_ n2_ n3_ n4_ n5_; clear ho hb hg hat; obtain ⟨Ao25, co25, eo25⟩ := Kd.R_slice HO932.out; subst eo25; have hcz26_0 : w24.cell? ⟨gb929, 0, none⟩ = some (.slice Ao19 t923.length co19) := (blk_cell BK929.out 0).trans rfl; have hcz26_1 : w24.cell? ⟨gb929, 1, none⟩ = some (.slice Ao23 t926.length co23) := (blk_cell BK929.out 1).trans rfl; have hfz26_0 := blk_frozen BK929.out 0; have hfz26_1 := blk_frozen BK929.out 1) | ((with_reducible refine gate_callee (f := 63) rfl ?_); refine goesL_ (some 24) rfl rfl Try.func63 (by kernel_rfl) rfl #[.agg #[.slice Ao19 t923.length co19, .slice Ao25 y930.length co25]] rfl bM ?_; (with_reducible refine (impl_SecOk.calls k _ _ t923 _ _ y930 true _ ?side1 ?side2 ?side3 ?side4 A8.out).mono ?_); (case side1 => refine (Kd.R_reads' (e := 9) (base := w.heap.size) (ok := fun k_ => True) (n := t923.length) (c := co19) ?_).2.2; exact (pR (Kd.R_mono (Kd.R_far (p := ⟨gb929, 1, none⟩) (Kd.R_types HO925.out BK929.out (by decide)) (fun _ hk => hk.2) (.slice Ao25 y930.length co25)) (fun _ h_ => h_.1)))); (case side2 => exact (Kd.R_reads' HO925.out).2.1); (case side3 => refine (Kd.R_reads' (e := 75) (base := w.heap.size) (ok := fun k_ => True) (n := y930.length) (c := co25) ?_).2.2; exact (pR (Kd.R_mono (Kd.R_far (p := ⟨gb929, 1, none⟩) (Kd.R_types HO932.out BK929.out (by decide)) (fun _ hk => hk.2) (.slice Ao25 y930.length co25)) (fun _ h_ => h_.1)))); (case side4 => exact (Kd.R_reads' HO932.out).2.1); rintro e w27 ⟨rfl, hb⟩; refine ⟨_, rfl, ?_⟩; have n0_ := Aside0.mk (Kd.R_below (pR (Kd.R_mono (Kd.R_far (p := ⟨gb929, 1, none⟩) (Kd.R_types HO925.out BK929.out (by decide)) (fun _ hk => hk.2) (.slice Ao25 y930.length co25)) (fun _ h_ => h_.1))) hb); have n1_ := Aside0.mk (Kd.R_below (pR (Kd.R_mono (Kd.R_far (p := ⟨gb929, 1, none⟩) (Kd.R_types HO932.out BK929.out (by decide)) (fun _ hk => hk.2) (.slice Ao25 y930.length co25)) (fun _ h_ => h_.1))) hb); have n2_ := Aside0.mk (blk_below (g := gb920) (o := .cells #[.slice A0_0 l0_0.length c0_0, .slice A0_1 l0_1.length c0_1] 31 (0, 0)) (by (with_reducible repeat (first | refine blk_drewN ?_ _ | refine blk_drew ?_ | refine blk_alloc ?_ _)); refine blk_far ?_ NB920_929.out _; (with_reducible repeat (first | refine blk_drewN ?_ _ | refine blk_drew ?_ | refine blk_alloc ?_ _)); exact BK920.out) hb); have n3_ := Aside0.mk (blk_below (g := gb921) (o := .cells #[.slice none 0 0, .slice none 0 0] 31 (0, 0)) (by (with_reducible repeat (first | refine blk_drewN ?_ _ | refine blk_drew ?_ | refine blk_alloc ?_ _)); refine blk_far ?_ NB921_929.out _; (with_reducible repeat (first | refine blk_drewN ?_ _ | refine blk_drew ?_ | refine blk_alloc ?_ _)); exact BK921.out) hb); have n4_ := Aside0.mk (blk_below (g := gb929) (o := .cells #[.slice Ao19 t923.length co19, .slice Ao25 y930.length co25] 31 (0, 0)) (by (with_reducible repeat (first | refine blk_drewN ?_ _ | refine blk_drew ?_ | refine blk_alloc ?_ _)); refine blk_put (cs := #[.slice Ao19 t923.length co19, .slice Ao23 t926.length co23]) ?_ 1 _ rfl; (with_reducible repeat (first | refine blk_drewN ?_ _ | refine blk_drew ?_ | refine blk_alloc ?_ _)); exact BK929.out) hb); have n5_ := Aside0.mk (below_step (pS HB.out) hb); clear HO925; clear HO932; clear BK920; clear BK921; clear BK929; clear HB; have HO925 := n0_; have HO932 := n1_; have BK920 := n2_; have BK921 := n3_; have BK929 := n4_; have HB := n5_; clear n0_ n1_ n2_ n3_ n4_ n5_; (try clear hb); (try clear hb2); (try clear hk); (try clear hi); have hcz28_0 : w27.cell? ⟨gb929, 0, none⟩ = some (.slice Ao19 t923.length co19) := (blk_cell BK929.out 0).trans rfl; have hcz28_1 : w27.cell? ⟨gb929, 1, none⟩ = some (.slice Ao25 y930.length co25) := (blk_cell BK929.out 1).trans rfl; have hfz28_0 := blk_frozen BK929.out 0; have hfz28_1 := blk_frozen BK929.out 1) | ((with_reducible refine gate_callee (f := 64) rfl ?_); refine goesL_ (some 29) rfl rfl Try.func64 (by kernel_rfl) rfl #[.agg #[.slice Ao19 t923.length co19, .slice Ao25 y930.length co25]] rfl bM ?_; (with_reducible refine (impl_secCopy.calls _ _ t923 _ _ y930 t934 t937 _ ?side1 ?side2 ?side3 ?side4 A10.out).mono ?_); (case side1 => exact pC (Kd.R_reads' HO925.out).2.2); (case side2 => exact (Kd.R_reads' HO925.out).2.1); (case side3 => exact pC (Kd.R_reads' HO932.out).2.2); (case side4 => exact (Kd.R_reads' HO932.out).2.1); rintro e w29 ⟨v935, v938, rfl, ho0, ho1, hb⟩; refine ⟨_, rfl, ?_⟩; have n0_ := Aside0.mk (Kd.R_elder' (pR HO925.out) (Kd.R_base ho0) hb); have n1_ := Aside0.mk (Kd.R_elder' (pR HO932.out) (Kd.R_base ho1) hb); have n2_ := Aside0.mk (Kd.R_lower (Kd.R_new' ho0 (Kd.R_lt (pR HO925.out))) (below_size (pS HB.out))); have n3_ := Aside0.mk (Kd.R_lower (Kd.R_new' ho1 (Kd.R_lt (pR HO932.out))) (below_size (pS HB.out))); have n4_ := Aside0.mk (blk_below (pK BK920.out) hb); have n5_ := Aside0.mk (blk_below (pK BK921.out) hb); have n6_ := Aside0.mk (blk_below (pK BK929.out) hb); have n7_ := Aside0.mk (below_step (pS HB.out) hb); clear HO925; clear HO932; clear BK920; clear BK921; clear BK929; clear HB; have HO925 := n0_; have HO932 := n1_; have HO936 := n2_; have HO939 := n3_; have BK920 := n4_; have BK921 := n5_; have BK929 := n6_; have HB := n7_; clear n0_ n1_ n2_ n3_ n4_ n5_ n6_ n7_; (try clear hb); (try clear hb2); (try clear hk); (try clear hi); (try clear ho0); (try clear ho1); obtain ⟨Ao30, co30, eo30⟩ := Kd.R_slice HO936.out; subst eo30; have hcz31_0 : w29.cell? ⟨gb921, 0, none⟩ = some (.slice none 0 0) := (blk_cell BK921.out 0).trans rfl; have hcz31_1 : w29.cell? ⟨gb921, 1, none⟩ = some (.slice none 0 0) := (blk_cell BK921.out 1).trans rfl; have hfz31_0 := blk_frozen BK921.out 0; have hfz31_1 := blk_frozen BK921.out 1; obtain ⟨Ao32, co32, eo32⟩ := Kd.R_slice HO939.out; subst eo32))
    refine bodyPost_ret (results_ct rfl _ _ gb921 31 #[.slice Ao30 t934.length co30, .slice Ao32 t937.length co32] (0, 0) _ rfl (by (with_reducible repeat (first | refine blk_drewN ?_ _ | refine blk_drew ?_ | refine blk_alloc ?_ _)); refine blk_put (cs := #[.slice Ao30 t934.length co30, .slice none 0 0]) ?_ 1 _ rfl; (with_reducible repeat (first | refine blk_drewN ?_ _ | refine blk_drew ?_ | refine blk_alloc ?_ _)); refine blk_put (cs := #[.slice none 0 0, .slice none 0 0]) ?_ 0 _ rfl; (with_reducible repeat (first | refine blk_drewN ?_ _ | refine blk_drew ?_ | refine blk_alloc ?_ _)); exact BK921.out) Try.underlying31 rfl (by kernel_rfl)) rfl ?_
    exact ⟨_, _, by first | rfl | (simp [errW_none, errW_some] <;> rfl) | (simp [*, errW_none, errW_some] <;> rfl), pR (Kd.R_mono (Kd.R_far (p := ⟨gb921, 1, none⟩) (Kd.R_far (p := ⟨gb921, 0, none⟩) (Kd.R_types HO936.out BK921.out (by decide)) (fun _ hk => hk.2) (.slice Ao30 t934.length co30)) (fun _ hk => hk.2) (.slice Ao32 t937.length co32)) (fun _ hk => trivial)), pR (Kd.R_mono (Kd.R_far (p := ⟨gb921, 1, none⟩) (Kd.R_far (p := ⟨gb921, 0, none⟩) (Kd.R_types HO939.out BK921.out (by decide)) (fun _ hk => hk.2) (.slice Ao30 t934.length co30)) (fun _ hk => hk.2) (.slice Ao32 t937.length co32)) (fun _ hk => trivial)), pS HB.out⟩
   ·replace c9 := Bool.eq_false_iff.mpr c9
    subst c9
    have H1 : ((impl_secCopy.f l0_0 l0_1).bind fun bt940 => (some (bt940.1, bt940.2, false))) = some (r1, r2, r3) := by rw [if_neg (show ¬ (false = true) by decide)] at H; exact H
    clear H
    have H := H1
    clear H1
    replace H := Option.bind_eq_some_iff.mp H
    obtain ⟨⟨t940, t943⟩, A330, H⟩ := H
    replace H : (some (t940, t943, false)) = some (r1, r2, r3) := H
    have A33 := Aside0.mk A330
    clear A330
    simp only [Option.some.injEq, Prod.mk.injEq] at H
    obtain ⟨rfl, rfl, rfl⟩ := H
    go_enter Try.func65, Try.ntmps65
    go_wp2_with (first | ((with_reducible refine gate_dst (N := 3) rfl ?_); refine box_event ?hg (N := 3) ?hd (cs := #[.slice A0_0 l0_0.length c0_0, .slice A0_1 l0_1.length c0_1]) (t := 31) ?hr ?_; (case hd => rfl); (case hg => rfl); (case hr => first | (go_simp; done) | (go_simp; rfl)); intro gb920 hg w34 hbox hb; have n0_ := Aside0.mk (below_step (pB HB.out) hb); have n1_ := Aside0.mk (hbox); have n2_ := Aside0.mk ((by rw [hg]; exact (below_size (pB HB.out)) : w.heap.size ≤ gb920)); have n3_ := Aside0.mk ((by rw [hg]; exact (below_size (pB HB.out)) : w.heap.size ≤ gb920)); clear HB; have HB := n0_; have BK920 := n1_; have GW920 := n2_; have GE920 := n3_; clear n0_ n1_ n2_ n3_; clear hb hbox hg) | ((with_reducible refine gate_dst (N := 6) rfl ?_); refine box_event ?hg (N := 6) ?hd (cs := #[.slice none 0 0, .slice none 0 0]) (t := 31) ?hr ?_; (case hd => rfl); (case hg => rfl); (case hr => first | (go_simp; done) | (go_simp; rfl)); intro gb921 hg w35 hbox hb; have n0_ := Aside0.mk (blk_below (pK BK920.out) hb); have n1_ := Aside0.mk (below_step (pS HB.out) hb); have n2_ := Aside0.mk (hbox); have n3_ := Aside0.mk ((by rw [hg]; exact (below_size (pS HB.out)) : w.heap.size ≤ gb921)); have n4_ := Aside0.mk ((by rw [hg]; exact (below_size (pS HB.out)) : w.heap.size ≤ gb921)); have n5_ := Aside0.mk ((by rw [hg]; exact Nat.ne_of_lt (blk_lt (pK BK920.out)) : gb920 ≠ gb921)); have n6_ := Aside0.mk ((by rw [hg]; exact Nat.ne_of_gt (blk_lt (pK BK920.out)) : gb921 ≠ gb920)); clear BK920; clear HB; have BK920 := n0_; have HB := n1_; have BK921 := n2_; have GW921 := n3_; have GE921 := n4_; have NB920_921 := n5_; have NB921_920 := n6_; clear n0_ n1_ n2_ n3_ n4_ n5_ n6_; clear hb hbox hg; have hnb36 := NB920_921.out; have hnc36 := NB921_920.out; have hcz37_0 : w35.cell? ⟨gb920, 0, none⟩ = some (.slice A0_0 l0_0.length c0_0) := (blk_cell BK920.out 0).trans rfl; have hcz37_1 : w35.cell? ⟨gb920, 1, none⟩ = some (.slice A0_1 l0_1.length c0_1) := (blk_cell BK920.out 1).trans rfl; have hfz37_0 := blk_frozen BK920.out 0; have hfz37_1 := blk_frozen BK920.out 1) | ((with_reducible refine gate_callee (f := 63) rfl ?_); refine goesL_ (some 10) rfl rfl Try.func63 (by kernel_rfl) rfl #[.agg #[.slice A0_0 l0_0.length c0_0, .slice A0_1 l0_1.length c0_1]] rfl bM ?_; (with_reducible refine (impl_SecOk.calls k _ _ l0_0 _ _ l0_1 true _ ?side1 ?side2 ?side3 ?side4 A4.out).mono ?_); (case side1 => exact pC (Kd.C_below HR0_0.out HB.out)); (case side2 => exact HC0_0.out); (case side3 => exact pC (Kd.C_below HR0_1.out HB.out)); (case side4 => exact HC0_1.out); rintro e w38 ⟨rfl, hb⟩; refine ⟨_, rfl, ?_⟩; have n0_ := Aside0.mk (blk_below (pK BK920.out) hb); have n1_ := Aside0.mk (blk_below (pK BK921.out) hb); have n2_ := Aside0.mk (below_step (pS HB.out) hb); clear BK920; clear BK921; clear HB; have BK920 := n0_; have BK921 := n1_; have HB := n2_; clear n0_ n1_ n2_; (try clear hb); (try clear hb2); (try clear hk); (try clear hi); have hcz39_0 : w38.cell? ⟨gb920, 0, none⟩ = some (.slice A0_0 l0_0.length c0_0) := (blk_cell BK920.out 0).trans rfl; have hcz39_1 : w38.cell? ⟨gb920, 1, none⟩ = some (.slice A0_1 l0_1.length c0_1) := (blk_cell BK920.out 1).trans rfl; have hfz39_0 := blk_frozen BK920.out 0; have hfz39_1 := blk_frozen BK920.out 1) | ((with_reducible refine gate_callee (f := 64) rfl ?_); refine goesL_ (some 14) rfl rfl Try.func64 (by kernel_rfl) rfl #[.agg #[.slice A0_0 l0_0.length c0_0, .slice A0_1 l0_1.length c0_1]] rfl bM ?_; (with_reducible refine (impl_secCopy.calls _ _ l0_0 _ _ l0_1 t923 t926 _ ?side1 ?side2 ?side3 ?side4 A6.out).mono ?_); (case side1 => exact pC (Kd.C_below HR0_0.out HB.out)); (case side2 => exact HC0_0.out); (case side3 => exact pC (Kd.C_below HR0_1.out HB.out)); (case side4 => exact HC0_1.out); rintro e w40 ⟨v924, v927, rfl, ho0, ho1, hb⟩; refine ⟨_, rfl, ?_⟩; have n0_ := Aside0.mk (Kd.R_lower ho0 (below_size (pS HB.out))); have n1_ := Aside0.mk (Kd.R_lower ho1 (below_size (pS HB.out))); have n2_ := Aside0.mk (blk_below (pK BK920.out) hb); have n3_ := Aside0.mk (blk_below (pK BK921.out) hb); have n4_ := Aside0.mk (below_step (pS HB.out) hb); clear BK920; clear BK921; clear HB; have HO925 := n0_; have HO928 := n1_; have BK920 := n2_; have BK921 := n3_; have HB := n4_; clear n0_ n1_ n2_ n3_ n4_; (try clear hb); (try clear hb2); (try clear hk); (try clear hi); (try clear ho0); (try clear ho1)) | ((with_reducible refine gate_dst (N := 8) rfl ?_); refine box_event ?hg (N := 8) ?hd (cs := #[.slice none 0 0, .slice none 0 0]) (t := 31) ?hr ?_; (case hd => rfl); (case hg => rfl); (case hr => first | (go_simp; done) | (go_simp; rfl)); intro gb929 hg w41 hbox hb; have n0_ := Aside0.mk (Kd.R_below (pR HO925.out) hb); have n1_ := Aside0.mk (Kd.R_below (pR HO928.out) hb); have n2_ := Aside0.mk (blk_below (pK BK920.out) hb); have n3_ := Aside0.mk (blk_below (pK BK921.out) hb); have n4_ := Aside0.mk (below_step (pS HB.out) hb); have n5_ := Aside0.mk (hbox); have n6_ := Aside0.mk ((by rw [hg]; exact (below_size (pS HB.out)) : w.heap.size ≤ gb929)); have n7_ := Aside0.mk ((by rw [hg]; exact (below_size (pS HB.out)) : w.heap.size ≤ gb929)); have n8_ := Aside0.mk ((by rw [hg]; exact Nat.ne_of_lt (blk_lt (pK BK920.out)) : gb920 ≠ gb929)); have n9_ := Aside0.mk ((by rw [hg]; exact Nat.ne_of_gt (blk_lt (pK BK920.out)) : gb929 ≠ gb920)); have n10_ := Aside0.mk ((by rw [hg]; exact Nat.ne_of_lt (blk_lt (pK BK921.out)) : gb921 ≠ gb929)); have n11_ := Aside0.mk ((by rw [hg]; exact Nat.ne_of_gt (blk_lt (pK BK921.out)) : gb929 ≠ gb921)); clear HO925; clear HO928; clear BK920; clear BK921; clear HB; have HO925 := n0_; have HO928 := n1_; have BK920 := n2_; have BK921 := n3_; have HB := n4_; have BK929 := n5_; have GW929 := n6_; have GE929 := n7_; have NB920_929 := n8_; have NB929_920 := n9_; have NB921_929 := n10_; have NB929_921 := n11_; clear n0_ n1_ n2_ n3_ n4_ n5_ n6_ n7_ n8_ n9_ n10_ n11_; clear hb hbox hg; obtain ⟨Ao42, co42, eo42⟩ := Kd.R_slice HO925.out; subst eo42; have hnb43 := NB929_920.out; have hnc43 := NB920_929.out; have hnb44 := NB929_921.out; have hnc44 := NB921_929.out; have hcz45_0 : w41.cell? ⟨gb929, 0, none⟩ = some (.slice none 0 0) := (blk_cell BK929.out 0).trans rfl; have hcz45_1 : w41.cell? ⟨gb929, 1, none⟩ = some (.slice none 0 0) := (blk_cell BK929.out 1).trans rfl; have hfz45_0 := blk_frozen BK929.out 0; have hfz45_1 := blk_frozen BK929.out 1; obtain ⟨Ao46, co46, eo46⟩ := Kd.R_slice HO928.out; subst eo46) | ((with_reducible refine gate_builtin (b := .append) (xs := #[.tmp 16, .tmp 20]) rfl ?_); at_builtin; refine Kd.R_append k75 (w0 := w) w.heap.size rfl (.tmp 16) (.tmp 20) 29 75 (.agg #[(.int .i64 0), (.string ⟨#[]⟩)]) 24 rfl Try.underlying29 info75 rfl (by decide) (by omega) (.slice Ao46 t926.length co46) t926 (⟨a1, a2⟩ : S75) [.int .i64 a1, .string a2] (fun _ => True) (fun _ => False) rfl (by first | (go_simp; done) | (go_simp; rfl)) ?aP (fun _ hk => hk.elim) ?aF ?aO ?aB ?aS ?aL ?_; (case aP => exact k75_mkM _ _ _ (⟨a1, a2⟩ : S75)); (case aB => exact (pS HB.out)); (case aF => exact (fun _ _ => trivial)); (case aO => exact (pR (Kd.R_mono (Kd.R_far (p := ⟨gb929, 1, none⟩) (Kd.R_far (p := ⟨gb929, 0, none⟩) (Kd.R_types HO928.out BK929.out (by decide)) (fun _ hk => hk.2) (.slice Ao42 t923.length co42)) (fun _ hk => hk.2) (.slice Ao46 t926.length co46)) (fun _ hk => trivial)))); (case aS => exact (below_size (pS HB.out))); (case aL => have := LMc7.out; omega); intro v931 w47 ho hb hg hat; rw [← Ny930.out] at ho; have n0_ := Aside0.mk (blk_grown (g := gb920) (o := .cells #[.slice A0_0 l0_0.length c0_0, .slice A0_1 l0_1.length c0_1] 31 (0, 0)) (by (with_reducible repeat (first | refine blk_drewN ?_ _ | refine blk_drew ?_ | refine blk_alloc ?_ _)); refine blk_far ?_ NB920_929.out _; (with_reducible repeat (first | refine blk_drewN ?_ _ | refine blk_drew ?_ | refine blk_alloc ?_ _)); refine blk_far ?_ NB920_929.out _; (with_reducible repeat (first | refine blk_drewN ?_ _ | refine blk_drew ?_ | refine blk_alloc ?_ _)); exact BK920.out) hg (Kd.R_ne HO928.out BK920.out (by decide))); have n1_ := Aside0.mk (blk_grown (g := gb921) (o := .cells #[.slice none 0 0, .slice none 0 0] 31 (0, 0)) (by (with_reducible repeat (first | refine blk_drewN ?_ _ | refine blk_drew ?_ | refine blk_alloc ?_ _)); refine blk_far ?_ NB921_929.out _; (with_reducible repeat (first | refine blk_drewN ?_ _ | refine blk_drew ?_ | refine blk_alloc ?_ _)); refine blk_far ?_ NB921_929.out _; (with_reducible repeat (first | refine blk_drewN ?_ _ | refine blk_drew ?_ | refine blk_alloc ?_ _)); exact BK921.out) hg (Kd.R_ne HO928.out BK921.out (by decide))); have n2_ := Aside0.mk (Kd.R_over' (pR (Kd.R_mono (Kd.R_far (p := ⟨gb929, 1, none⟩) (Kd.R_far (p := ⟨gb929, 0, none⟩) (Kd.R_types HO925.out BK929.out (by decide)) (fun _ hk => hk.2) (.slice Ao42 t923.length co42)) (fun _ hk => hk.2) (.slice Ao46 t926.length co46)) (fun _ h_ => h_.1))) (Kd.R_typed (pR (Kd.R_mono (Kd.R_far (p := ⟨gb929, 1, none⟩) (Kd.R_far (p := ⟨gb929, 0, none⟩) (Kd.R_types HO928.out BK929.out (by decide)) (fun _ hk => hk.2) (.slice Ao42 t923.length co42)) (fun _ hk => hk.2) (.slice Ao46 t926.length co46)) (fun _ h_ => h_.1)))) (by decide) hg); have n3_ := Aside0.mk (blk_grown (g := gb929) (o := .cells #[.slice Ao42 t923.length co42, .slice Ao46 t926.length co46] 31 (0, 0)) (by (with_reducible repeat (first | refine blk_drewN ?_ _ | refine blk_drew ?_ | refine blk_alloc ?_ _)); refine blk_put (cs := #[.slice Ao42 t923.length co42, .slice none 0 0]) ?_ 1 _ rfl; (with_reducible repeat (first | refine blk_drewN ?_ _ | refine blk_drew ?_ | refine blk_alloc ?_ _)); refine blk_put (cs := #[.slice none 0 0, .slice none 0 0]) ?_ 0 _ rfl; (with_reducible repeat (first | refine blk_drewN ?_ _ | refine blk_drew ?_ | refine blk_alloc ?_ _)); exact BK929.out) hg (Kd.R_ne HO928.out BK929.out (by decide))); have n4_ := Aside0.mk (hb); have n5_ := Aside0.mk (ho); clear BK920; clear BK921; clear HO925; clear BK929; clear HB; clear HO928; have BK920 := n0_; have BK921 := n1_; have HO925 := n2_; have BK929 := n3_; have HB := n4_; have HO932 := n5_; clear n0_ n1_ n2_ n3_ n4_ n5_; clear ho hb hg hat; obtain ⟨Ao48, co48, eo48⟩ := Kd.R_slice HO932.out; subst eo48; have hcz49_0 : w47.cell? ⟨gb929, 0, none⟩ = some (.slice Ao42 t923.length co42) := (blk_cell BK929.out 0).trans rfl; have hcz49_1 : w47.cell? ⟨gb929, 1, none⟩ = some (.slice Ao46 t926.length co46) := (blk_cell BK929.out 1).trans rfl; have hfz49_0 := blk_frozen BK929.out 0; have hfz49_1 := blk_frozen BK929.out 1) | ((with_reducible refine gate_callee (f := 63) rfl ?_); refine goesL_ (some 24) rfl rfl Try.func63 (by kernel_rfl) rfl #[.agg #[.slice Ao42 t923.length co42, .slice Ao48 y930.length co48]] rfl bM ?_; (with_reducible refine (impl_SecOk.calls k _ _ t923 _ _ y930 false _ ?side1 ?side2 ?side3 ?side4 A8.out).mono ?_); (case side1 => refine (Kd.R_reads' (e := 9) (base := w.heap.size) (ok := fun k_ => True) (n := t923.length) (c := co42) ?_).2.2; exact (pR (Kd.R_mono (Kd.R_far (p := ⟨gb929, 1, none⟩) (Kd.R_types HO925.out BK929.out (by decide)) (fun _ hk => hk.2) (.slice Ao48 y930.length co48)) (fun _ h_ => h_.1)))); (case side2 => exact (Kd.R_reads' HO925.out).2.1); (case side3 => refine (Kd.R_reads' (e := 75) (base := w.heap.size) (ok := fun k_ => True) (n := y930.length) (c := co48) ?_).2.2; exact (pR (Kd.R_mono (Kd.R_far (p := ⟨gb929, 1, none⟩) (Kd.R_types HO932.out BK929.out (by decide)) (fun _ hk => hk.2) (.slice Ao48 y930.length co48)) (fun _ h_ => h_.1)))); (case side4 => exact (Kd.R_reads' HO932.out).2.1); rintro e w50 ⟨rfl, hb⟩; refine ⟨_, rfl, ?_⟩; have n0_ := Aside0.mk (Kd.R_below (pR (Kd.R_mono (Kd.R_far (p := ⟨gb929, 1, none⟩) (Kd.R_types HO925.out BK929.out (by decide)) (fun _ hk => hk.2) (.slice Ao48 y930.length co48)) (fun _ h_ => h_.1))) hb); have n1_ := Aside0.mk (Kd.R_below (pR (Kd.R_mono (Kd.R_far (p := ⟨gb929, 1, none⟩) (Kd.R_types HO932.out BK929.out (by decide)) (fun _ hk => hk.2) (.slice Ao48 y930.length co48)) (fun _ h_ => h_.1))) hb); have n2_ := Aside0.mk (blk_below (g := gb920) (o := .cells #[.slice A0_0 l0_0.length c0_0, .slice A0_1 l0_1.length c0_1] 31 (0, 0)) (by (with_reducible repeat (first | refine blk_drewN ?_ _ | refine blk_drew ?_ | refine blk_alloc ?_ _)); refine blk_far ?_ NB920_929.out _; (with_reducible repeat (first | refine blk_drewN ?_ _ | refine blk_drew ?_ | refine blk_alloc ?_ _)); exact BK920.out) hb); have n3_ := Aside0.mk (blk_below (g := gb921) (o := .cells #[.slice none 0 0, .slice none 0 0] 31 (0, 0)) (by (with_reducible repeat (first | refine blk_drewN ?_ _ | refine blk_drew ?_ | refine blk_alloc ?_ _)); refine blk_far ?_ NB921_929.out _; (with_reducible repeat (first | refine blk_drewN ?_ _ | refine blk_drew ?_ | refine blk_alloc ?_ _)); exact BK921.out) hb); have n4_ := Aside0.mk (blk_below (g := gb929) (o := .cells #[.slice Ao42 t923.length co42, .slice Ao48 y930.length co48] 31 (0, 0)) (by (with_reducible repeat (first | refine blk_drewN ?_ _ | refine blk_drew ?_ | refine blk_alloc ?_ _)); refine blk_put (cs := #[.slice Ao42 t923.length co42, .slice Ao46 t926.length co46]) ?_ 1 _ rfl; (with_reducible repeat (first | refine blk_drewN ?_ _ | refine blk_drew ?_ | refine blk_alloc ?_ _)); exact BK929.out) hb); have n5_ := Aside0.mk (below_step (pS HB.out) hb); clear HO925; clear HO932; clear BK920; clear BK921; clear BK929; clear HB; have HO925 := n0_; have HO932 := n1_; have BK920 := n2_; have BK921 := n3_; have BK929 := n4_; have HB := n5_; clear n0_ n1_ n2_ n3_ n4_ n5_; (try clear hb); (try clear hb2); (try clear hk); (try clear hi); have hcz51_0 : w50.cell? ⟨gb920, 0, none⟩ = some (.slice A0_0 l0_0.length c0_0) := (blk_cell BK920.out 0).trans rfl; have hcz51_1 : w50.cell? ⟨gb920, 1, none⟩ = some (.slice A0_1 l0_1.length c0_1) := (blk_cell BK920.out 1).trans rfl; have hfz51_0 := blk_frozen BK920.out 0; have hfz51_1 := blk_frozen BK920.out 1) | ((with_reducible refine gate_callee (f := 64) rfl ?_); refine goesL_ (some 27) rfl rfl Try.func64 (by kernel_rfl) rfl #[.agg #[.slice A0_0 l0_0.length c0_0, .slice A0_1 l0_1.length c0_1]] rfl bM ?_; (with_reducible refine (impl_secCopy.calls _ _ l0_0 _ _ l0_1 t940 t943 _ ?side1 ?side2 ?side3 ?side4 A33.out).mono ?_); (case side1 => exact pC (Kd.C_below HR0_0.out HB.out)); (case side2 => exact HC0_0.out); (case side3 => exact pC (Kd.C_below HR0_1.out HB.out)); (case side4 => exact HC0_1.out); rintro e w52 ⟨v941, v944, rfl, ho0, ho1, hb⟩; refine ⟨_, rfl, ?_⟩; have n0_ := Aside0.mk (Kd.R_elder' (pR HO925.out) (Kd.R_base ho0) hb); have n1_ := Aside0.mk (Kd.R_elder' (pR HO932.out) (Kd.R_base ho1) hb); have n2_ := Aside0.mk (Kd.R_lower (Kd.R_new' ho0 (Kd.R_lt (pR HO925.out))) (below_size (pS HB.out))); have n3_ := Aside0.mk (Kd.R_lower (Kd.R_new' ho1 (Kd.R_lt (pR HO932.out))) (below_size (pS HB.out))); have n4_ := Aside0.mk (blk_below (pK BK920.out) hb); have n5_ := Aside0.mk (blk_below (pK BK921.out) hb); have n6_ := Aside0.mk (blk_below (pK BK929.out) hb); have n7_ := Aside0.mk (below_step (pS HB.out) hb); clear HO925; clear HO932; clear BK920; clear BK921; clear BK929; clear HB; have HO925 := n0_; have HO932 := n1_; have HO942 := n2_; have HO945 := n3_; have BK920 := n4_; have BK921 := n5_; have BK929 := n6_; have HB := n7_; clear n0_ n1_ n2_ n3_ n4_ n5_ n6_ n7_; (try clear hb); (try clear hb2); (try clear hk); (try clear hi); (try clear ho0); (try clear ho1); obtain ⟨Ao53, co53, eo53⟩ := Kd.R_slice HO942.out; subst eo53; have hcz54_0 : w52.cell? ⟨gb921, 0, none⟩ = some (.slice none 0 0) := (blk_cell BK921.out 0).trans rfl; have hcz54_1 : w52.cell? ⟨gb921, 1, none⟩ = some (.slice none 0 0) := (blk_cell BK921.out 1).trans rfl; have hfz54_0 := blk_frozen BK921.out 0; have hfz54_1 := blk_frozen BK921.out 1; obtain ⟨Ao55, co55, eo55⟩ := Kd.R_slice HO945.out; subst eo55))
    refine bodyPost_ret (results_ct rfl _ _ gb921 31 #[.slice Ao53 t940.length co53, .slice Ao55 t943.length co55] (0, 0) _ rfl (by (with_reducible repeat (first | refine blk_drewN ?_ _ | refine blk_drew ?_ | refine blk_alloc ?_ _)); refine blk_put (cs := #[.slice Ao53 t940.length co53, .slice none 0 0]) ?_ 1 _ rfl; (with_reducible repeat (first | refine blk_drewN ?_ _ | refine blk_drew ?_ | refine blk_alloc ?_ _)); refine blk_put (cs := #[.slice none 0 0, .slice none 0 0]) ?_ 0 _ rfl; (with_reducible repeat (first | refine blk_drewN ?_ _ | refine blk_drew ?_ | refine blk_alloc ?_ _)); exact BK921.out) Try.underlying31 rfl (by kernel_rfl)) rfl ?_
    exact ⟨_, _, by first | rfl | (simp [errW_none, errW_some] <;> rfl) | (simp [*, errW_none, errW_some] <;> rfl), pR (Kd.R_mono (Kd.R_far (p := ⟨gb921, 1, none⟩) (Kd.R_far (p := ⟨gb921, 0, none⟩) (Kd.R_types HO942.out BK921.out (by decide)) (fun _ hk => hk.2) (.slice Ao53 t940.length co53)) (fun _ hk => hk.2) (.slice Ao55 t943.length co55)) (fun _ hk => trivial)), pR (Kd.R_mono (Kd.R_far (p := ⟨gb921, 1, none⟩) (Kd.R_far (p := ⟨gb921, 0, none⟩) (Kd.R_types HO945.out BK921.out (by decide)) (fun _ hk => hk.2) (.slice Ao53 t940.length co53)) (fun _ hk => hk.2) (.slice Ao55 t943.length co55)) (fun _ hk => trivial)), pS HB.out⟩
  ·rw [if_neg c7] at H
   exact absurd H (by simp)
 ·replace c5 := Bool.eq_false_iff.mpr c5
  subst c5
  have H1 : (some (([] : List ByteArray), ([] : List (S75)), false)) = some (r1, r2, r3) := by rw [if_neg (show ¬ (false = true) by decide)] at H; exact H
  clear H
  have H := H1
  clear H1
  simp only [Option.some.injEq, Prod.mk.injEq] at H
  obtain ⟨rfl, rfl, rfl⟩ := H
  go_enter Try.func65, Try.ntmps65
  go_wp2_with (first | ((with_reducible refine gate_dst (N := 3) rfl ?_); refine box_event ?hg (N := 3) ?hd (cs := #[.slice A0_0 l0_0.length c0_0, .slice A0_1 l0_1.length c0_1]) (t := 31) ?hr ?_; (case hd => rfl); (case hg => rfl); (case hr => first | (go_simp; done) | (go_simp; rfl)); intro gb920 hg w56 hbox hb; have n0_ := Aside0.mk (below_step (pB HB.out) hb); have n1_ := Aside0.mk (hbox); have n2_ := Aside0.mk ((by rw [hg]; exact (below_size (pB HB.out)) : w.heap.size ≤ gb920)); have n3_ := Aside0.mk ((by rw [hg]; exact (below_size (pB HB.out)) : w.heap.size ≤ gb920)); clear HB; have HB := n0_; have BK920 := n1_; have GW920 := n2_; have GE920 := n3_; clear n0_ n1_ n2_ n3_; clear hb hbox hg) | ((with_reducible refine gate_dst (N := 6) rfl ?_); refine box_event ?hg (N := 6) ?hd (cs := #[.slice none 0 0, .slice none 0 0]) (t := 31) ?hr ?_; (case hd => rfl); (case hg => rfl); (case hr => first | (go_simp; done) | (go_simp; rfl)); intro gb921 hg w57 hbox hb; have n0_ := Aside0.mk (blk_below (pK BK920.out) hb); have n1_ := Aside0.mk (below_step (pS HB.out) hb); have n2_ := Aside0.mk (hbox); have n3_ := Aside0.mk ((by rw [hg]; exact (below_size (pS HB.out)) : w.heap.size ≤ gb921)); have n4_ := Aside0.mk ((by rw [hg]; exact (below_size (pS HB.out)) : w.heap.size ≤ gb921)); have n5_ := Aside0.mk ((by rw [hg]; exact Nat.ne_of_lt (blk_lt (pK BK920.out)) : gb920 ≠ gb921)); have n6_ := Aside0.mk ((by rw [hg]; exact Nat.ne_of_gt (blk_lt (pK BK920.out)) : gb921 ≠ gb920)); clear BK920; clear HB; have BK920 := n0_; have HB := n1_; have BK921 := n2_; have GW921 := n3_; have GE921 := n4_; have NB920_921 := n5_; have NB921_920 := n6_; clear n0_ n1_ n2_ n3_ n4_ n5_ n6_; clear hb hbox hg; have hnb58 := NB920_921.out; have hnc58 := NB921_920.out; have hcz59_0 : w57.cell? ⟨gb920, 0, none⟩ = some (.slice A0_0 l0_0.length c0_0) := (blk_cell BK920.out 0).trans rfl; have hcz59_1 : w57.cell? ⟨gb920, 1, none⟩ = some (.slice A0_1 l0_1.length c0_1) := (blk_cell BK920.out 1).trans rfl; have hfz59_0 := blk_frozen BK920.out 0; have hfz59_1 := blk_frozen BK920.out 1) | ((with_reducible refine gate_callee (f := 63) rfl ?_); refine goesL_ (some 10) rfl rfl Try.func63 (by kernel_rfl) rfl #[.agg #[.slice A0_0 l0_0.length c0_0, .slice A0_1 l0_1.length c0_1]] rfl bM ?_; (with_reducible refine (impl_SecOk.calls k _ _ l0_0 _ _ l0_1 false _ ?side1 ?side2 ?side3 ?side4 A4.out).mono ?_); (case side1 => exact pC (Kd.C_below HR0_0.out HB.out)); (case side2 => exact HC0_0.out); (case side3 => exact pC (Kd.C_below HR0_1.out HB.out)); (case side4 => exact HC0_1.out); rintro e w60 ⟨rfl, hb⟩; refine ⟨_, rfl, ?_⟩; have n0_ := Aside0.mk (blk_below (pK BK920.out) hb); have n1_ := Aside0.mk (blk_below (pK BK921.out) hb); have n2_ := Aside0.mk (below_step (pS HB.out) hb); clear BK920; clear BK921; clear HB; have BK920 := n0_; have BK921 := n1_; have HB := n2_; clear n0_ n1_ n2_; (try clear hb); (try clear hb2); (try clear hk); (try clear hi); have hcz61_0 : w60.cell? ⟨gb921, 0, none⟩ = some (.slice none 0 0) := (blk_cell BK921.out 0).trans rfl; have hcz61_1 : w60.cell? ⟨gb921, 1, none⟩ = some (.slice none 0 0) := (blk_cell BK921.out 1).trans rfl; have hfz61_0 := blk_frozen BK921.out 0; have hfz61_1 := blk_frozen BK921.out 1))
  refine bodyPost_ret (results_ct rfl _ _ gb921 31 #[.slice none 0 0, .slice none 0 0] (0, 0) _ rfl (by (with_reducible repeat (first | refine blk_drewN ?_ _ | refine blk_drew ?_ | refine blk_alloc ?_ _)); refine blk_put (cs := #[.slice none 0 0, .slice none 0 0]) ?_ 1 _ rfl; (with_reducible repeat (first | refine blk_drewN ?_ _ | refine blk_drew ?_ | refine blk_alloc ?_ _)); refine blk_put (cs := #[.slice none 0 0, .slice none 0 0]) ?_ 0 _ rfl; (with_reducible repeat (first | refine blk_drewN ?_ _ | refine blk_drew ?_ | refine blk_alloc ?_ _)); exact BK921.out) Try.underlying31 rfl (by kernel_rfl)) rfl ?_
  exact ⟨_, _, by first | rfl | (simp [errW_none, errW_some] <;> rfl) | (simp [*, errW_none, errW_some] <;> rfl), by first | exact Kd.R_nil _ _ _ _ _ | exact Kd.N_nil _ _ _ _ _ | exact Kd.V_nil _ _ _ _ _ | exact Kd.Q_nil _ _ _ _ _ | exact Kd.S_nil _ _ _ _ _, by first | exact Kd.R_nil _ _ _ _ _ | exact Kd.N_nil _ _ _ _ _ | exact Kd.V_nil _ _ _ _ _ | exact Kd.Q_nil _ _ _ _ _ | exact Kd.S_nil _ _ _ _ _, pS HB.out⟩

end Go.Proofs.Ythjocaegapchaaa.P
