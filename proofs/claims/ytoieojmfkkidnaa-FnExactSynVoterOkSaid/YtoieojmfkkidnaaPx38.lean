-- printed by pprint.py (this session's program over the kit's printer) out of the translation. Lean checks it.
import Derived.Test.YtoieojmfkkidnaaPx0
import Derived.Test.YtoieojmfkkidnaaPx16
import Derived.Test.YtoieojmfkkidnaaPx21
namespace Go.Proofs.Ytoieojmfkkidnaa.P
open Go.RowKit Go.Proofs.YtoieojmfkkidnaaX Go.Proofs.YtoieojmfkkidnaaW.PrintWords Go.Proofs.YtoieojmfkkidnaaW.PrintLast Go.Proofs.YtoieojmfkkidnaaW.PrintMore
attribute [local go_sem] max2_int min2_int max_two min_two max_three min_three max_four min_four   -- for this text's walks alone
set_option linter.unusedVariables false
set_option linter.unusedSimpArgs false

/-! ### laws_szSynPaperS: function 85 -/
def laws_szSynPaperS.f (l0 : List (S57)) (a1 : Int) : Option (Int) := if (wrap64 (a1 - (l0.length : Int))) < 0 then (some (-1)) else (some (wrap64 (a1 - (l0.length : Int))))
set_option maxHeartbeats 8000000 in
set_option maxRecDepth 100000 in
theorem laws_szSynPaperS.calls (A0 : Option Addr) (c0 : Nat) (l0 : List (S57)) (a1 : Int) (r : Int) (w : World) (hr0 : Kd.C k57 w A0 l0.length l0) (hc0 : l0.length ≤ c0) (h : laws_szSynPaperS.f l0 a1 = some r) :
  Calls Try.prog 85 #[.slice A0 l0.length c0, .int .i64 a1] w fun e w' => e = .returned (.int .i64 r) ∧ Drawn0 w w' := by
 have HR0 := Aside0.mk hr0
 have HC0 := Aside0.mk hc0
 clear hr0 hc0
 have H : (if (wrap64 (a1 - (l0.length : Int))) < 0 then (some (-1)) else (some (wrap64 (a1 - (l0.length : Int))))) = some r := h
 clear h
 by_cases c3 : (wrap64 (a1 - (l0.length : Int))) < 0
 ·rw [if_pos c3] at H
  have c3b0 : decide ((wrap64 (a1 - (l0.length : Int))) < 0) = true := decide_eq_true c3
  clear c3
  obtain rfl := Option.some.inj H
  go_enter Try.func85, Try.ntmps85
  go_wp2
  go_ret
  exact ⟨by first | rfl | (simp; done) | (simp [*]; done), by repeat (first | exact Drawn0.refl _ | apply Drawn0.step)⟩
 ·rw [if_neg c3] at H
  have c3b0 : decide ((wrap64 (a1 - (l0.length : Int))) < 0) = false := decide_eq_false c3
  clear c3
  obtain rfl := Option.some.inj H
  go_enter Try.func85, Try.ntmps85
  go_wp2
  go_ret
  exact ⟨by first | rfl | (simp; done) | (simp [*]; done), by repeat (first | exact Drawn0.refl _ | apply Drawn0.step)⟩

/-! ### laws_szSynVoter: function 25 -/
def laws_szSynVoter.f (a0_0 : Int) (l0_1 : List (S57)) (a1 : Int) : Option (Int) := (laws_szSynPaperS.f l0_1 a1).bind fun t638 => (if t638 < 0 then (some (-1)) else (some t638))
set_option maxHeartbeats 8000000 in
set_option maxRecDepth 100000 in
theorem laws_szSynVoter.calls (a0_0 : Int) (A0_1 : Option Addr) (c0_1 : Nat) (l0_1 : List (S57)) (a1 : Int) (r : Int) (w : World) (hr0_1 : Kd.C k57 w A0_1 l0_1.length l0_1) (hc0_1 : l0_1.length ≤ c0_1) (h : laws_szSynVoter.f a0_0 l0_1 a1 = some r) :
  Calls Try.prog 25 #[.agg #[.int .i64 a0_0, .slice A0_1 l0_1.length c0_1], .int .i64 a1] w fun e w' => e = .returned (.int .i64 r) ∧ Below w.heap.size w w' := by
 have hu47 := Try.underlying47
 have HR0_1 := Aside0.mk hr0_1
 have HC0_1 := Aside0.mk hc0_1
 clear hr0_1 hc0_1
 have HB := Aside0.mk (Below.refl w.heap.size w)
 have H : ((laws_szSynPaperS.f l0_1 a1).bind fun t638 => (if t638 < 0 then (some (-1)) else (some t638))) = some r := h
 clear h
 replace H := Option.bind_eq_some_iff.mp H
 obtain ⟨t638, A30, H⟩ := H
 replace H : (if t638 < 0 then (some (-1)) else (some t638)) = some r := H
 have A3 := Aside0.mk A30
 clear A30
 by_cases c4 : t638 < 0
 ·rw [if_pos c4] at H
  have c4b0 : decide (t638 < 0) = true := decide_eq_true c4
  clear c4
  obtain rfl := Option.some.inj H
  go_enter Try.func25, Try.ntmps25
  go_wp2_with (first | ((with_reducible refine gate_dst (N := 2) rfl ?_); refine box_event ?hg (N := 2) ?hd (cs := #[.int .i64 a0_0, .slice A0_1 l0_1.length c0_1]) (t := 47) ?hr ?_; (case hd => rfl); (case hg => rfl); (case hr => first | (go_simp; done) | (go_simp; rfl)); intro gb637 hg w5 hbox hb; have n0_ := Aside0.mk (below_step (pB HB.out) hb); have n1_ := Aside0.mk (hbox); have n2_ := Aside0.mk ((by rw [hg]; exact (below_size (pB HB.out)) : w.heap.size ≤ gb637)); have n3_ := Aside0.mk ((by rw [hg]; exact (below_size (pB HB.out)) : w.heap.size ≤ gb637)); clear HB; have HB := n0_; have BK637 := n1_; have GW637 := n2_; have GE637 := n3_; clear n0_ n1_ n2_ n3_; clear hb hbox hg; have hcz6_0 : w5.cell? ⟨gb637, 0, none⟩ = some (.int .i64 a0_0) := (blk_cell BK637.out 0).trans rfl; have hcz6_1 : w5.cell? ⟨gb637, 1, none⟩ = some (.slice A0_1 l0_1.length c0_1) := (blk_cell BK637.out 1).trans rfl; have hfz6_0 := blk_frozen BK637.out 0; have hfz6_1 := blk_frozen BK637.out 1) | ((with_reducible refine gate_callee (f := 85) rfl ?_); refine goesL_ (some 8) rfl rfl Try.func85 (by kernel_rfl) rfl #[.slice A0_1 l0_1.length c0_1, .int .i64 a1] rfl bM ?_; (with_reducible refine (laws_szSynPaperS.calls _ _ l0_1 a1 t638 _ ?side1 ?side2 A3.out).mono ?_); (case side1 => exact pC (Kd.C_below HR0_1.out HB.out)); (case side2 => exact HC0_1.out); rintro e w' ⟨rfl, ⟨nd, rfl⟩⟩; refine ⟨_, rfl, ?_⟩))
  go_ret
  exact ⟨by first | rfl | (simp [errW_none, errW_some] <;> rfl) | (simp [*, errW_none, errW_some] <;> rfl), pS HB.out⟩
 ·rw [if_neg c4] at H
  have c4b0 : decide (t638 < 0) = false := decide_eq_false c4
  clear c4
  obtain rfl := Option.some.inj H
  go_enter Try.func25, Try.ntmps25
  go_wp2_with (first | ((with_reducible refine gate_dst (N := 2) rfl ?_); refine box_event ?hg (N := 2) ?hd (cs := #[.int .i64 a0_0, .slice A0_1 l0_1.length c0_1]) (t := 47) ?hr ?_; (case hd => rfl); (case hg => rfl); (case hr => first | (go_simp; done) | (go_simp; rfl)); intro gb637 hg w7 hbox hb; have n0_ := Aside0.mk (below_step (pB HB.out) hb); have n1_ := Aside0.mk (hbox); have n2_ := Aside0.mk ((by rw [hg]; exact (below_size (pB HB.out)) : w.heap.size ≤ gb637)); have n3_ := Aside0.mk ((by rw [hg]; exact (below_size (pB HB.out)) : w.heap.size ≤ gb637)); clear HB; have HB := n0_; have BK637 := n1_; have GW637 := n2_; have GE637 := n3_; clear n0_ n1_ n2_ n3_; clear hb hbox hg; have hcz8_0 : w7.cell? ⟨gb637, 0, none⟩ = some (.int .i64 a0_0) := (blk_cell BK637.out 0).trans rfl; have hcz8_1 : w7.cell? ⟨gb637, 1, none⟩ = some (.slice A0_1 l0_1.length c0_1) := (blk_cell BK637.out 1).trans rfl; have hfz8_0 := blk_frozen BK637.out 0; have hfz8_1 := blk_frozen BK637.out 1) | ((with_reducible refine gate_callee (f := 85) rfl ?_); refine goesL_ (some 8) rfl rfl Try.func85 (by kernel_rfl) rfl #[.slice A0_1 l0_1.length c0_1, .int .i64 a1] rfl bM ?_; (with_reducible refine (laws_szSynPaperS.calls _ _ l0_1 a1 t638 _ ?side1 ?side2 A3.out).mono ?_); (case side1 => exact pC (Kd.C_below HR0_1.out HB.out)); (case side2 => exact HC0_1.out); rintro e w' ⟨rfl, ⟨nd, rfl⟩⟩; refine ⟨_, rfl, ?_⟩))
  go_ret
  exact ⟨by first | rfl | (simp [errW_none, errW_some] <;> rfl) | (simp [*, errW_none, errW_some] <;> rfl), pS HB.out⟩

/-! ### laws_toSynPaperS: function 87 -/
def laws_toSynPaperS.l0 : Nat → List (S57) → List (S64) → Int → Option ((List (S64)))
 | 0, _, _, _ => none
 | k + 1, x0, x3, x4 => if x4 < (x0.length : Int) then (if 0 ≤ x4 then ((laws_toSynPaper.f ((rd_T57 x0 x4).f0) ((rd_T57 x0 x4).f1) ((rd_T57 x0 x4).f2.f0) ((rd_T57 x0 x4).f2.f1) ((rd_T57 x0 x4).f2.f2) ((rd_T57 x0 x4).f2.f3) ((rd_T57 x0 x4).f2.f4) ((rd_T57 x0 x4).f2.f5) ((rd_T57 x0 x4).f2.f6) ((rd_T57 x0 x4).f2.f7) ((rd_T57 x0 x4).f2.f8) ((rd_T57 x0 x4).f2.f9)).bind fun bt667 => (if x4 < (x3.length : Int) then (laws_toSynPaperS.l0 k x0 (x3.set (x4 : Int).toNat (⟨bt667.1, bt667.2.1, (⟨bt667.2.2.1, bt667.2.2.2.1, bt667.2.2.2.2.1, bt667.2.2.2.2.2.1, bt667.2.2.2.2.2.2.1, bt667.2.2.2.2.2.2.2.1, bt667.2.2.2.2.2.2.2.2.1, bt667.2.2.2.2.2.2.2.2.2.1, bt667.2.2.2.2.2.2.2.2.2.2.1, bt667.2.2.2.2.2.2.2.2.2.2.2⟩ : S24)⟩ : S64)) (wrap64 (x4 + 1))) else (none))) else (none)) else (some x3)
def laws_toSynPaperS.f (k : Nat) (l0 : List (S57)) : Option ((List (S64))) := if 0 ≤ (l0.length : Int) then (if ((l0.length : Int) : Int).toNat ≤ 2932031007402 then (laws_toSynPaperS.l0 k l0 (List.replicate ((l0.length : Int) : Int).toNat z64) 0) else (none)) else (none)
theorem laws_toSynPaperS.mono_l : ∀ k, (∀ y0 y1 y2, LeO (laws_toSynPaperS.l0 k y0 y1 y2) (laws_toSynPaperS.l0 (k + 1) y0 y1 y2))
 | 0 => fun _ _ _ r h => by simp [laws_toSynPaperS.l0] at h
 | k + 1 => by
  have ih0 := laws_toSynPaperS.mono_l k
  ·intro y0 y1 y2
   unfold laws_toSynPaperS.l0
   repeat' first
   | (with_reducible exact ih0 _ _ _)
   | (with_reducible exact LeO.refl _)
   | (with_reducible exact LeO.none _)
   | (with_reducible refine LeO.ite ?_ ?_)
   | (with_reducible refine LeO.bind ?_ (fun _ => ?_))
   | exact ih0 _ _ _
   | exact LeO.none _
   | refine LeO.ite ?_ ?_
   | refine LeO.bind ?_ (fun _ => ?_)
theorem laws_toSynPaperS.mono : ∀ a0 k, LeO (laws_toSynPaperS.f k a0) (laws_toSynPaperS.f (k + 1) a0) := by
 intro a0 k
 have ih0 := laws_toSynPaperS.mono_l k
 unfold laws_toSynPaperS.f
 repeat' first
   | (with_reducible exact ih0 _ _ _)
   | (with_reducible exact LeO.refl _)
   | (with_reducible exact LeO.none _)
   | (with_reducible refine LeO.ite ?_ ?_)
   | (with_reducible refine LeO.bind ?_ (fun _ => ?_))
   | exact ih0 _ _ _
   | exact LeO.none _
   | refine LeO.ite ?_ ?_
   | refine LeO.bind ?_ (fun _ => ?_)
set_option maxHeartbeats 8000000 in
set_option maxRecDepth 100000 in
theorem laws_toSynPaperS.calls (k : Nat) (A0 : Option Addr) (c0 : Nat) (l0 : List (S57)) (r : List (S64)) (w : World) (hr0 : Kd.C k57 w A0 l0.length l0) (hc0 : l0.length ≤ c0) (h : laws_toSynPaperS.f k l0 = some r) :
  Calls Try.prog 87 #[.slice A0 l0.length c0] w fun e w' => ∃ v0_ : Value, e = .returned (v0_) ∧ Kd.R k64 64 w' w.heap.size (fun _ => True) v0_ r ∧ Below w.heap.size w w' := by
 have hu57 := Try.underlying57
 have hu64 := Try.underlying64
 have HR0 := Aside0.mk hr0
 have HC0 := Aside0.mk hc0
 clear hr0 hc0
 have HB := Aside0.mk (Below.refl w.heap.size w)
 have H : (if 0 ≤ (l0.length : Int) then (if ((l0.length : Int) : Int).toNat ≤ 2932031007402 then (laws_toSynPaperS.l0 k l0 (List.replicate ((l0.length : Int) : Int).toNat z64) 0) else (none)) else (none)) = some r := h
 clear h
 by_cases c2 : 0 ≤ (l0.length : Int)
 ·rw [if_pos c2] at H
  have c2b0 := eq_true c2
  have c2b1 : decide (0 ≤ (l0.length : Int)) = true := decide_eq_true c2
  clear c2
  by_cases c3 : ((l0.length : Int) : Int).toNat ≤ 2932031007402
  ·rw [if_pos c3] at H
   have c3b0 := eq_true c3
   have c3b1 : decide (((l0.length : Int) : Int).toNat ≤ 2932031007402) = true := decide_eq_true c3
   clear c3
   obtain ⟨y663, hy663⟩ : ∃ y_ : List (S64), y_ = (List.replicate ((l0.length : Int) : Int).toNat z64) := ⟨_, rfl⟩
   replace H : (laws_toSynPaperS.l0 k l0 y663 0) = some r := by first | (rw [hy663]; with_reducible exact H) | (have H2_ := (Option.bind_some _ _).symm.trans H; rw [hy663]; with_reducible exact H2_) | (have H2_ := (Option.bind_some _ _).symm.trans H; with_reducible exact H2_) | with_reducible exact H | (rw [hy663]; exact H) | exact H
   have Ny663 := Aside0.mk hy663
   clear hy663
   have H' := Aside0.mk H
   clear H
   go_enter Try.func87, Try.ntmps87
   go_wp2_with (first | ((with_reducible refine gate_dst (N := 7) rfl ?_); refine Kd.R_make k64 _ 64 rfl (N := 7) rfl 50 _ _ rfl (l0.length : Int) rfl rfl Try.underlying50 (.agg #[(.int .i64 0), (.int .i64 0), (.int .i64 0), (.int .i64 0), (.int .i64 0), (.int .i64 0), (.int .i64 0), (.int .i64 0), (.int .i64 0), (.int .i64 0), (.int .i64 0), (.int .i64 0)]) 96 info64 rfl (by decide) (by omega) z64 (ok := fun _ => True) (okp := fun _ => True) (k64_mkM _ _ _ z64 ) (fun _ hk => hk) trivial (of_decide_eq_true bA) (Nat.le_trans (Nat.mul_le_mul_right _ (of_decide_eq_true bA : (l0.length : Int).toNat ≤ 2932031007402)) (by omega)) (Below.refl _ _) (Nat.le_refl _) ?_; intro v664 w4 ho5 hb hg_ hnew_; clear hg_ hnew_; (first | rw [← Ny663.out] at ho5 | (simp only [Int.reduceToNat] at ho5; rw [← Ny663.out] at ho5)); have n0_ := Aside0.mk (Kd.R_lower ho5 (below_size (pB HB.out))); have n1_ := Aside0.mk (below_step (pB HB.out) hb); clear HB; have HO665 := n0_; have HB := n1_; clear n0_ n1_; clear hb ho5))
   go_loopg [4] k (fun kq v4 w' => ∃ (x3_1 : List (S64)) (x4_1 : Int), v4 = .int .i64 x4_1 ∧ Aside0 (laws_toSynPaperS.l0 kq l0 x3_1 x4_1 = some r) ∧ Aside0 (kq ≤ k) ∧ Aside0 (Kd.R k64 64 w' w.heap.size (fun _ => True) v664 x3_1) ∧ Aside0 (Below w.heap.size w w'))
   case atStart => exact ⟨(y663), (0), (by first | rfl | (simp; done) | (simp [*]; done)), H', ⟨Nat.le_refl _⟩, ⟨pR HO665.out⟩, ⟨pB HB.out⟩⟩
   case round =>
    clear H'
    try clear c2
    try clear c2b0
    try clear c2b1
    try clear p2
    try clear c3
    try clear c3b0
    try clear c3b1
    obtain ⟨x3_1, x4_1, rfl, HA, HK1, HO_3, HB⟩ := hrel
    cases gk with
    | zero => exact absurd HA.out (by simp [laws_toSynPaperS.l0])
    | succ k1 =>
     have H := HA.out
     clear HA
     simp only [laws_toSynPaperS.l0] at H
     by_cases c6 : x4_1 < (l0.length : Int)
     ·rw [if_pos c6] at H
      have c6b0 : decide (x4_1 < (l0.length : Int)) = true := decide_eq_true c6
      clear c6
      by_cases c7 : 0 ≤ x4_1
      ·rw [if_pos c7] at H
       have c7b0 : decide (0 ≤ x4_1) = true := decide_eq_true c7
       clear c7
       replace H := Option.bind_eq_some_iff.mp H
       obtain ⟨⟨t667, t668, t669, t670, t671, t672, t673, t674, t675, t676, t677, t678⟩, A80, H⟩ := H
       replace H : (if x4_1 < (x3_1.length : Int) then (laws_toSynPaperS.l0 k1 l0 (x3_1.set (x4_1 : Int).toNat (⟨t667, t668, (⟨t669, t670, t671, t672, t673, t674, t675, t676, t677, t678⟩ : S24)⟩ : S64)) (wrap64 (x4_1 + 1))) else (none)) = some r := H
       have A8 := Aside0.mk A80
       clear A80
       by_cases c9 : x4_1 < (x3_1.length : Int)
       ·rw [if_pos c9] at H
        have c9b0 : decide (x4_1 < (x3_1.length : Int)) = true := decide_eq_true c9
        clear c9
        obtain ⟨y679, hy679⟩ : ∃ y_ : List (S64), y_ = (x3_1.set (x4_1 : Int).toNat (⟨t667, t668, (⟨t669, t670, t671, t672, t673, t674, t675, t676, t677, t678⟩ : S24)⟩ : S64)) := ⟨_, rfl⟩
        replace H : (laws_toSynPaperS.l0 k1 l0 y679 (wrap64 (x4_1 + 1))) = some r := by first | (rw [hy679]; with_reducible exact H) | (have H2_ := (Option.bind_some _ _).symm.trans H; rw [hy679]; with_reducible exact H2_) | (have H2_ := (Option.bind_some _ _).symm.trans H; with_reducible exact H2_) | with_reducible exact H | (rw [hy679]; exact H) | exact H
        have Ny679 := Aside0.mk hy679
        clear hy679
        have H' := Aside0.mk H
        clear H
        have p666 : 0 ≤ (x4_1 : Int) := of_decide_eq_true bA
        have q666 : x4_1 < (l0.length : Int) := of_decide_eq_true bA
        obtain ⟨ad666, e666, hx666_0, hx666_1, hx666_2, hx666_3, hx666_4, hx666_5, hx666_6, hx666_7, hx666_8, hx666_9, hx666_10, hx666_11⟩ := at_T57 HR0.out x4_1 p666 q666
        cases e666
        replace hx666_0 := (HB.out.cell (World.block_lt_of_cell? w _ hx666_0)).trans hx666_0
        replace hx666_1 := (HB.out.cell (World.block_lt_of_cell? w _ hx666_1)).trans hx666_1
        replace hx666_2 := (HB.out.cell (World.block_lt_of_cell? w _ hx666_2)).trans hx666_2
        replace hx666_3 := (HB.out.cell (World.block_lt_of_cell? w _ hx666_3)).trans hx666_3
        replace hx666_4 := (HB.out.cell (World.block_lt_of_cell? w _ hx666_4)).trans hx666_4
        replace hx666_5 := (HB.out.cell (World.block_lt_of_cell? w _ hx666_5)).trans hx666_5
        replace hx666_6 := (HB.out.cell (World.block_lt_of_cell? w _ hx666_6)).trans hx666_6
        replace hx666_7 := (HB.out.cell (World.block_lt_of_cell? w _ hx666_7)).trans hx666_7
        replace hx666_8 := (HB.out.cell (World.block_lt_of_cell? w _ hx666_8)).trans hx666_8
        replace hx666_9 := (HB.out.cell (World.block_lt_of_cell? w _ hx666_9)).trans hx666_9
        replace hx666_10 := (HB.out.cell (World.block_lt_of_cell? w _ hx666_10)).trans hx666_10
        replace hx666_11 := (HB.out.cell (World.block_lt_of_cell? w _ hx666_11)).trans hx666_11
        replace p666 := eq_true p666
        replace q666 := eq_true q666
        go_wp2_with (first | ((with_reducible refine gate_callee (f := 91) rfl ?_); refine goesL_ (some 20) rfl rfl Try.func91 (by kernel_rfl) rfl #[.agg #[.int .i64 ((rd_T57 l0 x4_1).f0), .int .i64 ((rd_T57 l0 x4_1).f1), .int .i64 ((rd_T57 l0 x4_1).f2.f0), .int .i64 ((rd_T57 l0 x4_1).f2.f1), .int .i64 ((rd_T57 l0 x4_1).f2.f2), .int .i64 ((rd_T57 l0 x4_1).f2.f3), .int .i64 ((rd_T57 l0 x4_1).f2.f4), .int .i64 ((rd_T57 l0 x4_1).f2.f5), .int .i64 ((rd_T57 l0 x4_1).f2.f6), .int .i64 ((rd_T57 l0 x4_1).f2.f7), .int .i64 ((rd_T57 l0 x4_1).f2.f8), .int .i64 ((rd_T57 l0 x4_1).f2.f9)]] rfl bM ?_; (with_reducible refine (laws_toSynPaper.calls ((rd_T57 l0 x4_1).f0) ((rd_T57 l0 x4_1).f1) ((rd_T57 l0 x4_1).f2.f0) ((rd_T57 l0 x4_1).f2.f1) ((rd_T57 l0 x4_1).f2.f2) ((rd_T57 l0 x4_1).f2.f3) ((rd_T57 l0 x4_1).f2.f4) ((rd_T57 l0 x4_1).f2.f5) ((rd_T57 l0 x4_1).f2.f6) ((rd_T57 l0 x4_1).f2.f7) ((rd_T57 l0 x4_1).f2.f8) ((rd_T57 l0 x4_1).f2.f9) t667 t668 t669 t670 t671 t672 t673 t674 t675 t676 t677 t678 _ A8.out).mono ?_); rintro e w11 ⟨rfl, hb⟩; refine ⟨_, rfl, ?_⟩; have n0_ := Aside0.mk (Kd.R_below (pR HO_3.out) hb); have n1_ := Aside0.mk (below_step (pB HB.out) hb); clear HO_3; clear HB; have HO_3 := n0_; have HB := n1_; clear n0_ n1_; (try clear hb); (try clear hb2); (try clear hk); (try clear hi); have p10 : 0 ≤ (x4_1 : Int) := of_decide_eq_true bA; have q10 : (x4_1 : Int) < ((x3_1.length : Int) : Int) := of_decide_eq_true bA; obtain ⟨go10, co10, eo10, gb10, gl10, cl10, HG10⟩ := Kd.R_form HO_3.out (by omega); (first | cases eo10 | (injection eo10 with ea_ en_ ec_; (first | subst ea_ | (injection ea_ with ea_; subst ea_)); subst ec_; clear en_)); have GB10 := Aside0.mk gb10; have GG10 := Aside0.mk HG10; clear gb10 gl10 HG10; obtain ⟨ce10, hcl10, hM10, hcc10, hfr10⟩ := Kd.R_elem HO_3.out z64 (x4_1 : Int) p10 q10; obtain rfl := k64_openM hM10; have hx10_0 : w11.cell? ⟨go10, (x4_1 : Int).toNat * 12, none⟩ = some (.int .i64 ((rd_T64 x3_1 x4_1).f0)) := hcc10 0 _ rfl; have hx10_1 : w11.cell? ⟨go10, (x4_1 : Int).toNat * 12 + 1, none⟩ = some (.int .i64 ((rd_T64 x3_1 x4_1).f1)) := hcc10 1 _ rfl; have hx10_2 : w11.cell? ⟨go10, (x4_1 : Int).toNat * 12 + 2, none⟩ = some (.int .i64 ((rd_T64 x3_1 x4_1).f2.f0)) := hcc10 2 _ rfl; have hx10_3 : w11.cell? ⟨go10, (x4_1 : Int).toNat * 12 + 3, none⟩ = some (.int .i64 ((rd_T64 x3_1 x4_1).f2.f1)) := hcc10 3 _ rfl; have hx10_4 : w11.cell? ⟨go10, (x4_1 : Int).toNat * 12 + 4, none⟩ = some (.int .i64 ((rd_T64 x3_1 x4_1).f2.f2)) := hcc10 4 _ rfl; have hx10_5 : w11.cell? ⟨go10, (x4_1 : Int).toNat * 12 + 5, none⟩ = some (.int .i64 ((rd_T64 x3_1 x4_1).f2.f3)) := hcc10 5 _ rfl; have hx10_6 : w11.cell? ⟨go10, (x4_1 : Int).toNat * 12 + 6, none⟩ = some (.int .i64 ((rd_T64 x3_1 x4_1).f2.f4)) := hcc10 6 _ rfl; have hx10_7 : w11.cell? ⟨go10, (x4_1 : Int).toNat * 12 + 7, none⟩ = some (.int .i64 ((rd_T64 x3_1 x4_1).f2.f5)) := hcc10 7 _ rfl; have hx10_8 : w11.cell? ⟨go10, (x4_1 : Int).toNat * 12 + 8, none⟩ = some (.int .i64 ((rd_T64 x3_1 x4_1).f2.f6)) := hcc10 8 _ rfl; have hx10_9 : w11.cell? ⟨go10, (x4_1 : Int).toNat * 12 + 9, none⟩ = some (.int .i64 ((rd_T64 x3_1 x4_1).f2.f7)) := hcc10 9 _ rfl; have hx10_10 : w11.cell? ⟨go10, (x4_1 : Int).toNat * 12 + 10, none⟩ = some (.int .i64 ((rd_T64 x3_1 x4_1).f2.f8)) := hcc10 10 _ rfl; have hx10_11 : w11.cell? ⟨go10, (x4_1 : Int).toNat * 12 + 11, none⟩ = some (.int .i64 ((rd_T64 x3_1 x4_1).f2.f9)) := hcc10 11 _ rfl; have hf10_0 : w11.frozen? ⟨go10, (x4_1 : Int).toNat * 12, none⟩ = false := hfr10 0; have hf10_1 : w11.frozen? ⟨go10, (x4_1 : Int).toNat * 12 + 1, none⟩ = false := hfr10 1; have hf10_2 : w11.frozen? ⟨go10, (x4_1 : Int).toNat * 12 + 2, none⟩ = false := hfr10 2; have hf10_3 : w11.frozen? ⟨go10, (x4_1 : Int).toNat * 12 + 3, none⟩ = false := hfr10 3; have hf10_4 : w11.frozen? ⟨go10, (x4_1 : Int).toNat * 12 + 4, none⟩ = false := hfr10 4; have hf10_5 : w11.frozen? ⟨go10, (x4_1 : Int).toNat * 12 + 5, none⟩ = false := hfr10 5; have hf10_6 : w11.frozen? ⟨go10, (x4_1 : Int).toNat * 12 + 6, none⟩ = false := hfr10 6; have hf10_7 : w11.frozen? ⟨go10, (x4_1 : Int).toNat * 12 + 7, none⟩ = false := hfr10 7; have hf10_8 : w11.frozen? ⟨go10, (x4_1 : Int).toNat * 12 + 8, none⟩ = false := hfr10 8; have hf10_9 : w11.frozen? ⟨go10, (x4_1 : Int).toNat * 12 + 9, none⟩ = false := hfr10 9; have hf10_10 : w11.frozen? ⟨go10, (x4_1 : Int).toNat * 12 + 10, none⟩ = false := hfr10 10; have hf10_11 : w11.frozen? ⟨go10, (x4_1 : Int).toNat * 12 + 11, none⟩ = false := hfr10 11; clear hcl10 hcc10 hfr10 hM10; replace p10 := eq_true p10; replace q10 := eq_true q10; have HX12 := Aside0.mk (show Kd.R k64 64 w11 w.heap.size (fun _ => True) (.slice (some ⟨go10, 0, none⟩) x3_1.length co10) x3_1 from (pR HO_3.out)); obtain ⟨ce12, hcl12, hM12, hcc12, hfr12⟩ := Kd.R_elem HX12.out z64 (x4_1 : Int) (of_decide_eq_true bA) (by have h_ : (x4_1 : Int) < ((x3_1.length : Int) : Int) := of_decide_eq_true bA; first | exact h_ | (have e_ := (Kd.R_reads' HO_3.out).1; omega) | simpa using h_); obtain rfl := k64_openM hM12; have HP12 := Kd.R_seg HX12.out (x4_1 : Int) (of_decide_eq_true bA) (by have h_ : (x4_1 : Int) < ((x3_1.length : Int) : Int) := of_decide_eq_true bA; first | exact h_ | (have e_ := (Kd.R_reads' HO_3.out).1; omega) | simpa using h_) (seg := [.int .i64 t667, .int .i64 t668, .int .i64 t669, .int .i64 t670, .int .i64 t671, .int .i64 t672, .int .i64 t673, .int .i64 t674, .int .i64 t675, .int .i64 t676, .int .i64 t677, .int .i64 t678]) (j := 0) hcl12 hcc12 (show 12 ≤ 12 from by decide) (x' := (⟨t667, t668, (⟨t669, t670, t671, t672, t673, t674, t675, t676, t677, t678⟩ : S24)⟩ : S64)) (k64_mkM _ _ _ (⟨t667, t668, (⟨t669, t670, t671, t672, t673, t674, t675, t676, t677, t678⟩ : S24)⟩ : S64) ) (fun _ hk => hk); have hx12_0 := hcc12 0 _ rfl; (try simp only [show (k64).sz = 12 from rfl, Nat.mul_one, Nat.add_zero] at hx12_0); have hf12_0 := hfr12 0; (try simp only [show (k64).sz = 12 from rfl, Nat.mul_one, Nat.add_zero] at hf12_0); have hx12_1 := hcc12 1 _ rfl; (try simp only [show (k64).sz = 12 from rfl, Nat.mul_one, Nat.add_zero] at hx12_1); have hf12_1 := hfr12 1; (try simp only [show (k64).sz = 12 from rfl, Nat.mul_one, Nat.add_zero] at hf12_1); have hx12_2 := hcc12 2 _ rfl; (try simp only [show (k64).sz = 12 from rfl, Nat.mul_one, Nat.add_zero] at hx12_2); have hf12_2 := hfr12 2; (try simp only [show (k64).sz = 12 from rfl, Nat.mul_one, Nat.add_zero] at hf12_2); have hx12_3 := hcc12 3 _ rfl; (try simp only [show (k64).sz = 12 from rfl, Nat.mul_one, Nat.add_zero] at hx12_3); have hf12_3 := hfr12 3; (try simp only [show (k64).sz = 12 from rfl, Nat.mul_one, Nat.add_zero] at hf12_3); have hx12_4 := hcc12 4 _ rfl; (try simp only [show (k64).sz = 12 from rfl, Nat.mul_one, Nat.add_zero] at hx12_4); have hf12_4 := hfr12 4; (try simp only [show (k64).sz = 12 from rfl, Nat.mul_one, Nat.add_zero] at hf12_4); have hx12_5 := hcc12 5 _ rfl; (try simp only [show (k64).sz = 12 from rfl, Nat.mul_one, Nat.add_zero] at hx12_5); have hf12_5 := hfr12 5; (try simp only [show (k64).sz = 12 from rfl, Nat.mul_one, Nat.add_zero] at hf12_5); have hx12_6 := hcc12 6 _ rfl; (try simp only [show (k64).sz = 12 from rfl, Nat.mul_one, Nat.add_zero] at hx12_6); have hf12_6 := hfr12 6; (try simp only [show (k64).sz = 12 from rfl, Nat.mul_one, Nat.add_zero] at hf12_6); have hx12_7 := hcc12 7 _ rfl; (try simp only [show (k64).sz = 12 from rfl, Nat.mul_one, Nat.add_zero] at hx12_7); have hf12_7 := hfr12 7; (try simp only [show (k64).sz = 12 from rfl, Nat.mul_one, Nat.add_zero] at hf12_7); have hx12_8 := hcc12 8 _ rfl; (try simp only [show (k64).sz = 12 from rfl, Nat.mul_one, Nat.add_zero] at hx12_8); have hf12_8 := hfr12 8; (try simp only [show (k64).sz = 12 from rfl, Nat.mul_one, Nat.add_zero] at hf12_8); have hx12_9 := hcc12 9 _ rfl; (try simp only [show (k64).sz = 12 from rfl, Nat.mul_one, Nat.add_zero] at hx12_9); have hf12_9 := hfr12 9; (try simp only [show (k64).sz = 12 from rfl, Nat.mul_one, Nat.add_zero] at hf12_9); have hx12_10 := hcc12 10 _ rfl; (try simp only [show (k64).sz = 12 from rfl, Nat.mul_one, Nat.add_zero] at hx12_10); have hf12_10 := hfr12 10; (try simp only [show (k64).sz = 12 from rfl, Nat.mul_one, Nat.add_zero] at hf12_10); have hx12_11 := hcc12 11 _ rfl; (try simp only [show (k64).sz = 12 from rfl, Nat.mul_one, Nat.add_zero] at hx12_11); have hf12_11 := hfr12 11; (try simp only [show (k64).sz = 12 from rfl, Nat.mul_one, Nat.add_zero] at hf12_11); clear hcl12 hcc12 hfr12 hM12) | ((with_reducible refine gate_store (t := 64) (p := 21) rfl ?_); refine store_event (t := 64) (p := 21) (v := ?vo_w13) (w1 := ((((((((((((w11.setCell ⟨go10, (x4_1 : Int).toNat * 12, none⟩ (.int .i64 t667)).setCell ⟨go10, (x4_1 : Int).toNat * 12 + 1, none⟩ (.int .i64 t668)).setCell ⟨go10, (x4_1 : Int).toNat * 12 + 2, none⟩ (.int .i64 t669)).setCell ⟨go10, (x4_1 : Int).toNat * 12 + 3, none⟩ (.int .i64 t670)).setCell ⟨go10, (x4_1 : Int).toNat * 12 + 4, none⟩ (.int .i64 t671)).setCell ⟨go10, (x4_1 : Int).toNat * 12 + 5, none⟩ (.int .i64 t672)).setCell ⟨go10, (x4_1 : Int).toNat * 12 + 6, none⟩ (.int .i64 t673)).setCell ⟨go10, (x4_1 : Int).toNat * 12 + 7, none⟩ (.int .i64 t674)).setCell ⟨go10, (x4_1 : Int).toNat * 12 + 8, none⟩ (.int .i64 t675)).setCell ⟨go10, (x4_1 : Int).toNat * 12 + 9, none⟩ (.int .i64 t676)).setCell ⟨go10, (x4_1 : Int).toNat * 12 + 10, none⟩ (.int .i64 t677)).setCell ⟨go10, (x4_1 : Int).toNat * 12 + 11, none⟩ (.int .i64 t678))) ?hg ?ho ?hn ?hr ?_; (case ho => rfl); (case hg => rfl); (case hn => rfl); (case hr => first | (go_simp; done) | (go_simp; rfl)); intro w13 hw; have hg : w11.grownBy w13 (some go10) := (by rw [hw]; exact HP12.2); have hp_ : Kd.R k64 64 w13 w.heap.size (fun _ => True) (.slice (some ⟨go10, 0, none⟩) x3_1.length co10) y679 := (by rw [hw, Ny679.out]; exact HP12.1); clear HP12; have n0_ := Aside0.mk (hp_); have n1_ := Aside0.mk ((by rw [hw]; exact below_set (below_set (below_set (below_set (below_set (below_set (below_set (below_set (below_set (below_set (below_set (below_set (HB.out) GB10.out) GB10.out) GB10.out) GB10.out) GB10.out) GB10.out) GB10.out) GB10.out) GB10.out) GB10.out) GB10.out) GB10.out : Below w.heap.size w w13)); clear HO_3; clear HB; have HO_3 := n0_; have HB := n1_; clear n0_ n1_; clear hg hw hp_))
        go_roundg k1
        case measure => have := HK1.out; omega
        case rel => exact ⟨(y679), (wrap64 (x4_1 + 1)), (by first | rfl | (simp; done) | (simp [*]; done)), H', ⟨by have := HK1.out; omega⟩, ⟨pR HO_3.out⟩, ⟨pB HB.out⟩⟩
       ·rw [if_neg c9] at H
        exact absurd H (by simp)
      ·rw [if_neg c7] at H
       exact absurd H (by simp)
     ·rw [if_neg c6] at H
      have c6b0 : decide (x4_1 < (l0.length : Int)) = false := decide_eq_false c6
      clear c6
      obtain rfl := Option.some.inj H
      go_wp2
      go_ret
      exact ⟨_, by first | rfl | (simp [errW_none, errW_some] <;> rfl) | (simp [*, errW_none, errW_some] <;> rfl), pR HO_3.out, pB HB.out⟩
  ·rw [if_neg c3] at H
   exact absurd H (by simp)
 ·rw [if_neg c2] at H
  exact absurd H (by simp)

/-! ### laws_toSynVoter: function 27 -/
def laws_toSynVoter.f (k : Nat) (a0_0 : Int) (l0_1 : List (S57)) : Option (Int × (List (S64))) := (laws_toSynPaperS.f k l0_1).bind fun t683 => (some (a0_0, t683))
theorem laws_toSynVoter.mono : ∀ a0 a1 k, LeO (laws_toSynVoter.f k a0 a1) (laws_toSynVoter.f (k + 1) a0 a1) := by
 intro a0 a1 k
 unfold laws_toSynVoter.f
 repeat' first
   | (with_reducible exact laws_toSynPaperS.mono _ _)
   | (with_reducible exact LeO.refl _)
   | (with_reducible exact LeO.none _)
   | (with_reducible refine LeO.ite ?_ ?_)
   | (with_reducible refine LeO.bind ?_ (fun _ => ?_))
   | exact laws_toSynPaperS.mono _ _
   | exact LeO.none _
   | refine LeO.ite ?_ ?_
   | refine LeO.bind ?_ (fun _ => ?_)
set_option maxHeartbeats 8000000 in
set_option maxRecDepth 100000 in
theorem laws_toSynVoter.calls (k : Nat) (a0_0 : Int) (A0_1 : Option Addr) (c0_1 : Nat) (l0_1 : List (S57)) (r1 : Int) (r2 : List (S64)) (w : World) (hr0_1 : Kd.C k57 w A0_1 l0_1.length l0_1) (hc0_1 : l0_1.length ≤ c0_1) (h : laws_toSynVoter.f k a0_0 l0_1 = some (r1, r2)) :
  Calls Try.prog 27 #[.agg #[.int .i64 a0_0, .slice A0_1 l0_1.length c0_1]] w fun e w' => ∃ v1_ : Value, e = .returned (.agg #[.int .i64 r1, v1_]) ∧ Kd.R k64 64 w' w.heap.size (fun _ => True) v1_ r2 ∧ Below w.heap.size w w' := by
 have hu47 := Try.underlying47
 have hu52 := Try.underlying52
 have HR0_1 := Aside0.mk hr0_1
 have HC0_1 := Aside0.mk hc0_1
 clear hr0_1 hc0_1
 have HB := Aside0.mk (Below.refl w.heap.size w)
 have H : ((laws_toSynPaperS.f k l0_1).bind fun t683 => (some (a0_0, t683))) = some (r1, r2) := h
 clear h
 replace H := Option.bind_eq_some_iff.mp H
 obtain ⟨t683, A20, H⟩ := H
 replace H : (some (a0_0, t683)) = some (r1, r2) := H
 have A2 := Aside0.mk A20
 clear A20
 simp only [Option.some.injEq, Prod.mk.injEq] at H
 obtain ⟨rfl, rfl⟩ := H
 go_enter Try.func27, Try.ntmps27
 go_wp2_with (first | ((with_reducible refine gate_dst (N := 1) rfl ?_); refine box_event ?hg (N := 1) ?hd (cs := #[.int .i64 a0_0, .slice A0_1 l0_1.length c0_1]) (t := 47) ?hr ?_; (case hd => rfl); (case hg => rfl); (case hr => first | (go_simp; done) | (go_simp; rfl)); intro gb680 hg w3 hbox hb; have n0_ := Aside0.mk (below_step (pB HB.out) hb); have n1_ := Aside0.mk (hbox); have n2_ := Aside0.mk ((by rw [hg]; exact (below_size (pB HB.out)) : w.heap.size ≤ gb680)); have n3_ := Aside0.mk ((by rw [hg]; exact (below_size (pB HB.out)) : w.heap.size ≤ gb680)); clear HB; have HB := n0_; have BK680 := n1_; have GW680 := n2_; have GE680 := n3_; clear n0_ n1_ n2_ n3_; clear hb hbox hg) | ((with_reducible refine gate_dst (N := 2) rfl ?_); refine box_event ?hg (N := 2) ?hd (cs := #[.int .i64 0, .slice none 0 0]) (t := 52) ?hr ?_; (case hd => rfl); (case hg => rfl); (case hr => first | (go_simp; done) | (go_simp; rfl)); intro gb681 hg w4 hbox hb; have n0_ := Aside0.mk (blk_below (pK BK680.out) hb); have n1_ := Aside0.mk (below_step (pS HB.out) hb); have n2_ := Aside0.mk (hbox); have n3_ := Aside0.mk ((by rw [hg]; exact (below_size (pS HB.out)) : w.heap.size ≤ gb681)); have n4_ := Aside0.mk ((by rw [hg]; exact (below_size (pS HB.out)) : w.heap.size ≤ gb681)); have n5_ := Aside0.mk ((by rw [hg]; exact Nat.ne_of_lt (blk_lt (pK BK680.out)) : gb680 ≠ gb681)); have n6_ := Aside0.mk ((by rw [hg]; exact Nat.ne_of_gt (blk_lt (pK BK680.out)) : gb681 ≠ gb680)); clear BK680; clear HB; have BK680 := n0_; have HB := n1_; have BK681 := n2_; have GW681 := n3_; have GE681 := n4_; have NB680_681 := n5_; have NB681_680 := n6_; clear n0_ n1_ n2_ n3_ n4_ n5_ n6_; clear hb hbox hg) | ((with_reducible refine gate_dst (N := 3) rfl ?_); refine box_event ?hg (N := 3) ?hd (cs := #[.int .i64 0, .slice none 0 0]) (t := 52) ?hr ?_; (case hd => rfl); (case hg => rfl); (case hr => first | (go_simp; done) | (go_simp; rfl)); intro gb682 hg w5 hbox hb; have n0_ := Aside0.mk (blk_below (pK BK680.out) hb); have n1_ := Aside0.mk (blk_below (pK BK681.out) hb); have n2_ := Aside0.mk (below_step (pS HB.out) hb); have n3_ := Aside0.mk (hbox); have n4_ := Aside0.mk ((by rw [hg]; exact (below_size (pS HB.out)) : w.heap.size ≤ gb682)); have n5_ := Aside0.mk ((by rw [hg]; exact (below_size (pS HB.out)) : w.heap.size ≤ gb682)); have n6_ := Aside0.mk ((by rw [hg]; exact Nat.ne_of_lt (blk_lt (pK BK680.out)) : gb680 ≠ gb682)); have n7_ := Aside0.mk ((by rw [hg]; exact Nat.ne_of_gt (blk_lt (pK BK680.out)) : gb682 ≠ gb680)); have n8_ := Aside0.mk ((by rw [hg]; exact Nat.ne_of_lt (blk_lt (pK BK681.out)) : gb681 ≠ gb682)); have n9_ := Aside0.mk ((by rw [hg]; exact Nat.ne_of_gt (blk_lt (pK BK681.out)) : gb682 ≠ gb681)); clear BK680; clear BK681; clear HB; have BK680 := n0_; have BK681 := n1_; have HB := n2_; have BK682 := n3_; have GW682 := n4_; have GE682 := n5_; have NB680_682 := n6_; have NB682_680 := n7_; have NB681_682 := n8_; have NB682_681 := n9_; clear n0_ n1_ n2_ n3_ n4_ n5_ n6_ n7_ n8_ n9_; clear hb hbox hg; have hnb6 := NB680_681.out; have hnc6 := NB681_680.out; have hnb7 := NB680_682.out; have hnc7 := NB682_680.out; have hcz8_0 : w5.cell? ⟨gb680, 0, none⟩ = some (.int .i64 a0_0) := (blk_cell BK680.out 0).trans rfl; have hcz8_1 : w5.cell? ⟨gb680, 1, none⟩ = some (.slice A0_1 l0_1.length c0_1) := (blk_cell BK680.out 1).trans rfl; have hfz8_0 := blk_frozen BK680.out 0; have hfz8_1 := blk_frozen BK680.out 1; have hnb9 := NB682_681.out; have hnc9 := NB681_682.out; have hcz10_0 : w5.cell? ⟨gb682, 0, none⟩ = some (.int .i64 0) := (blk_cell BK682.out 0).trans rfl; have hcz10_1 : w5.cell? ⟨gb682, 1, none⟩ = some (.slice none 0 0) := (blk_cell BK682.out 1).trans rfl; have hfz10_0 := blk_frozen BK682.out 0; have hfz10_1 := blk_frozen BK682.out 1) | ((with_reducible refine gate_callee (f := 87) rfl ?_); refine goesL_ (some 9) rfl rfl Try.func87 (by kernel_rfl) rfl #[.slice A0_1 l0_1.length c0_1] rfl bM ?_; (with_reducible refine (laws_toSynPaperS.calls k _ _ l0_1 t683 _ ?side1 ?side2 A2.out).mono ?_); (case side1 => exact Kd.C_below HR0_1.out (pS HB.out)); (case side2 => exact HC0_1.out); rintro e w11 ⟨v684, rfl, ho0, hb⟩; refine ⟨_, rfl, ?_⟩; have n0_ := Aside0.mk (Kd.R_lower ho0 (below_size (pS HB.out))); have n1_ := Aside0.mk (blk_below (g := gb680) (o := .cells #[.int .i64 a0_0, .slice A0_1 l0_1.length c0_1] 47 (0, 0)) (by (with_reducible repeat (first | refine blk_drewN ?_ _ | refine blk_drew ?_ | refine blk_alloc ?_ _)); refine blk_far ?_ NB680_682.out _; (with_reducible repeat (first | refine blk_drewN ?_ _ | refine blk_drew ?_ | refine blk_alloc ?_ _)); exact BK680.out) hb); have n2_ := Aside0.mk (blk_below (g := gb681) (o := .cells #[.int .i64 0, .slice none 0 0] 52 (0, 0)) (by (with_reducible repeat (first | refine blk_drewN ?_ _ | refine blk_drew ?_ | refine blk_alloc ?_ _)); refine blk_far ?_ NB681_682.out _; (with_reducible repeat (first | refine blk_drewN ?_ _ | refine blk_drew ?_ | refine blk_alloc ?_ _)); exact BK681.out) hb); have n3_ := Aside0.mk (blk_below (g := gb682) (o := .cells #[.int .i64 a0_0, .slice none 0 0] 52 (0, 0)) (by (with_reducible repeat (first | refine blk_drewN ?_ _ | refine blk_drew ?_ | refine blk_alloc ?_ _)); refine blk_put (cs := #[.int .i64 0, .slice none 0 0]) ?_ 0 _ rfl; (with_reducible repeat (first | refine blk_drewN ?_ _ | refine blk_drew ?_ | refine blk_alloc ?_ _)); exact BK682.out) hb); have n4_ := Aside0.mk (below_step (pS HB.out) hb); clear BK680; clear BK681; clear BK682; clear HB; have HO685 := n0_; have BK680 := n1_; have BK681 := n2_; have BK682 := n3_; have HB := n4_; clear n0_ n1_ n2_ n3_ n4_; (try clear hb); (try clear hb2); (try clear hk); (try clear hi); (try clear ho0); obtain ⟨Ao12, co12, eo12⟩ := Kd.R_slice HO685.out; subst eo12; have hcz13_0 : w11.cell? ⟨gb682, 0, none⟩ = some (.int .i64 a0_0) := (blk_cell BK682.out 0).trans rfl; have hcz13_1 : w11.cell? ⟨gb682, 1, none⟩ = some (.slice none 0 0) := (blk_cell BK682.out 1).trans rfl; have hfz13_0 := blk_frozen BK682.out 0; have hfz13_1 := blk_frozen BK682.out 1; have hcz14_0 : w11.cell? ⟨gb681, 0, none⟩ = some (.int .i64 0) := (blk_cell BK681.out 0).trans rfl; have hcz14_1 : w11.cell? ⟨gb681, 1, none⟩ = some (.slice none 0 0) := (blk_cell BK681.out 1).trans rfl; have hfz14_0 := blk_frozen BK681.out 0; have hfz14_1 := blk_frozen BK681.out 1))
 refine bodyPost_ret (results_cell_row rfl _ _ gb681 52 #[.int .i64 a0_0, .slice Ao12 t683.length co12] (0, 0) _ rfl (by (with_reducible repeat (first | refine blk_drewN ?_ _ | refine blk_drew ?_ | refine blk_alloc ?_ _)); refine blk_put (cs := #[.int .i64 a0_0, .slice none 0 0]) ?_ 1 _ rfl; (with_reducible repeat (first | refine blk_drewN ?_ _ | refine blk_drew ?_ | refine blk_alloc ?_ _)); refine blk_put (cs := #[.int .i64 0, .slice none 0 0]) ?_ 0 _ rfl; (with_reducible repeat (first | refine blk_drewN ?_ _ | refine blk_drew ?_ | refine blk_alloc ?_ _)); refine blk_far ?_ NB681_682.out _; (with_reducible repeat (first | refine blk_drewN ?_ _ | refine blk_drew ?_ | refine blk_alloc ?_ _)); exact BK681.out) Try.underlying52 rfl (by kernel_rfl)) rfl ?_
 exact ⟨_, by first | rfl | (simp [errW_none, errW_some] <;> rfl) | (simp [*, errW_none, errW_some] <;> rfl), pR (Kd.R_mono (Kd.R_far (p := ⟨gb681, 1, none⟩) (Kd.R_far (p := ⟨gb681, 0, none⟩) (Kd.R_far (p := ⟨gb682, 1, none⟩) (Kd.R_types (Kd.R_types HO685.out BK682.out (by decide)) BK681.out (by decide)) (fun _ hk => hk.1.2) (.slice Ao12 t683.length co12)) (fun _ hk => hk.2) (.int .i64 a0_0)) (fun _ hk => hk.2) (.slice Ao12 t683.length co12)) (fun _ hk => trivial)), pS HB.out⟩

/-! ### laws_eqSynPaperS: function 89 -/
def laws_eqSynPaperS.l0 : Nat → List (S64) → List (S64) → Int → Option (Bool)
 | 0, _, _, _ => none
 | k + 1, x0, x1, x5 => if x5 < (x0.length : Int) then (if 0 ≤ x5 then (if x5 < (x1.length : Int) then ((laws_eqSynPaper.f ((rd_T64 x0 x5).f0) ((rd_T64 x0 x5).f1) ((rd_T64 x0 x5).f2.f0) ((rd_T64 x0 x5).f2.f1) ((rd_T64 x0 x5).f2.f2) ((rd_T64 x0 x5).f2.f3) ((rd_T64 x0 x5).f2.f4) ((rd_T64 x0 x5).f2.f5) ((rd_T64 x0 x5).f2.f6) ((rd_T64 x0 x5).f2.f7) ((rd_T64 x0 x5).f2.f8) ((rd_T64 x0 x5).f2.f9) ((rd_T64 x1 x5).f0) ((rd_T64 x1 x5).f1) ((rd_T64 x1 x5).f2.f0) ((rd_T64 x1 x5).f2.f1) ((rd_T64 x1 x5).f2.f2) ((rd_T64 x1 x5).f2.f3) ((rd_T64 x1 x5).f2.f4) ((rd_T64 x1 x5).f2.f5) ((rd_T64 x1 x5).f2.f6) ((rd_T64 x1 x5).f2.f7) ((rd_T64 x1 x5).f2.f8) ((rd_T64 x1 x5).f2.f9)).bind fun t701 => (if t701 = true then (laws_eqSynPaperS.l0 k x0 x1 (wrap64 (x5 + 1))) else (some false))) else (none)) else (none)) else (some true)
def laws_eqSynPaperS.f (k : Nat) (l0 : List (S64)) (l1 : List (S64)) : Option (Bool) := if (l0.length : Int) = (l1.length : Int) then (laws_eqSynPaperS.l0 k l0 l1 0) else (some false)
theorem laws_eqSynPaperS.mono_l : ∀ k, (∀ y0 y1 y2, LeO (laws_eqSynPaperS.l0 k y0 y1 y2) (laws_eqSynPaperS.l0 (k + 1) y0 y1 y2))
 | 0 => fun _ _ _ r h => by simp [laws_eqSynPaperS.l0] at h
 | k + 1 => by
  have ih0 := laws_eqSynPaperS.mono_l k
  ·intro y0 y1 y2
   unfold laws_eqSynPaperS.l0
   repeat' first
   | (with_reducible exact ih0 _ _ _)
   | (with_reducible exact LeO.refl _)
   | (with_reducible exact LeO.none _)
   | (with_reducible refine LeO.ite ?_ ?_)
   | (with_reducible refine LeO.bind ?_ (fun _ => ?_))
   | exact ih0 _ _ _
   | exact LeO.none _
   | refine LeO.ite ?_ ?_
   | refine LeO.bind ?_ (fun _ => ?_)
theorem laws_eqSynPaperS.mono : ∀ a0 a1 k, LeO (laws_eqSynPaperS.f k a0 a1) (laws_eqSynPaperS.f (k + 1) a0 a1) := by
 intro a0 a1 k
 have ih0 := laws_eqSynPaperS.mono_l k
 unfold laws_eqSynPaperS.f
 repeat' first
   | (with_reducible exact ih0 _ _ _)
   | (with_reducible exact LeO.refl _)
   | (with_reducible exact LeO.none _)
   | (with_reducible refine LeO.ite ?_ ?_)
   | (with_reducible refine LeO.bind ?_ (fun _ => ?_))
   | exact ih0 _ _ _
   | exact LeO.none _
   | refine LeO.ite ?_ ?_
   | refine LeO.bind ?_ (fun _ => ?_)
def laws_eqSynPaperS.T6 : Bool × List (List Nat × List Nat) := (true, [([], []), ([], []), ([0, 1], [0, 1]), ([2], [2]), ([], []), ([], []), ([4, 5], [4, 5]), ([6], [6]), ([3, 7], [3, 7]), ([8], [8])])
def laws_eqSynPaperS.B6 : List Nat := [0, 0, 3, 7, 0, 0, 48, 112, 255, 511]
theorem laws_eqSynPaperS.tab6 : rtab .any (opsOf Try.f89 6) = laws_eqSynPaperS.T6 := by kernel_rfl
theorem laws_eqSynPaperS.bits6 : waitsOk laws_eqSynPaperS.T6.2 laws_eqSynPaperS.B6 = true := by kernel_rfl
set_option maxHeartbeats 8000000 in
set_option maxRecDepth 100000 in
theorem laws_eqSynPaperS.calls (k : Nat) (A0 : Option Addr) (c0 : Nat) (l0 : List (S64)) (A1 : Option Addr) (c1 : Nat) (l1 : List (S64)) (r : Bool) (w : World) (hr0 : Kd.C k64 w A0 l0.length l0) (hc0 : l0.length ≤ c0) (hr1 : Kd.C k64 w A1 l1.length l1) (hc1 : l1.length ≤ c1) (h : laws_eqSynPaperS.f k l0 l1 = some r) :
  Calls Try.prog 89 #[.slice A0 l0.length c0, .slice A1 l1.length c1] w fun e w' => e = .returned (.bool r) ∧ Below w.heap.size w w' := by
 have hu64 := Try.underlying64
 have HR0 := Aside0.mk hr0
 have HC0 := Aside0.mk hc0
 clear hr0 hc0
 have HR1 := Aside0.mk hr1
 have HC1 := Aside0.mk hc1
 clear hr1 hc1
 have HB := Aside0.mk (Below.refl w.heap.size w)
 have H : (if (l0.length : Int) = (l1.length : Int) then (laws_eqSynPaperS.l0 k l0 l1 0) else (some false)) = some r := h
 clear h
 by_cases c3 : (l0.length : Int) = (l1.length : Int)
 ·rw [if_pos c3] at H
  have c3b0 : ((l0.length : Int) == (l1.length : Int)) = true := beq_iff_eq.mpr c3
  have c3b1 : ((l0.length : Int) != (l1.length : Int)) = false := bne_eq_false_iff_eq.mpr c3
  have c3b2 : (l0.length == l1.length) = true := by first | simpa using c3 | (simp at c3 ⊢; omega)
  clear c3
  have H' := Aside0.mk H
  clear H
  go_enter Try.func89, Try.ntmps89
  go_wp2
  go_loopg [5] k (fun kq v5 w' => ∃ (x5_1 : Int), v5 = .int .i64 x5_1 ∧ Aside0 (laws_eqSynPaperS.l0 kq l0 l1 x5_1 = some r) ∧ Aside0 (kq ≤ k) ∧ Aside0 (Below w.heap.size w w'))
  case atStart => exact ⟨(0), (by first | rfl | (simp; done) | (simp [*]; done)), H', ⟨Nat.le_refl _⟩, ⟨pB HB.out⟩⟩
  case round =>
   clear H'
   try clear c1
   try clear p2
   try clear c3
   try clear c3b0
   try clear c3b1
   try clear c3b2
   obtain ⟨x5_1, rfl, HA, HK1, HB⟩ := hrel
   cases gk with
   | zero => exact absurd HA.out (by simp [laws_eqSynPaperS.l0])
   | succ k1 =>
    have H := HA.out
    clear HA
    simp only [laws_eqSynPaperS.l0] at H
    by_cases c4 : x5_1 < (l0.length : Int)
    ·rw [if_pos c4] at H
     have c4b0 : decide (x5_1 < (l0.length : Int)) = true := decide_eq_true c4
     clear c4
     by_cases c5 : 0 ≤ x5_1
     ·rw [if_pos c5] at H
      have c5b0 : decide (0 ≤ x5_1) = true := decide_eq_true c5
      clear c5
      by_cases c6 : x5_1 < (l1.length : Int)
      ·rw [if_pos c6] at H
       have c6b0 : decide (x5_1 < (l1.length : Int)) = true := decide_eq_true c6
       clear c6
       replace H := Option.bind_eq_some_iff.mp H
       obtain ⟨t701, A70, H⟩ := H
       replace H : (if t701 = true then (laws_eqSynPaperS.l0 k1 l0 l1 (wrap64 (x5_1 + 1))) else (some false)) = some r := H
       have A7 := Aside0.mk A70
       clear A70
       by_cases c8 : t701 = true
       ·subst c8
        have H1 : (laws_eqSynPaperS.l0 k1 l0 l1 (wrap64 (x5_1 + 1))) = some r := by rw [if_pos rfl] at H; exact H
        clear H
        have H := H1
        clear H1
        have H' := Aside0.mk H
        clear H
        try go_wp2
        have n0_ := Aside0.mk (below_drew1 HB.out)
        clear HB
        have HB := n0_
        clear n0_
        have p699 : 0 ≤ (x5_1 : Int) := of_decide_eq_true bA
        have q699 : x5_1 < (l0.length : Int) := of_decide_eq_true bA
        obtain ⟨ad699, e699, hx699_0, hx699_1, hx699_2, hx699_3, hx699_4, hx699_5, hx699_6, hx699_7, hx699_8, hx699_9, hx699_10, hx699_11⟩ := at_T64 HR0.out x5_1 p699 q699
        have hw699_11 := hx699_11
        have hw699_10 := hx699_10
        have hw699_9 := hx699_9
        have hw699_8 := hx699_8
        have hw699_7 := hx699_7
        have hw699_6 := hx699_6
        have hw699_5 := hx699_5
        have hw699_4 := hx699_4
        have hw699_3 := hx699_3
        have hw699_2 := hx699_2
        have hw699_1 := hx699_1
        have hw699_0 := hx699_0
        cases e699
        replace hx699_0 := (HB.out.cell (World.block_lt_of_cell? w _ hx699_0)).trans hx699_0
        replace hx699_1 := (HB.out.cell (World.block_lt_of_cell? w _ hx699_1)).trans hx699_1
        replace hx699_2 := (HB.out.cell (World.block_lt_of_cell? w _ hx699_2)).trans hx699_2
        replace hx699_3 := (HB.out.cell (World.block_lt_of_cell? w _ hx699_3)).trans hx699_3
        replace hx699_4 := (HB.out.cell (World.block_lt_of_cell? w _ hx699_4)).trans hx699_4
        replace hx699_5 := (HB.out.cell (World.block_lt_of_cell? w _ hx699_5)).trans hx699_5
        replace hx699_6 := (HB.out.cell (World.block_lt_of_cell? w _ hx699_6)).trans hx699_6
        replace hx699_7 := (HB.out.cell (World.block_lt_of_cell? w _ hx699_7)).trans hx699_7
        replace hx699_8 := (HB.out.cell (World.block_lt_of_cell? w _ hx699_8)).trans hx699_8
        replace hx699_9 := (HB.out.cell (World.block_lt_of_cell? w _ hx699_9)).trans hx699_9
        replace hx699_10 := (HB.out.cell (World.block_lt_of_cell? w _ hx699_10)).trans hx699_10
        replace hx699_11 := (HB.out.cell (World.block_lt_of_cell? w _ hx699_11)).trans hx699_11
        replace p699 := eq_true p699
        replace q699 := eq_true q699
        have p700 : 0 ≤ (x5_1 : Int) := of_decide_eq_true bA
        have q700 : x5_1 < (l1.length : Int) := of_decide_eq_true bA
        obtain ⟨ad700, e700, hx700_0, hx700_1, hx700_2, hx700_3, hx700_4, hx700_5, hx700_6, hx700_7, hx700_8, hx700_9, hx700_10, hx700_11⟩ := at_T64 HR1.out x5_1 p700 q700
        have hw700_11 := hx700_11
        have hw700_10 := hx700_10
        have hw700_9 := hx700_9
        have hw700_8 := hx700_8
        have hw700_7 := hx700_7
        have hw700_6 := hx700_6
        have hw700_5 := hx700_5
        have hw700_4 := hx700_4
        have hw700_3 := hx700_3
        have hw700_2 := hx700_2
        have hw700_1 := hx700_1
        have hw700_0 := hx700_0
        cases e700
        replace hx700_0 := (HB.out.cell (World.block_lt_of_cell? w _ hx700_0)).trans hx700_0
        replace hx700_1 := (HB.out.cell (World.block_lt_of_cell? w _ hx700_1)).trans hx700_1
        replace hx700_2 := (HB.out.cell (World.block_lt_of_cell? w _ hx700_2)).trans hx700_2
        replace hx700_3 := (HB.out.cell (World.block_lt_of_cell? w _ hx700_3)).trans hx700_3
        replace hx700_4 := (HB.out.cell (World.block_lt_of_cell? w _ hx700_4)).trans hx700_4
        replace hx700_5 := (HB.out.cell (World.block_lt_of_cell? w _ hx700_5)).trans hx700_5
        replace hx700_6 := (HB.out.cell (World.block_lt_of_cell? w _ hx700_6)).trans hx700_6
        replace hx700_7 := (HB.out.cell (World.block_lt_of_cell? w _ hx700_7)).trans hx700_7
        replace hx700_8 := (HB.out.cell (World.block_lt_of_cell? w _ hx700_8)).trans hx700_8
        replace hx700_9 := (HB.out.cell (World.block_lt_of_cell? w _ hx700_9)).trans hx700_9
        replace hx700_10 := (HB.out.cell (World.block_lt_of_cell? w _ hx700_10)).trans hx700_10
        replace hx700_11 := (HB.out.cell (World.block_lt_of_cell? w _ hx700_11)).trans hx700_11
        replace p700 := eq_true p700
        replace q700 := eq_true q700
        refine start_ (n := 10) (S := fun w' => w'.cell? (ad699.add ((x5_1).toNat * 12)) = some (.int .i64 ((rd_T64 l0 x5_1).f0)) ∧ w'.cell? ⟨(ad699.add ((x5_1).toNat * 12)).block, (ad699.add ((x5_1).toNat * 12)).off + 1, none⟩ = some (.int .i64 ((rd_T64 l0 x5_1).f1)) ∧ w'.cell? ⟨(ad699.add ((x5_1).toNat * 12)).block, (ad699.add ((x5_1).toNat * 12)).off + 2, none⟩ = some (.int .i64 ((rd_T64 l0 x5_1).f2.f0)) ∧ w'.cell? ⟨(ad699.add ((x5_1).toNat * 12)).block, (ad699.add ((x5_1).toNat * 12)).off + 3, none⟩ = some (.int .i64 ((rd_T64 l0 x5_1).f2.f1)) ∧ w'.cell? ⟨(ad699.add ((x5_1).toNat * 12)).block, (ad699.add ((x5_1).toNat * 12)).off + 4, none⟩ = some (.int .i64 ((rd_T64 l0 x5_1).f2.f2)) ∧ w'.cell? ⟨(ad699.add ((x5_1).toNat * 12)).block, (ad699.add ((x5_1).toNat * 12)).off + 5, none⟩ = some (.int .i64 ((rd_T64 l0 x5_1).f2.f3)) ∧ w'.cell? ⟨(ad699.add ((x5_1).toNat * 12)).block, (ad699.add ((x5_1).toNat * 12)).off + 6, none⟩ = some (.int .i64 ((rd_T64 l0 x5_1).f2.f4)) ∧ w'.cell? ⟨(ad699.add ((x5_1).toNat * 12)).block, (ad699.add ((x5_1).toNat * 12)).off + 7, none⟩ = some (.int .i64 ((rd_T64 l0 x5_1).f2.f5)) ∧ w'.cell? ⟨(ad699.add ((x5_1).toNat * 12)).block, (ad699.add ((x5_1).toNat * 12)).off + 8, none⟩ = some (.int .i64 ((rd_T64 l0 x5_1).f2.f6)) ∧ w'.cell? ⟨(ad699.add ((x5_1).toNat * 12)).block, (ad699.add ((x5_1).toNat * 12)).off + 9, none⟩ = some (.int .i64 ((rd_T64 l0 x5_1).f2.f7)) ∧ w'.cell? ⟨(ad699.add ((x5_1).toNat * 12)).block, (ad699.add ((x5_1).toNat * 12)).off + 10, none⟩ = some (.int .i64 ((rd_T64 l0 x5_1).f2.f8)) ∧ w'.cell? ⟨(ad699.add ((x5_1).toNat * 12)).block, (ad699.add ((x5_1).toNat * 12)).off + 11, none⟩ = some (.int .i64 ((rd_T64 l0 x5_1).f2.f9)) ∧ w'.cell? (ad700.add ((x5_1).toNat * 12)) = some (.int .i64 ((rd_T64 l1 x5_1).f0)) ∧ w'.cell? ⟨(ad700.add ((x5_1).toNat * 12)).block, (ad700.add ((x5_1).toNat * 12)).off + 1, none⟩ = some (.int .i64 ((rd_T64 l1 x5_1).f1)) ∧ w'.cell? ⟨(ad700.add ((x5_1).toNat * 12)).block, (ad700.add ((x5_1).toNat * 12)).off + 2, none⟩ = some (.int .i64 ((rd_T64 l1 x5_1).f2.f0)) ∧ w'.cell? ⟨(ad700.add ((x5_1).toNat * 12)).block, (ad700.add ((x5_1).toNat * 12)).off + 3, none⟩ = some (.int .i64 ((rd_T64 l1 x5_1).f2.f1)) ∧ w'.cell? ⟨(ad700.add ((x5_1).toNat * 12)).block, (ad700.add ((x5_1).toNat * 12)).off + 4, none⟩ = some (.int .i64 ((rd_T64 l1 x5_1).f2.f2)) ∧ w'.cell? ⟨(ad700.add ((x5_1).toNat * 12)).block, (ad700.add ((x5_1).toNat * 12)).off + 5, none⟩ = some (.int .i64 ((rd_T64 l1 x5_1).f2.f3)) ∧ w'.cell? ⟨(ad700.add ((x5_1).toNat * 12)).block, (ad700.add ((x5_1).toNat * 12)).off + 6, none⟩ = some (.int .i64 ((rd_T64 l1 x5_1).f2.f4)) ∧ w'.cell? ⟨(ad700.add ((x5_1).toNat * 12)).block, (ad700.add ((x5_1).toNat * 12)).off + 7, none⟩ = some (.int .i64 ((rd_T64 l1 x5_1).f2.f5)) ∧ w'.cell? ⟨(ad700.add ((x5_1).toNat * 12)).block, (ad700.add ((x5_1).toNat * 12)).off + 8, none⟩ = some (.int .i64 ((rd_T64 l1 x5_1).f2.f6)) ∧ w'.cell? ⟨(ad700.add ((x5_1).toNat * 12)).block, (ad700.add ((x5_1).toNat * 12)).off + 9, none⟩ = some (.int .i64 ((rd_T64 l1 x5_1).f2.f7)) ∧ w'.cell? ⟨(ad700.add ((x5_1).toNat * 12)).block, (ad700.add ((x5_1).toNat * 12)).off + 10, none⟩ = some (.int .i64 ((rd_T64 l1 x5_1).f2.f8)) ∧ w'.cell? ⟨(ad700.add ((x5_1).toNat * 12)).block, (ad700.add ((x5_1).toNat * 12)).off + 11, none⟩ = some (.int .i64 ((rd_T64 l1 x5_1).f2.f9))) (ds := []) #[false, false, false, false, false, false, false, false, false, false] (by kernel_rfl) rfl rfl ⟨((HB.out.cell (World.block_lt_of_cell? w _ hw699_0)).trans hw699_0), ((HB.out.cell (World.block_lt_of_cell? w _ hw699_1)).trans hw699_1), ((HB.out.cell (World.block_lt_of_cell? w _ hw699_2)).trans hw699_2), ((HB.out.cell (World.block_lt_of_cell? w _ hw699_3)).trans hw699_3), ((HB.out.cell (World.block_lt_of_cell? w _ hw699_4)).trans hw699_4), ((HB.out.cell (World.block_lt_of_cell? w _ hw699_5)).trans hw699_5), ((HB.out.cell (World.block_lt_of_cell? w _ hw699_6)).trans hw699_6), ((HB.out.cell (World.block_lt_of_cell? w _ hw699_7)).trans hw699_7), ((HB.out.cell (World.block_lt_of_cell? w _ hw699_8)).trans hw699_8), ((HB.out.cell (World.block_lt_of_cell? w _ hw699_9)).trans hw699_9), ((HB.out.cell (World.block_lt_of_cell? w _ hw699_10)).trans hw699_10), ((HB.out.cell (World.block_lt_of_cell? w _ hw699_11)).trans hw699_11), ((HB.out.cell (World.block_lt_of_cell? w _ hw700_0)).trans hw700_0), ((HB.out.cell (World.block_lt_of_cell? w _ hw700_1)).trans hw700_1), ((HB.out.cell (World.block_lt_of_cell? w _ hw700_2)).trans hw700_2), ((HB.out.cell (World.block_lt_of_cell? w _ hw700_3)).trans hw700_3), ((HB.out.cell (World.block_lt_of_cell? w _ hw700_4)).trans hw700_4), ((HB.out.cell (World.block_lt_of_cell? w _ hw700_5)).trans hw700_5), ((HB.out.cell (World.block_lt_of_cell? w _ hw700_6)).trans hw700_6), ((HB.out.cell (World.block_lt_of_cell? w _ hw700_7)).trans hw700_7), ((HB.out.cell (World.block_lt_of_cell? w _ hw700_8)).trans hw700_8), ((HB.out.cell (World.block_lt_of_cell? w _ hw700_9)).trans hw700_9), ((HB.out.cell (World.block_lt_of_cell? w _ hw700_10)).trans hw700_10), ((HB.out.cell (World.block_lt_of_cell? w _ hw700_11)).trans hw700_11)⟩ (fun hHeld => ?_); refine with_tabW laws_eqSynPaperS.tab6 laws_eqSynPaperS.bits6 (fun HT_ HW_ => ?_)
        generalize wr.drew = w9 at HB hx699_0 hx699_1 hx699_10 hx699_11 hx699_2 hx699_3 hx699_4 hx699_5 hx699_6 hx699_7 hx699_8 hx699_9 hx700_0 hx700_1 hx700_10 hx700_11 hx700_2 hx700_3 hx700_4 hx700_5 hx700_6 hx700_7 hx700_8 hx700_9 hHeld ⊢
        refine pure_ (i := 0) (N := some 17) (v := ?_) (a' := ?_) #[true, false, false, false, false, false, false, false, false, false] rfl rfl (any_of HT_.out (by kernel_rfl)) (fun _ _ _ h => h) (Or.inl ⟨by rfl, ?_⟩) ?_ ?_
        rotate_left
        ·intro w'
         go_simp
         with_reducible rfl
        rotate_left
        ·simp only [Act.put, List.setIfInBounds_toArray, List.set_cons_zero, List.set_cons_succ, i64_w, i32_w]
         rfl
        refine pure_ (i := 1) (N := some 18) (v := ?_) (a' := ?_) #[true, true, false, false, false, false, false, false, false, false] rfl rfl (any_of HT_.out (by kernel_rfl)) (fun _ _ _ h => h) (Or.inl ⟨by rfl, ?_⟩) ?_ ?_
        rotate_left
        ·intro w'
         go_simp
         with_reducible rfl
        rotate_left
        ·simp only [Act.put, List.setIfInBounds_toArray, List.set_cons_zero, List.set_cons_succ, i64_w, i32_w]
         rfl
        refine pure_ (i := 2) (N := some 19) (v := ?_) (a' := ?_) #[true, true, true, false, false, false, false, false, false, false] rfl rfl (any_of HT_.out (by kernel_rfl)) (fun _ _ _ h => h) (Or.inl ⟨by rfl, ?_⟩) ?_ ?_
        rotate_left
        ·intro w'
         go_simp
         with_reducible rfl
        rotate_left
        ·simp only [Act.put, List.setIfInBounds_toArray, List.set_cons_zero, List.set_cons_succ, i64_w, i32_w]
         rfl
        refine pure_ (i := 4) (N := some 21) (v := ?_) (a' := ?_) #[true, true, true, false, true, false, false, false, false, false] rfl rfl (any_of HT_.out (by kernel_rfl)) (fun _ _ _ h => h) (Or.inl ⟨by rfl, ?_⟩) ?_ ?_
        rotate_left
        ·intro w'
         go_simp
         with_reducible rfl
        rotate_left
        ·simp only [Act.put, List.setIfInBounds_toArray, List.set_cons_zero, List.set_cons_succ, i64_w, i32_w]
         rfl
        refine pure_ (i := 5) (N := some 22) (v := ?_) (a' := ?_) #[true, true, true, false, true, true, false, false, false, false] rfl rfl (any_of HT_.out (by kernel_rfl)) (fun _ _ _ h => h) (Or.inl ⟨by rfl, ?_⟩) ?_ ?_
        rotate_left
        ·intro w'
         go_simp
         with_reducible rfl
        rotate_left
        ·simp only [Act.put, List.setIfInBounds_toArray, List.set_cons_zero, List.set_cons_succ, i64_w, i32_w]
         rfl
        refine pure_ (i := 6) (N := some 23) (v := ?_) (a' := ?_) #[true, true, true, false, true, true, true, false, false, false] rfl rfl (any_of HT_.out (by kernel_rfl)) (fun _ _ _ h => h) (Or.inl ⟨by rfl, ?_⟩) ?_ ?_
        rotate_left
        ·intro w'
         go_simp
         with_reducible rfl
        rotate_left
        ·simp only [Act.put, List.setIfInBounds_toArray, List.set_cons_zero, List.set_cons_succ, i64_w, i32_w]
         rfl
        refine take_ (i := 3) (N := some 20) (v := ?_) (a' := ?_) #[true, true, true, true, true, true, true, false, false, false] rfl rfl (take_ofW HT_.out HW_.out (by kernel_rfl)) (fun _ _ _ h => h) (Or.inl ⟨by rfl, ?_⟩) hHeld ?_ ?_
        rotate_left
        ·rintro w' ⟨s0, s1, s2, s3, s4, s5, s6, s7, s8, s9, s10, s11, s12, s13, s14, s15, s16, s17, s18, s19, s20, s21, s22, s23⟩
         go_simp
         with_reducible rfl
        rotate_left
        ·simp only [Act.put, List.setIfInBounds_toArray, List.set_cons_zero, List.set_cons_succ, i64_w, i32_w]
         rfl
        refine take_ (i := 7) (N := some 24) (v := ?_) (a' := ?_) #[true, true, true, true, true, true, true, true, false, false] rfl rfl (take_ofW HT_.out HW_.out (by kernel_rfl)) (fun _ _ _ h => h) (Or.inl ⟨by rfl, ?_⟩) hHeld ?_ ?_
        rotate_left
        ·rintro w' ⟨s0, s1, s2, s3, s4, s5, s6, s7, s8, s9, s10, s11, s12, s13, s14, s15, s16, s17, s18, s19, s20, s21, s22, s23⟩
         go_simp
         with_reducible rfl
        rotate_left
        ·simp only [Act.put, List.setIfInBounds_toArray, List.set_cons_zero, List.set_cons_succ, i64_w, i32_w]
         rfl
        refine one_ (i := 8) (N := some 25) #[true, true, true, true, true, true, true, true, true, false] rfl rfl (one_of HT_.out (by kernel_rfl)) (by decide) (fun K hK => ?_)
        refine goes_ Try.func95 (by kernel_rfl) rfl #[.agg #[.int .i64 ((rd_T64 l0 x5_1).f0), .int .i64 ((rd_T64 l0 x5_1).f1), .int .i64 ((rd_T64 l0 x5_1).f2.f0), .int .i64 ((rd_T64 l0 x5_1).f2.f1), .int .i64 ((rd_T64 l0 x5_1).f2.f2), .int .i64 ((rd_T64 l0 x5_1).f2.f3), .int .i64 ((rd_T64 l0 x5_1).f2.f4), .int .i64 ((rd_T64 l0 x5_1).f2.f5), .int .i64 ((rd_T64 l0 x5_1).f2.f6), .int .i64 ((rd_T64 l0 x5_1).f2.f7), .int .i64 ((rd_T64 l0 x5_1).f2.f8), .int .i64 ((rd_T64 l0 x5_1).f2.f9)], .agg #[.int .i64 ((rd_T64 l1 x5_1).f0), .int .i64 ((rd_T64 l1 x5_1).f1), .int .i64 ((rd_T64 l1 x5_1).f2.f0), .int .i64 ((rd_T64 l1 x5_1).f2.f1), .int .i64 ((rd_T64 l1 x5_1).f2.f2), .int .i64 ((rd_T64 l1 x5_1).f2.f3), .int .i64 ((rd_T64 l1 x5_1).f2.f4), .int .i64 ((rd_T64 l1 x5_1).f2.f5), .int .i64 ((rd_T64 l1 x5_1).f2.f6), .int .i64 ((rd_T64 l1 x5_1).f2.f7), .int .i64 ((rd_T64 l1 x5_1).f2.f8), .int .i64 ((rd_T64 l1 x5_1).f2.f9)]] (by rfl) rfl rfl bM ?_
        with_reducible refine (laws_eqSynPaper.calls ((rd_T64 l0 x5_1).f0) ((rd_T64 l0 x5_1).f1) ((rd_T64 l0 x5_1).f2.f0) ((rd_T64 l0 x5_1).f2.f1) ((rd_T64 l0 x5_1).f2.f2) ((rd_T64 l0 x5_1).f2.f3) ((rd_T64 l0 x5_1).f2.f4) ((rd_T64 l0 x5_1).f2.f5) ((rd_T64 l0 x5_1).f2.f6) ((rd_T64 l0 x5_1).f2.f7) ((rd_T64 l0 x5_1).f2.f8) ((rd_T64 l0 x5_1).f2.f9) ((rd_T64 l1 x5_1).f0) ((rd_T64 l1 x5_1).f1) ((rd_T64 l1 x5_1).f2.f0) ((rd_T64 l1 x5_1).f2.f1) ((rd_T64 l1 x5_1).f2.f2) ((rd_T64 l1 x5_1).f2.f3) ((rd_T64 l1 x5_1).f2.f4) ((rd_T64 l1 x5_1).f2.f5) ((rd_T64 l1 x5_1).f2.f6) ((rd_T64 l1 x5_1).f2.f7) ((rd_T64 l1 x5_1).f2.f8) ((rd_T64 l1 x5_1).f2.f9) true _ A7.out).mono ?_
        rintro e w10 ⟨rfl, hb⟩
        refine ⟨_, rfl, ?_⟩
        have n0_ := Aside0.mk (below_step (pB HB.out) hb)
        clear HB
        have HB := n0_
        clear n0_
        (try clear hb)
        (try clear hb2)
        (try clear hk)
        (try clear hi)
        refine hK.out _ _ ⟨((HB.out.cell (World.block_lt_of_cell? w _ hw699_0)).trans hw699_0), ((HB.out.cell (World.block_lt_of_cell? w _ hw699_1)).trans hw699_1), ((HB.out.cell (World.block_lt_of_cell? w _ hw699_2)).trans hw699_2), ((HB.out.cell (World.block_lt_of_cell? w _ hw699_3)).trans hw699_3), ((HB.out.cell (World.block_lt_of_cell? w _ hw699_4)).trans hw699_4), ((HB.out.cell (World.block_lt_of_cell? w _ hw699_5)).trans hw699_5), ((HB.out.cell (World.block_lt_of_cell? w _ hw699_6)).trans hw699_6), ((HB.out.cell (World.block_lt_of_cell? w _ hw699_7)).trans hw699_7), ((HB.out.cell (World.block_lt_of_cell? w _ hw699_8)).trans hw699_8), ((HB.out.cell (World.block_lt_of_cell? w _ hw699_9)).trans hw699_9), ((HB.out.cell (World.block_lt_of_cell? w _ hw699_10)).trans hw699_10), ((HB.out.cell (World.block_lt_of_cell? w _ hw699_11)).trans hw699_11), ((HB.out.cell (World.block_lt_of_cell? w _ hw700_0)).trans hw700_0), ((HB.out.cell (World.block_lt_of_cell? w _ hw700_1)).trans hw700_1), ((HB.out.cell (World.block_lt_of_cell? w _ hw700_2)).trans hw700_2), ((HB.out.cell (World.block_lt_of_cell? w _ hw700_3)).trans hw700_3), ((HB.out.cell (World.block_lt_of_cell? w _ hw700_4)).trans hw700_4), ((HB.out.cell (World.block_lt_of_cell? w _ hw700_5)).trans hw700_5), ((HB.out.cell (World.block_lt_of_cell? w _ hw700_6)).trans hw700_6), ((HB.out.cell (World.block_lt_of_cell? w _ hw700_7)).trans hw700_7), ((HB.out.cell (World.block_lt_of_cell? w _ hw700_8)).trans hw700_8), ((HB.out.cell (World.block_lt_of_cell? w _ hw700_9)).trans hw700_9), ((HB.out.cell (World.block_lt_of_cell? w _ hw700_10)).trans hw700_10), ((HB.out.cell (World.block_lt_of_cell? w _ hw700_11)).trans hw700_11)⟩ (fun hHeld => ?_)
        clear hK K
        refine norm_ (a' := ?_) ?_ ?_
        rotate_left
        ·show Act.put _ (some 25) _ = _
         simp only [Act.put, List.setIfInBounds_toArray, List.set_cons_zero, List.set_cons_succ, i64_w, i32_w]
         rfl
        refine pure_ (i := 9) (N := some 26) (v := ?_) (a' := ?_) #[true, true, true, true, true, true, true, true, true, true] rfl rfl (any_of HT_.out (by kernel_rfl)) (fun _ _ _ h => h) (Or.inl ⟨by rfl, ?_⟩) ?_ ?_
        rotate_left
        ·intro w'
         go_simp
         with_reducible rfl
        rotate_left
        ·simp only [Act.put, List.setIfInBounds_toArray, List.set_cons_zero, List.set_cons_succ, i64_w, i32_w]
         rfl
        refine done_ (done_of HT_.out (by kernel_rfl)) ?_
        try go_wp2
        go_roundg k1
        case measure => have := HK1.out; omega
        case rel => exact ⟨(wrap64 (x5_1 + 1)), (by first | rfl | (simp; done) | (simp [*]; done)), H', ⟨by have := HK1.out; omega⟩, ⟨pB HB.out⟩⟩
       ·replace c8 := Bool.eq_false_iff.mpr c8
        subst c8
        have H1 : (some false) = some r := by rw [if_neg (show ¬ (false = true) by decide)] at H; exact H
        clear H
        have H := H1
        clear H1
        obtain rfl := Option.some.inj H
        try go_wp2
        have n0_ := Aside0.mk (below_drew1 HB.out)
        clear HB
        have HB := n0_
        clear n0_
        have p699 : 0 ≤ (x5_1 : Int) := of_decide_eq_true bA
        have q699 : x5_1 < (l0.length : Int) := of_decide_eq_true bA
        obtain ⟨ad699, e699, hx699_0, hx699_1, hx699_2, hx699_3, hx699_4, hx699_5, hx699_6, hx699_7, hx699_8, hx699_9, hx699_10, hx699_11⟩ := at_T64 HR0.out x5_1 p699 q699
        have hw699_11 := hx699_11
        have hw699_10 := hx699_10
        have hw699_9 := hx699_9
        have hw699_8 := hx699_8
        have hw699_7 := hx699_7
        have hw699_6 := hx699_6
        have hw699_5 := hx699_5
        have hw699_4 := hx699_4
        have hw699_3 := hx699_3
        have hw699_2 := hx699_2
        have hw699_1 := hx699_1
        have hw699_0 := hx699_0
        cases e699
        replace hx699_0 := (HB.out.cell (World.block_lt_of_cell? w _ hx699_0)).trans hx699_0
        replace hx699_1 := (HB.out.cell (World.block_lt_of_cell? w _ hx699_1)).trans hx699_1
        replace hx699_2 := (HB.out.cell (World.block_lt_of_cell? w _ hx699_2)).trans hx699_2
        replace hx699_3 := (HB.out.cell (World.block_lt_of_cell? w _ hx699_3)).trans hx699_3
        replace hx699_4 := (HB.out.cell (World.block_lt_of_cell? w _ hx699_4)).trans hx699_4
        replace hx699_5 := (HB.out.cell (World.block_lt_of_cell? w _ hx699_5)).trans hx699_5
        replace hx699_6 := (HB.out.cell (World.block_lt_of_cell? w _ hx699_6)).trans hx699_6
        replace hx699_7 := (HB.out.cell (World.block_lt_of_cell? w _ hx699_7)).trans hx699_7
        replace hx699_8 := (HB.out.cell (World.block_lt_of_cell? w _ hx699_8)).trans hx699_8
        replace hx699_9 := (HB.out.cell (World.block_lt_of_cell? w _ hx699_9)).trans hx699_9
        replace hx699_10 := (HB.out.cell (World.block_lt_of_cell? w _ hx699_10)).trans hx699_10
        replace hx699_11 := (HB.out.cell (World.block_lt_of_cell? w _ hx699_11)).trans hx699_11
        replace p699 := eq_true p699
        replace q699 := eq_true q699
        have p700 : 0 ≤ (x5_1 : Int) := of_decide_eq_true bA
        have q700 : x5_1 < (l1.length : Int) := of_decide_eq_true bA
        obtain ⟨ad700, e700, hx700_0, hx700_1, hx700_2, hx700_3, hx700_4, hx700_5, hx700_6, hx700_7, hx700_8, hx700_9, hx700_10, hx700_11⟩ := at_T64 HR1.out x5_1 p700 q700
        have hw700_11 := hx700_11
        have hw700_10 := hx700_10
        have hw700_9 := hx700_9
        have hw700_8 := hx700_8
        have hw700_7 := hx700_7
        have hw700_6 := hx700_6
        have hw700_5 := hx700_5
        have hw700_4 := hx700_4
        have hw700_3 := hx700_3
        have hw700_2 := hx700_2
        have hw700_1 := hx700_1
        have hw700_0 := hx700_0
        cases e700
        replace hx700_0 := (HB.out.cell (World.block_lt_of_cell? w _ hx700_0)).trans hx700_0
        replace hx700_1 := (HB.out.cell (World.block_lt_of_cell? w _ hx700_1)).trans hx700_1
        replace hx700_2 := (HB.out.cell (World.block_lt_of_cell? w _ hx700_2)).trans hx700_2
        replace hx700_3 := (HB.out.cell (World.block_lt_of_cell? w _ hx700_3)).trans hx700_3
        replace hx700_4 := (HB.out.cell (World.block_lt_of_cell? w _ hx700_4)).trans hx700_4
        replace hx700_5 := (HB.out.cell (World.block_lt_of_cell? w _ hx700_5)).trans hx700_5
        replace hx700_6 := (HB.out.cell (World.block_lt_of_cell? w _ hx700_6)).trans hx700_6
        replace hx700_7 := (HB.out.cell (World.block_lt_of_cell? w _ hx700_7)).trans hx700_7
        replace hx700_8 := (HB.out.cell (World.block_lt_of_cell? w _ hx700_8)).trans hx700_8
        replace hx700_9 := (HB.out.cell (World.block_lt_of_cell? w _ hx700_9)).trans hx700_9
        replace hx700_10 := (HB.out.cell (World.block_lt_of_cell? w _ hx700_10)).trans hx700_10
        replace hx700_11 := (HB.out.cell (World.block_lt_of_cell? w _ hx700_11)).trans hx700_11
        replace p700 := eq_true p700
        replace q700 := eq_true q700
        refine start_ (n := 10) (S := fun w' => w'.cell? (ad699.add ((x5_1).toNat * 12)) = some (.int .i64 ((rd_T64 l0 x5_1).f0)) ∧ w'.cell? ⟨(ad699.add ((x5_1).toNat * 12)).block, (ad699.add ((x5_1).toNat * 12)).off + 1, none⟩ = some (.int .i64 ((rd_T64 l0 x5_1).f1)) ∧ w'.cell? ⟨(ad699.add ((x5_1).toNat * 12)).block, (ad699.add ((x5_1).toNat * 12)).off + 2, none⟩ = some (.int .i64 ((rd_T64 l0 x5_1).f2.f0)) ∧ w'.cell? ⟨(ad699.add ((x5_1).toNat * 12)).block, (ad699.add ((x5_1).toNat * 12)).off + 3, none⟩ = some (.int .i64 ((rd_T64 l0 x5_1).f2.f1)) ∧ w'.cell? ⟨(ad699.add ((x5_1).toNat * 12)).block, (ad699.add ((x5_1).toNat * 12)).off + 4, none⟩ = some (.int .i64 ((rd_T64 l0 x5_1).f2.f2)) ∧ w'.cell? ⟨(ad699.add ((x5_1).toNat * 12)).block, (ad699.add ((x5_1).toNat * 12)).off + 5, none⟩ = some (.int .i64 ((rd_T64 l0 x5_1).f2.f3)) ∧ w'.cell? ⟨(ad699.add ((x5_1).toNat * 12)).block, (ad699.add ((x5_1).toNat * 12)).off + 6, none⟩ = some (.int .i64 ((rd_T64 l0 x5_1).f2.f4)) ∧ w'.cell? ⟨(ad699.add ((x5_1).toNat * 12)).block, (ad699.add ((x5_1).toNat * 12)).off + 7, none⟩ = some (.int .i64 ((rd_T64 l0 x5_1).f2.f5)) ∧ w'.cell? ⟨(ad699.add ((x5_1).toNat * 12)).block, (ad699.add ((x5_1).toNat * 12)).off + 8, none⟩ = some (.int .i64 ((rd_T64 l0 x5_1).f2.f6)) ∧ w'.cell? ⟨(ad699.add ((x5_1).toNat * 12)).block, (ad699.add ((x5_1).toNat * 12)).off + 9, none⟩ = some (.int .i64 ((rd_T64 l0 x5_1).f2.f7)) ∧ w'.cell? ⟨(ad699.add ((x5_1).toNat * 12)).block, (ad699.add ((x5_1).toNat * 12)).off + 10, none⟩ = some (.int .i64 ((rd_T64 l0 x5_1).f2.f8)) ∧ w'.cell? ⟨(ad699.add ((x5_1).toNat * 12)).block, (ad699.add ((x5_1).toNat * 12)).off + 11, none⟩ = some (.int .i64 ((rd_T64 l0 x5_1).f2.f9)) ∧ w'.cell? (ad700.add ((x5_1).toNat * 12)) = some (.int .i64 ((rd_T64 l1 x5_1).f0)) ∧ w'.cell? ⟨(ad700.add ((x5_1).toNat * 12)).block, (ad700.add ((x5_1).toNat * 12)).off + 1, none⟩ = some (.int .i64 ((rd_T64 l1 x5_1).f1)) ∧ w'.cell? ⟨(ad700.add ((x5_1).toNat * 12)).block, (ad700.add ((x5_1).toNat * 12)).off + 2, none⟩ = some (.int .i64 ((rd_T64 l1 x5_1).f2.f0)) ∧ w'.cell? ⟨(ad700.add ((x5_1).toNat * 12)).block, (ad700.add ((x5_1).toNat * 12)).off + 3, none⟩ = some (.int .i64 ((rd_T64 l1 x5_1).f2.f1)) ∧ w'.cell? ⟨(ad700.add ((x5_1).toNat * 12)).block, (ad700.add ((x5_1).toNat * 12)).off + 4, none⟩ = some (.int .i64 ((rd_T64 l1 x5_1).f2.f2)) ∧ w'.cell? ⟨(ad700.add ((x5_1).toNat * 12)).block, (ad700.add ((x5_1).toNat * 12)).off + 5, none⟩ = some (.int .i64 ((rd_T64 l1 x5_1).f2.f3)) ∧ w'.cell? ⟨(ad700.add ((x5_1).toNat * 12)).block, (ad700.add ((x5_1).toNat * 12)).off + 6, none⟩ = some (.int .i64 ((rd_T64 l1 x5_1).f2.f4)) ∧ w'.cell? ⟨(ad700.add ((x5_1).toNat * 12)).block, (ad700.add ((x5_1).toNat * 12)).off + 7, none⟩ = some (.int .i64 ((rd_T64 l1 x5_1).f2.f5)) ∧ w'.cell? ⟨(ad700.add ((x5_1).toNat * 12)).block, (ad700.add ((x5_1).toNat * 12)).off + 8, none⟩ = some (.int .i64 ((rd_T64 l1 x5_1).f2.f6)) ∧ w'.cell? ⟨(ad700.add ((x5_1).toNat * 12)).block, (ad700.add ((x5_1).toNat * 12)).off + 9, none⟩ = some (.int .i64 ((rd_T64 l1 x5_1).f2.f7)) ∧ w'.cell? ⟨(ad700.add ((x5_1).toNat * 12)).block, (ad700.add ((x5_1).toNat * 12)).off + 10, none⟩ = some (.int .i64 ((rd_T64 l1 x5_1).f2.f8)) ∧ w'.cell? ⟨(ad700.add ((x5_1).toNat * 12)).block, (ad700.add ((x5_1).toNat * 12)).off + 11, none⟩ = some (.int .i64 ((rd_T64 l1 x5_1).f2.f9))) (ds := []) #[false, false, false, false, false, false, false, false, false, false] (by kernel_rfl) rfl rfl ⟨((HB.out.cell (World.block_lt_of_cell? w _ hw699_0)).trans hw699_0), ((HB.out.cell (World.block_lt_of_cell? w _ hw699_1)).trans hw699_1), ((HB.out.cell (World.block_lt_of_cell? w _ hw699_2)).trans hw699_2), ((HB.out.cell (World.block_lt_of_cell? w _ hw699_3)).trans hw699_3), ((HB.out.cell (World.block_lt_of_cell? w _ hw699_4)).trans hw699_4), ((HB.out.cell (World.block_lt_of_cell? w _ hw699_5)).trans hw699_5), ((HB.out.cell (World.block_lt_of_cell? w _ hw699_6)).trans hw699_6), ((HB.out.cell (World.block_lt_of_cell? w _ hw699_7)).trans hw699_7), ((HB.out.cell (World.block_lt_of_cell? w _ hw699_8)).trans hw699_8), ((HB.out.cell (World.block_lt_of_cell? w _ hw699_9)).trans hw699_9), ((HB.out.cell (World.block_lt_of_cell? w _ hw699_10)).trans hw699_10), ((HB.out.cell (World.block_lt_of_cell? w _ hw699_11)).trans hw699_11), ((HB.out.cell (World.block_lt_of_cell? w _ hw700_0)).trans hw700_0), ((HB.out.cell (World.block_lt_of_cell? w _ hw700_1)).trans hw700_1), ((HB.out.cell (World.block_lt_of_cell? w _ hw700_2)).trans hw700_2), ((HB.out.cell (World.block_lt_of_cell? w _ hw700_3)).trans hw700_3), ((HB.out.cell (World.block_lt_of_cell? w _ hw700_4)).trans hw700_4), ((HB.out.cell (World.block_lt_of_cell? w _ hw700_5)).trans hw700_5), ((HB.out.cell (World.block_lt_of_cell? w _ hw700_6)).trans hw700_6), ((HB.out.cell (World.block_lt_of_cell? w _ hw700_7)).trans hw700_7), ((HB.out.cell (World.block_lt_of_cell? w _ hw700_8)).trans hw700_8), ((HB.out.cell (World.block_lt_of_cell? w _ hw700_9)).trans hw700_9), ((HB.out.cell (World.block_lt_of_cell? w _ hw700_10)).trans hw700_10), ((HB.out.cell (World.block_lt_of_cell? w _ hw700_11)).trans hw700_11)⟩ (fun hHeld => ?_); refine with_tabW laws_eqSynPaperS.tab6 laws_eqSynPaperS.bits6 (fun HT_ HW_ => ?_)
        generalize wr.drew = w11 at HB hx699_0 hx699_1 hx699_10 hx699_11 hx699_2 hx699_3 hx699_4 hx699_5 hx699_6 hx699_7 hx699_8 hx699_9 hx700_0 hx700_1 hx700_10 hx700_11 hx700_2 hx700_3 hx700_4 hx700_5 hx700_6 hx700_7 hx700_8 hx700_9 hHeld ⊢
        refine pure_ (i := 0) (N := some 17) (v := ?_) (a' := ?_) #[true, false, false, false, false, false, false, false, false, false] rfl rfl (any_of HT_.out (by kernel_rfl)) (fun _ _ _ h => h) (Or.inl ⟨by rfl, ?_⟩) ?_ ?_
        rotate_left
        ·intro w'
         go_simp
         with_reducible rfl
        rotate_left
        ·simp only [Act.put, List.setIfInBounds_toArray, List.set_cons_zero, List.set_cons_succ, i64_w, i32_w]
         rfl
        refine pure_ (i := 1) (N := some 18) (v := ?_) (a' := ?_) #[true, true, false, false, false, false, false, false, false, false] rfl rfl (any_of HT_.out (by kernel_rfl)) (fun _ _ _ h => h) (Or.inl ⟨by rfl, ?_⟩) ?_ ?_
        rotate_left
        ·intro w'
         go_simp
         with_reducible rfl
        rotate_left
        ·simp only [Act.put, List.setIfInBounds_toArray, List.set_cons_zero, List.set_cons_succ, i64_w, i32_w]
         rfl
        refine pure_ (i := 2) (N := some 19) (v := ?_) (a' := ?_) #[true, true, true, false, false, false, false, false, false, false] rfl rfl (any_of HT_.out (by kernel_rfl)) (fun _ _ _ h => h) (Or.inl ⟨by rfl, ?_⟩) ?_ ?_
        rotate_left
        ·intro w'
         go_simp
         with_reducible rfl
        rotate_left
        ·simp only [Act.put, List.setIfInBounds_toArray, List.set_cons_zero, List.set_cons_succ, i64_w, i32_w]
         rfl
        refine pure_ (i := 4) (N := some 21) (v := ?_) (a' := ?_) #[true, true, true, false, true, false, false, false, false, false] rfl rfl (any_of HT_.out (by kernel_rfl)) (fun _ _ _ h => h) (Or.inl ⟨by rfl, ?_⟩) ?_ ?_
        rotate_left
        ·intro w'
         go_simp
         with_reducible rfl
        rotate_left
        ·simp only [Act.put, List.setIfInBounds_toArray, List.set_cons_zero, List.set_cons_succ, i64_w, i32_w]
         rfl
        refine pure_ (i := 5) (N := some 22) (v := ?_) (a' := ?_) #[true, true, true, false, true, true, false, false, false, false] rfl rfl (any_of HT_.out (by kernel_rfl)) (fun _ _ _ h => h) (Or.inl ⟨by rfl, ?_⟩) ?_ ?_
        rotate_left
        ·intro w'
         go_simp
         with_reducible rfl
        rotate_left
        ·simp only [Act.put, List.setIfInBounds_toArray, List.set_cons_zero, List.set_cons_succ, i64_w, i32_w]
         rfl
        refine pure_ (i := 6) (N := some 23) (v := ?_) (a' := ?_) #[true, true, true, false, true, true, true, false, false, false] rfl rfl (any_of HT_.out (by kernel_rfl)) (fun _ _ _ h => h) (Or.inl ⟨by rfl, ?_⟩) ?_ ?_
        rotate_left
        ·intro w'
         go_simp
         with_reducible rfl
        rotate_left
        ·simp only [Act.put, List.setIfInBounds_toArray, List.set_cons_zero, List.set_cons_succ, i64_w, i32_w]
         rfl
        refine take_ (i := 3) (N := some 20) (v := ?_) (a' := ?_) #[true, true, true, true, true, true, true, false, false, false] rfl rfl (take_ofW HT_.out HW_.out (by kernel_rfl)) (fun _ _ _ h => h) (Or.inl ⟨by rfl, ?_⟩) hHeld ?_ ?_
        rotate_left
        ·rintro w' ⟨s0, s1, s2, s3, s4, s5, s6, s7, s8, s9, s10, s11, s12, s13, s14, s15, s16, s17, s18, s19, s20, s21, s22, s23⟩
         go_simp
         with_reducible rfl
        rotate_left
        ·simp only [Act.put, List.setIfInBounds_toArray, List.set_cons_zero, List.set_cons_succ, i64_w, i32_w]
         rfl
        refine take_ (i := 7) (N := some 24) (v := ?_) (a' := ?_) #[true, true, true, true, true, true, true, true, false, false] rfl rfl (take_ofW HT_.out HW_.out (by kernel_rfl)) (fun _ _ _ h => h) (Or.inl ⟨by rfl, ?_⟩) hHeld ?_ ?_
        rotate_left
        ·rintro w' ⟨s0, s1, s2, s3, s4, s5, s6, s7, s8, s9, s10, s11, s12, s13, s14, s15, s16, s17, s18, s19, s20, s21, s22, s23⟩
         go_simp
         with_reducible rfl
        rotate_left
        ·simp only [Act.put, List.setIfInBounds_toArray, List.set_cons_zero, List.set_cons_succ, i64_w, i32_w]
         rfl
        refine one_ (i := 8) (N := some 25) #[true, true, true, true, true, true, true, true, true, false] rfl rfl (one_of HT_.out (by kernel_rfl)) (by decide) (fun K hK => ?_)
        refine goes_ Try.func95 (by kernel_rfl) rfl #[.agg #[.int .i64 ((rd_T64 l0 x5_1).f0), .int .i64 ((rd_T64 l0 x5_1).f1), .int .i64 ((rd_T64 l0 x5_1).f2.f0), .int .i64 ((rd_T64 l0 x5_1).f2.f1), .int .i64 ((rd_T64 l0 x5_1).f2.f2), .int .i64 ((rd_T64 l0 x5_1).f2.f3), .int .i64 ((rd_T64 l0 x5_1).f2.f4), .int .i64 ((rd_T64 l0 x5_1).f2.f5), .int .i64 ((rd_T64 l0 x5_1).f2.f6), .int .i64 ((rd_T64 l0 x5_1).f2.f7), .int .i64 ((rd_T64 l0 x5_1).f2.f8), .int .i64 ((rd_T64 l0 x5_1).f2.f9)], .agg #[.int .i64 ((rd_T64 l1 x5_1).f0), .int .i64 ((rd_T64 l1 x5_1).f1), .int .i64 ((rd_T64 l1 x5_1).f2.f0), .int .i64 ((rd_T64 l1 x5_1).f2.f1), .int .i64 ((rd_T64 l1 x5_1).f2.f2), .int .i64 ((rd_T64 l1 x5_1).f2.f3), .int .i64 ((rd_T64 l1 x5_1).f2.f4), .int .i64 ((rd_T64 l1 x5_1).f2.f5), .int .i64 ((rd_T64 l1 x5_1).f2.f6), .int .i64 ((rd_T64 l1 x5_1).f2.f7), .int .i64 ((rd_T64 l1 x5_1).f2.f8), .int .i64 ((rd_T64 l1 x5_1).f2.f9)]] (by rfl) rfl rfl bM ?_
        with_reducible refine (laws_eqSynPaper.calls ((rd_T64 l0 x5_1).f0) ((rd_T64 l0 x5_1).f1) ((rd_T64 l0 x5_1).f2.f0) ((rd_T64 l0 x5_1).f2.f1) ((rd_T64 l0 x5_1).f2.f2) ((rd_T64 l0 x5_1).f2.f3) ((rd_T64 l0 x5_1).f2.f4) ((rd_T64 l0 x5_1).f2.f5) ((rd_T64 l0 x5_1).f2.f6) ((rd_T64 l0 x5_1).f2.f7) ((rd_T64 l0 x5_1).f2.f8) ((rd_T64 l0 x5_1).f2.f9) ((rd_T64 l1 x5_1).f0) ((rd_T64 l1 x5_1).f1) ((rd_T64 l1 x5_1).f2.f0) ((rd_T64 l1 x5_1).f2.f1) ((rd_T64 l1 x5_1).f2.f2) ((rd_T64 l1 x5_1).f2.f3) ((rd_T64 l1 x5_1).f2.f4) ((rd_T64 l1 x5_1).f2.f5) ((rd_T64 l1 x5_1).f2.f6) ((rd_T64 l1 x5_1).f2.f7) ((rd_T64 l1 x5_1).f2.f8) ((rd_T64 l1 x5_1).f2.f9) false _ A7.out).mono ?_
        rintro e w12 ⟨rfl, hb⟩
        refine ⟨_, rfl, ?_⟩
        have n0_ := Aside0.mk (below_step (pB HB.out) hb)
        clear HB
        have HB := n0_
        clear n0_
        (try clear hb)
        (try clear hb2)
        (try clear hk)
        (try clear hi)
        refine hK.out _ _ ⟨((HB.out.cell (World.block_lt_of_cell? w _ hw699_0)).trans hw699_0), ((HB.out.cell (World.block_lt_of_cell? w _ hw699_1)).trans hw699_1), ((HB.out.cell (World.block_lt_of_cell? w _ hw699_2)).trans hw699_2), ((HB.out.cell (World.block_lt_of_cell? w _ hw699_3)).trans hw699_3), ((HB.out.cell (World.block_lt_of_cell? w _ hw699_4)).trans hw699_4), ((HB.out.cell (World.block_lt_of_cell? w _ hw699_5)).trans hw699_5), ((HB.out.cell (World.block_lt_of_cell? w _ hw699_6)).trans hw699_6), ((HB.out.cell (World.block_lt_of_cell? w _ hw699_7)).trans hw699_7), ((HB.out.cell (World.block_lt_of_cell? w _ hw699_8)).trans hw699_8), ((HB.out.cell (World.block_lt_of_cell? w _ hw699_9)).trans hw699_9), ((HB.out.cell (World.block_lt_of_cell? w _ hw699_10)).trans hw699_10), ((HB.out.cell (World.block_lt_of_cell? w _ hw699_11)).trans hw699_11), ((HB.out.cell (World.block_lt_of_cell? w _ hw700_0)).trans hw700_0), ((HB.out.cell (World.block_lt_of_cell? w _ hw700_1)).trans hw700_1), ((HB.out.cell (World.block_lt_of_cell? w _ hw700_2)).trans hw700_2), ((HB.out.cell (World.block_lt_of_cell? w _ hw700_3)).trans hw700_3), ((HB.out.cell (World.block_lt_of_cell? w _ hw700_4)).trans hw700_4), ((HB.out.cell (World.block_lt_of_cell? w _ hw700_5)).trans hw700_5), ((HB.out.cell (World.block_lt_of_cell? w _ hw700_6)).trans hw700_6), ((HB.out.cell (World.block_lt_of_cell? w _ hw700_7)).trans hw700_7), ((HB.out.cell (World.block_lt_of_cell? w _ hw700_8)).trans hw700_8), ((HB.out.cell (World.block_lt_of_cell? w _ hw700_9)).trans hw700_9), ((HB.out.cell (World.block_lt_of_cell? w _ hw700_10)).trans hw700_10), ((HB.out.cell (World.block_lt_of_cell? w _ hw700_11)).trans hw700_11)⟩ (fun hHeld => ?_)
        clear hK K
        refine norm_ (a' := ?_) ?_ ?_
        rotate_left
        ·show Act.put _ (some 25) _ = _
         simp only [Act.put, List.setIfInBounds_toArray, List.set_cons_zero, List.set_cons_succ, i64_w, i32_w]
         rfl
        refine pure_ (i := 9) (N := some 26) (v := ?_) (a' := ?_) #[true, true, true, true, true, true, true, true, true, true] rfl rfl (any_of HT_.out (by kernel_rfl)) (fun _ _ _ h => h) (Or.inl ⟨by rfl, ?_⟩) ?_ ?_
        rotate_left
        ·intro w'
         go_simp
         with_reducible rfl
        rotate_left
        ·simp only [Act.put, List.setIfInBounds_toArray, List.set_cons_zero, List.set_cons_succ, i64_w, i32_w]
         rfl
        refine done_ (done_of HT_.out (by kernel_rfl)) ?_
        try go_wp2
        go_ret
        exact ⟨by first | rfl | (simp [errW_none, errW_some] <;> rfl) | (simp [*, errW_none, errW_some] <;> rfl), pB HB.out⟩
      ·rw [if_neg c6] at H
       exact absurd H (by simp)
     ·rw [if_neg c5] at H
      exact absurd H (by simp)
    ·rw [if_neg c4] at H
     have c4b0 : decide (x5_1 < (l0.length : Int)) = false := decide_eq_false c4
     clear c4
     obtain rfl := Option.some.inj H
     go_wp2
     go_ret
     exact ⟨by first | rfl | (simp [errW_none, errW_some] <;> rfl) | (simp [*, errW_none, errW_some] <;> rfl), pB HB.out⟩
 ·rw [if_neg c3] at H
  have c3b0 : ((l0.length : Int) == (l1.length : Int)) = false := beq_eq_false_iff_ne.mpr c3
  have c3b1 : ((l0.length : Int) != (l1.length : Int)) = true := bne_iff_ne.mpr c3
  have c3b2 : (l0.length == l1.length) = false := by first | simpa using c3 | (simp at c3 ⊢; omega)
  obtain rfl := Option.some.inj H
  go_enter Try.func89, Try.ntmps89
  go_wp2
  go_ret
  exact ⟨by first | rfl | (simp [errW_none, errW_some] <;> rfl) | (simp [*, errW_none, errW_some] <;> rfl), pB HB.out⟩

/-! ### laws_eqSynVoter: function 29 -/
def laws_eqSynVoter.f (k : Nat) (a0_0 : Int) (l0_1 : List (S64)) (a1_0 : Int) (l1_1 : List (S64)) : Option (Bool) := if a0_0 = a1_0 then ((laws_eqSynPaperS.f k l0_1 l1_1).bind fun t704 => (if t704 = true then (some true) else (some false))) else (some false)
theorem laws_eqSynVoter.mono : ∀ a0 a1 a2 a3 k, LeO (laws_eqSynVoter.f k a0 a1 a2 a3) (laws_eqSynVoter.f (k + 1) a0 a1 a2 a3) := by
 intro a0 a1 a2 a3 k
 unfold laws_eqSynVoter.f
 repeat' first
   | (with_reducible exact laws_eqSynPaperS.mono _ _ _)
   | (with_reducible exact LeO.refl _)
   | (with_reducible exact LeO.none _)
   | (with_reducible refine LeO.ite ?_ ?_)
   | (with_reducible refine LeO.bind ?_ (fun _ => ?_))
   | exact laws_eqSynPaperS.mono _ _ _
   | exact LeO.none _
   | refine LeO.ite ?_ ?_
   | refine LeO.bind ?_ (fun _ => ?_)
set_option maxHeartbeats 8000000 in
set_option maxRecDepth 100000 in
theorem laws_eqSynVoter.calls (k : Nat) (a0_0 : Int) (A0_1 : Option Addr) (c0_1 : Nat) (l0_1 : List (S64)) (a1_0 : Int) (A1_1 : Option Addr) (c1_1 : Nat) (l1_1 : List (S64)) (r : Bool) (w : World) (hr0_1 : Kd.C k64 w A0_1 l0_1.length l0_1) (hc0_1 : l0_1.length ≤ c0_1) (hr1_1 : Kd.C k64 w A1_1 l1_1.length l1_1) (hc1_1 : l1_1.length ≤ c1_1) (h : laws_eqSynVoter.f k a0_0 l0_1 a1_0 l1_1 = some r) :
  Calls Try.prog 29 #[.agg #[.int .i64 a0_0, .slice A0_1 l0_1.length c0_1], .agg #[.int .i64 a1_0, .slice A1_1 l1_1.length c1_1]] w fun e w' => e = .returned (.bool r) ∧ Below w.heap.size w w' := by
 have hu52 := Try.underlying52
 have HR0_1 := Aside0.mk hr0_1
 have HC0_1 := Aside0.mk hc0_1
 clear hr0_1 hc0_1
 have HR1_1 := Aside0.mk hr1_1
 have HC1_1 := Aside0.mk hc1_1
 clear hr1_1 hc1_1
 have HB := Aside0.mk (Below.refl w.heap.size w)
 have H : (if a0_0 = a1_0 then ((laws_eqSynPaperS.f k l0_1 l1_1).bind fun t704 => (if t704 = true then (some true) else (some false))) else (some false)) = some r := h
 clear h
 by_cases c3 : a0_0 = a1_0
 ·rw [if_pos c3] at H
  have c3b0 : (a0_0 == a1_0) = true := beq_iff_eq.mpr c3
  have c3b1 : (a0_0 != a1_0) = false := bne_eq_false_iff_eq.mpr c3
  clear c3
  replace H := Option.bind_eq_some_iff.mp H
  obtain ⟨t704, A40, H⟩ := H
  replace H : (if t704 = true then (some true) else (some false)) = some r := H
  have A4 := Aside0.mk A40
  clear A40
  by_cases c5 : t704 = true
  ·subst c5
   have H1 : (some true) = some r := by rw [if_pos rfl] at H; exact H
   clear H
   have H := H1
   clear H1
   obtain rfl := Option.some.inj H
   go_enter Try.func29, Try.ntmps29
   go_wp2_with (first | ((with_reducible refine gate_dst (N := 2) rfl ?_); refine box_event ?hg (N := 2) ?hd (cs := #[.int .i64 a0_0, .slice A0_1 l0_1.length c0_1]) (t := 52) ?hr ?_; (case hd => rfl); (case hg => rfl); (case hr => first | (go_simp; done) | (go_simp; rfl)); intro gb702 hg w6 hbox hb; have n0_ := Aside0.mk (below_step (pB HB.out) hb); have n1_ := Aside0.mk (hbox); have n2_ := Aside0.mk ((by rw [hg]; exact (below_size (pB HB.out)) : w.heap.size ≤ gb702)); have n3_ := Aside0.mk ((by rw [hg]; exact (below_size (pB HB.out)) : w.heap.size ≤ gb702)); clear HB; have HB := n0_; have BK702 := n1_; have GW702 := n2_; have GE702 := n3_; clear n0_ n1_ n2_ n3_; clear hb hbox hg) | ((with_reducible refine gate_dst (N := 3) rfl ?_); refine box_event ?hg (N := 3) ?hd (cs := #[.int .i64 a1_0, .slice A1_1 l1_1.length c1_1]) (t := 52) ?hr ?_; (case hd => rfl); (case hg => rfl); (case hr => first | (go_simp; done) | (go_simp; rfl)); intro gb703 hg w7 hbox hb; have n0_ := Aside0.mk (blk_below (pK BK702.out) hb); have n1_ := Aside0.mk (below_step (pS HB.out) hb); have n2_ := Aside0.mk (hbox); have n3_ := Aside0.mk ((by rw [hg]; exact (below_size (pS HB.out)) : w.heap.size ≤ gb703)); have n4_ := Aside0.mk ((by rw [hg]; exact (below_size (pS HB.out)) : w.heap.size ≤ gb703)); have n5_ := Aside0.mk ((by rw [hg]; exact Nat.ne_of_lt (blk_lt (pK BK702.out)) : gb702 ≠ gb703)); have n6_ := Aside0.mk ((by rw [hg]; exact Nat.ne_of_gt (blk_lt (pK BK702.out)) : gb703 ≠ gb702)); clear BK702; clear HB; have BK702 := n0_; have HB := n1_; have BK703 := n2_; have GW703 := n3_; have GE703 := n4_; have NB702_703 := n5_; have NB703_702 := n6_; clear n0_ n1_ n2_ n3_ n4_ n5_ n6_; clear hb hbox hg; have hnb8 := NB702_703.out; have hnc8 := NB703_702.out; have hcz9_0 : w7.cell? ⟨gb702, 0, none⟩ = some (.int .i64 a0_0) := (blk_cell BK702.out 0).trans rfl; have hcz9_1 : w7.cell? ⟨gb702, 1, none⟩ = some (.slice A0_1 l0_1.length c0_1) := (blk_cell BK702.out 1).trans rfl; have hfz9_0 := blk_frozen BK702.out 0; have hfz9_1 := blk_frozen BK702.out 1; have hcz10_0 : w7.cell? ⟨gb703, 0, none⟩ = some (.int .i64 a1_0) := (blk_cell BK703.out 0).trans rfl; have hcz10_1 : w7.cell? ⟨gb703, 1, none⟩ = some (.slice A1_1 l1_1.length c1_1) := (blk_cell BK703.out 1).trans rfl; have hfz10_0 := blk_frozen BK703.out 0; have hfz10_1 := blk_frozen BK703.out 1) | ((with_reducible refine gate_callee (f := 89) rfl ?_); refine goesL_ (some 14) rfl rfl Try.func89 (by kernel_rfl) rfl #[.slice A0_1 l0_1.length c0_1, .slice A1_1 l1_1.length c1_1] rfl bM ?_; (with_reducible refine (laws_eqSynPaperS.calls k _ _ l0_1 _ _ l1_1 true _ ?side1 ?side2 ?side3 ?side4 A4.out).mono ?_); (case side1 => exact pC (Kd.C_below HR0_1.out HB.out)); (case side2 => exact HC0_1.out); (case side3 => exact pC (Kd.C_below HR1_1.out HB.out)); (case side4 => exact HC1_1.out); rintro e w11 ⟨rfl, hb⟩; refine ⟨_, rfl, ?_⟩; have n0_ := Aside0.mk (blk_below (pK BK702.out) hb); have n1_ := Aside0.mk (blk_below (pK BK703.out) hb); have n2_ := Aside0.mk (below_step (pS HB.out) hb); clear BK702; clear BK703; clear HB; have BK702 := n0_; have BK703 := n1_; have HB := n2_; clear n0_ n1_ n2_; (try clear hb); (try clear hb2); (try clear hk); (try clear hi)))
   go_ret
   exact ⟨by first | rfl | (simp [errW_none, errW_some] <;> rfl) | (simp [*, errW_none, errW_some] <;> rfl), pS HB.out⟩
  ·replace c5 := Bool.eq_false_iff.mpr c5
   subst c5
   have H1 : (some false) = some r := by rw [if_neg (show ¬ (false = true) by decide)] at H; exact H
   clear H
   have H := H1
   clear H1
   obtain rfl := Option.some.inj H
   go_enter Try.func29, Try.ntmps29
   go_wp2_with (first | ((with_reducible refine gate_dst (N := 2) rfl ?_); refine box_event ?hg (N := 2) ?hd (cs := #[.int .i64 a0_0, .slice A0_1 l0_1.length c0_1]) (t := 52) ?hr ?_; (case hd => rfl); (case hg => rfl); (case hr => first | (go_simp; done) | (go_simp; rfl)); intro gb702 hg w12 hbox hb; have n0_ := Aside0.mk (below_step (pB HB.out) hb); have n1_ := Aside0.mk (hbox); have n2_ := Aside0.mk ((by rw [hg]; exact (below_size (pB HB.out)) : w.heap.size ≤ gb702)); have n3_ := Aside0.mk ((by rw [hg]; exact (below_size (pB HB.out)) : w.heap.size ≤ gb702)); clear HB; have HB := n0_; have BK702 := n1_; have GW702 := n2_; have GE702 := n3_; clear n0_ n1_ n2_ n3_; clear hb hbox hg) | ((with_reducible refine gate_dst (N := 3) rfl ?_); refine box_event ?hg (N := 3) ?hd (cs := #[.int .i64 a1_0, .slice A1_1 l1_1.length c1_1]) (t := 52) ?hr ?_; (case hd => rfl); (case hg => rfl); (case hr => first | (go_simp; done) | (go_simp; rfl)); intro gb703 hg w13 hbox hb; have n0_ := Aside0.mk (blk_below (pK BK702.out) hb); have n1_ := Aside0.mk (below_step (pS HB.out) hb); have n2_ := Aside0.mk (hbox); have n3_ := Aside0.mk ((by rw [hg]; exact (below_size (pS HB.out)) : w.heap.size ≤ gb703)); have n4_ := Aside0.mk ((by rw [hg]; exact (below_size (pS HB.out)) : w.heap.size ≤ gb703)); have n5_ := Aside0.mk ((by rw [hg]; exact Nat.ne_of_lt (blk_lt (pK BK702.out)) : gb702 ≠ gb703)); have n6_ := Aside0.mk ((by rw [hg]; exact Nat.ne_of_gt (blk_lt (pK BK702.out)) : gb703 ≠ gb702)); clear BK702; clear HB; have BK702 := n0_; have HB := n1_; have BK703 := n2_; have GW703 := n3_; have GE703 := n4_; have NB702_703 := n5_; have NB703_702 := n6_; clear n0_ n1_ n2_ n3_ n4_ n5_ n6_; clear hb hbox hg; have hnb14 := NB702_703.out; have hnc14 := NB703_702.out; have hcz15_0 : w13.cell? ⟨gb702, 0, none⟩ = some (.int .i64 a0_0) := (blk_cell BK702.out 0).trans rfl; have hcz15_1 : w13.cell? ⟨gb702, 1, none⟩ = some (.slice A0_1 l0_1.length c0_1) := (blk_cell BK702.out 1).trans rfl; have hfz15_0 := blk_frozen BK702.out 0; have hfz15_1 := blk_frozen BK702.out 1; have hcz16_0 : w13.cell? ⟨gb703, 0, none⟩ = some (.int .i64 a1_0) := (blk_cell BK703.out 0).trans rfl; have hcz16_1 : w13.cell? ⟨gb703, 1, none⟩ = some (.slice A1_1 l1_1.length c1_1) := (blk_cell BK703.out 1).trans rfl; have hfz16_0 := blk_frozen BK703.out 0; have hfz16_1 := blk_frozen BK703.out 1) | ((with_reducible refine gate_callee (f := 89) rfl ?_); refine goesL_ (some 14) rfl rfl Try.func89 (by kernel_rfl) rfl #[.slice A0_1 l0_1.length c0_1, .slice A1_1 l1_1.length c1_1] rfl bM ?_; (with_reducible refine (laws_eqSynPaperS.calls k _ _ l0_1 _ _ l1_1 false _ ?side1 ?side2 ?side3 ?side4 A4.out).mono ?_); (case side1 => exact pC (Kd.C_below HR0_1.out HB.out)); (case side2 => exact HC0_1.out); (case side3 => exact pC (Kd.C_below HR1_1.out HB.out)); (case side4 => exact HC1_1.out); rintro e w17 ⟨rfl, hb⟩; refine ⟨_, rfl, ?_⟩; have n0_ := Aside0.mk (blk_below (pK BK702.out) hb); have n1_ := Aside0.mk (blk_below (pK BK703.out) hb); have n2_ := Aside0.mk (below_step (pS HB.out) hb); clear BK702; clear BK703; clear HB; have BK702 := n0_; have BK703 := n1_; have HB := n2_; clear n0_ n1_ n2_; (try clear hb); (try clear hb2); (try clear hk); (try clear hi)))
   go_ret
   exact ⟨by first | rfl | (simp [errW_none, errW_some] <;> rfl) | (simp [*, errW_none, errW_some] <;> rfl), pS HB.out⟩
 ·rw [if_neg c3] at H
  have c3b0 : (a0_0 == a1_0) = false := beq_eq_false_iff_ne.mpr c3
  have c3b1 : (a0_0 != a1_0) = true := bne_iff_ne.mpr c3
  obtain rfl := Option.some.inj H
  go_enter Try.func29, Try.ntmps29
  go_wp2_with (first | ((with_reducible refine gate_dst (N := 2) rfl ?_); refine box_event ?hg (N := 2) ?hd (cs := #[.int .i64 a0_0, .slice A0_1 l0_1.length c0_1]) (t := 52) ?hr ?_; (case hd => rfl); (case hg => rfl); (case hr => first | (go_simp; done) | (go_simp; rfl)); intro gb702 hg w18 hbox hb; have n0_ := Aside0.mk (below_step (pB HB.out) hb); have n1_ := Aside0.mk (hbox); have n2_ := Aside0.mk ((by rw [hg]; exact (below_size (pB HB.out)) : w.heap.size ≤ gb702)); have n3_ := Aside0.mk ((by rw [hg]; exact (below_size (pB HB.out)) : w.heap.size ≤ gb702)); clear HB; have HB := n0_; have BK702 := n1_; have GW702 := n2_; have GE702 := n3_; clear n0_ n1_ n2_ n3_; clear hb hbox hg) | ((with_reducible refine gate_dst (N := 3) rfl ?_); refine box_event ?hg (N := 3) ?hd (cs := #[.int .i64 a1_0, .slice A1_1 l1_1.length c1_1]) (t := 52) ?hr ?_; (case hd => rfl); (case hg => rfl); (case hr => first | (go_simp; done) | (go_simp; rfl)); intro gb703 hg w19 hbox hb; have n0_ := Aside0.mk (blk_below (pK BK702.out) hb); have n1_ := Aside0.mk (below_step (pS HB.out) hb); have n2_ := Aside0.mk (hbox); have n3_ := Aside0.mk ((by rw [hg]; exact (below_size (pS HB.out)) : w.heap.size ≤ gb703)); have n4_ := Aside0.mk ((by rw [hg]; exact (below_size (pS HB.out)) : w.heap.size ≤ gb703)); have n5_ := Aside0.mk ((by rw [hg]; exact Nat.ne_of_lt (blk_lt (pK BK702.out)) : gb702 ≠ gb703)); have n6_ := Aside0.mk ((by rw [hg]; exact Nat.ne_of_gt (blk_lt (pK BK702.out)) : gb703 ≠ gb702)); clear BK702; clear HB; have BK702 := n0_; have HB := n1_; have BK703 := n2_; have GW703 := n3_; have GE703 := n4_; have NB702_703 := n5_; have NB703_702 := n6_; clear n0_ n1_ n2_ n3_ n4_ n5_ n6_; clear hb hbox hg; have hnb20 := NB702_703.out; have hnc20 := NB703_702.out; have hcz21_0 : w19.cell? ⟨gb702, 0, none⟩ = some (.int .i64 a0_0) := (blk_cell BK702.out 0).trans rfl; have hcz21_1 : w19.cell? ⟨gb702, 1, none⟩ = some (.slice A0_1 l0_1.length c0_1) := (blk_cell BK702.out 1).trans rfl; have hfz21_0 := blk_frozen BK702.out 0; have hfz21_1 := blk_frozen BK702.out 1; have hcz22_0 : w19.cell? ⟨gb703, 0, none⟩ = some (.int .i64 a1_0) := (blk_cell BK703.out 0).trans rfl; have hcz22_1 : w19.cell? ⟨gb703, 1, none⟩ = some (.slice A1_1 l1_1.length c1_1) := (blk_cell BK703.out 1).trans rfl; have hfz22_0 := blk_frozen BK703.out 0; have hfz22_1 := blk_frozen BK703.out 1))
  go_ret
  exact ⟨by first | rfl | (simp [errW_none, errW_some] <;> rfl) | (simp [*, errW_none, errW_some] <;> rfl), pS HB.out⟩

end Go.Proofs.Ytoieojmfkkidnaa.P
