-- printed by pprint.py (this session's program over the kit's printer) out of the translation. Lean checks it.
import Derived.Test.YthjocaegapchaaaPx0
import Derived.Test.YthjocaegapchaaaPx4
import Derived.Test.YthjocaegapchaaaPx5
namespace Go.Proofs.Ythjocaegapchaaa.P
open Go.RowKit Go.Proofs.YthjocaegapchaaaX Go.Proofs.YthjocaegapchaaaW.PrintWords Go.Proofs.YthjocaegapchaaaW.PrintLast Go.Proofs.YthjocaegapchaaaW.PrintMore
attribute [local go_sem] max2_int min2_int max_two min_two max_three min_three max_four min_four   -- for this text's walks alone
set_option linter.unusedVariables false
set_option linter.unusedSimpArgs false

/-! ### impl_WalSteps: function 28 -/
mutual
def impl_WalSteps.j0 : Nat → List ByteArray → List ByteArray → Bool → Option ((List (S61)) × Bool)
 | 0, _, _, _ => none
 | k + 1, x1, x6, x30 => if x30 = true then (some (([] : List (S61)), false)) else (impl_WalSteps.l0 k x6 ([] : List (S81)) x1 (x1.length : Int) 0)
def impl_WalSteps.l0 : Nat → List ByteArray → List (S81) → List ByteArray → Int → Int → Option ((List (S61)) × Bool)
 | 0, _, _, _, _, _ => none
 | k + 1, x6, x8, x31, x32, x33 => if x33 < x32 then (if 0 ≤ x33 then (if x33 < (x31.length : Int) then (if ((rdOf ByteArray.empty x31 x33).size : Int) > 15 then (some (([] : List (S61)), false)) else (if x33 < (x6.length : Int) then (if (rdOf ByteArray.empty x31 x33).toList = (rdOf ByteArray.empty x6 x33).toList then (impl_WalSteps.l0 k x6 x8 x31 x32 (wrap64 (x33 + 1))) else (if x8.length < 5864062014805 then (impl_WalSteps.l0 k x6 (x8 ++ [(⟨x33, rdOf ByteArray.empty x31 x33⟩ : S81)]) x31 x32 (wrap64 (x33 + 1))) else (none))) else (none))) else (none)) else (none)) else (if (x8.length : Int) = 0 then (some (([] : List (S61)), true)) else (impl_WalSteps.l1 k x8 ([] : List (S61)) x8 (x8.length : Int) 0))
def impl_WalSteps.l1 : Nat → List (S81) → List (S61) → List (S81) → Int → Int → Option ((List (S61)) × Bool)
 | 0, _, _, _, _, _ => none
 | k + 1, x8, x11, x57, x58, x59 => if x59 < x58 then (if 0 ≤ x59 then (if x59 < (x57.length : Int) then ((some (([((rd_T81 x57 x59).f0) % 256] : List Int) : List Int)).bind fun y535 => (if (strOfNums y535).size + ((rd_T81 x57 x59).f1).size ≤ 9223372036854775807 then (if x11.length < 4398046511104 then (impl_WalSteps.l1 k x8 (x11 ++ [(⟨false, wrap64 (1 + x59), (strOfNums y535) ++ ((rd_T81 x57 x59).f1)⟩ : S61)]) x57 x58 (wrap64 (x59 + 1))) else (none)) else (none))) else (none)) else (none)) else ((some (([(⟨true, 0, (⟨#[]⟩ : ByteArray)⟩ : S61), (⟨false, 0, strOfNums (([((x8.length : Int)) % 256] : List Int))⟩ : S61), (⟨true, 0, (⟨#[]⟩ : ByteArray)⟩ : S61)] : List (S61)) : List (S61))).bind fun y544 => (if x11.length + y544.length < 4398046511104 then ((impl_apply.f k x8 (x11 ++ y544)).bind fun t550 => ((impl_copied_SecStep.f t550).bind fun t553 => (some (t553, true)))) else (none)))
end
def impl_WalSteps.f (k : Nat) (l0_0 : List ByteArray) (l0_1 : List (S75)) (l1 : List ByteArray) : Option ((List (S61)) × Bool) := (impl_WalRead.f k l0_0 l0_1).bind fun bt523 => (if bt523.2 = true then ((impl_SecLook.f k l0_0 l0_1 0).bind fun t527 => (if t527.toList = ([] : List UInt8) then (impl_WalSteps.j0 k l1 bt523.1 ((l1.length : Int) != 250)) else (impl_WalSteps.j0 k l1 bt523.1 true))) else (impl_WalSteps.j0 k l1 bt523.1 true))
theorem impl_WalSteps.mono_l : ∀ k, (∀ y0 y1 y2, LeO (impl_WalSteps.j0 k y0 y1 y2) (impl_WalSteps.j0 (k + 1) y0 y1 y2)) ∧ (∀ y0 y1 y2 y3 y4, LeO (impl_WalSteps.l0 k y0 y1 y2 y3 y4) (impl_WalSteps.l0 (k + 1) y0 y1 y2 y3 y4)) ∧ (∀ y0 y1 y2 y3 y4, LeO (impl_WalSteps.l1 k y0 y1 y2 y3 y4) (impl_WalSteps.l1 (k + 1) y0 y1 y2 y3 y4))
 | 0 => ⟨fun _ _ _ r h => by simp [impl_WalSteps.j0] at h, fun _ _ _ _ _ r h => by simp [impl_WalSteps.l0] at h, fun _ _ _ _ _ r h => by simp [impl_WalSteps.l1] at h⟩
 | k + 1 => by
  obtain ⟨ih0, ih1, ih2⟩ := impl_WalSteps.mono_l k
  refine ⟨?_, ?_, ?_⟩
  ·intro y0 y1 y2
   unfold impl_WalSteps.j0
   repeat' first
   | (with_reducible exact ih0 _ _ _)
   | (with_reducible exact ih1 _ _ _ _ _)
   | (with_reducible exact ih2 _ _ _ _ _)
   | (with_reducible exact impl_SecLook.mono _ _ _ _)
   | (with_reducible exact impl_WalRead.mono _ _ _)
   | (with_reducible exact impl_apply.mono _ _ _)
   | (with_reducible exact LeO.refl _)
   | (with_reducible exact LeO.none _)
   | (with_reducible refine LeO.ite ?_ ?_)
   | (with_reducible refine LeO.bind ?_ (fun _ => ?_))
   | exact ih0 _ _ _
   | exact ih1 _ _ _ _ _
   | exact ih2 _ _ _ _ _
   | exact impl_SecLook.mono _ _ _ _
   | exact impl_WalRead.mono _ _ _
   | exact impl_apply.mono _ _ _
   | exact LeO.none _
   | refine LeO.ite ?_ ?_
   | refine LeO.bind ?_ (fun _ => ?_)
  ·intro y0 y1 y2 y3 y4
   unfold impl_WalSteps.l0
   repeat' first
   | (with_reducible exact ih0 _ _ _)
   | (with_reducible exact ih1 _ _ _ _ _)
   | (with_reducible exact ih2 _ _ _ _ _)
   | (with_reducible exact impl_SecLook.mono _ _ _ _)
   | (with_reducible exact impl_WalRead.mono _ _ _)
   | (with_reducible exact impl_apply.mono _ _ _)
   | (with_reducible exact LeO.refl _)
   | (with_reducible exact LeO.none _)
   | (with_reducible refine LeO.ite ?_ ?_)
   | (with_reducible refine LeO.bind ?_ (fun _ => ?_))
   | exact ih0 _ _ _
   | exact ih1 _ _ _ _ _
   | exact ih2 _ _ _ _ _
   | exact impl_SecLook.mono _ _ _ _
   | exact impl_WalRead.mono _ _ _
   | exact impl_apply.mono _ _ _
   | exact LeO.none _
   | refine LeO.ite ?_ ?_
   | refine LeO.bind ?_ (fun _ => ?_)
  ·intro y0 y1 y2 y3 y4
   unfold impl_WalSteps.l1
   repeat' first
   | (with_reducible exact ih0 _ _ _)
   | (with_reducible exact ih1 _ _ _ _ _)
   | (with_reducible exact ih2 _ _ _ _ _)
   | (with_reducible exact impl_SecLook.mono _ _ _ _)
   | (with_reducible exact impl_WalRead.mono _ _ _)
   | (with_reducible exact impl_apply.mono _ _ _)
   | (with_reducible exact LeO.refl _)
   | (with_reducible exact LeO.none _)
   | (with_reducible refine LeO.ite ?_ ?_)
   | (with_reducible refine LeO.bind ?_ (fun _ => ?_))
   | exact ih0 _ _ _
   | exact ih1 _ _ _ _ _
   | exact ih2 _ _ _ _ _
   | exact impl_SecLook.mono _ _ _ _
   | exact impl_WalRead.mono _ _ _
   | exact impl_apply.mono _ _ _
   | exact LeO.none _
   | refine LeO.ite ?_ ?_
   | refine LeO.bind ?_ (fun _ => ?_)
theorem impl_WalSteps.mono : ∀ a0 a1 a2 k, LeO (impl_WalSteps.f k a0 a1 a2) (impl_WalSteps.f (k + 1) a0 a1 a2) := by
 intro a0 a1 a2 k
 obtain ⟨ih0, ih1, ih2⟩ := impl_WalSteps.mono_l k
 unfold impl_WalSteps.f
 repeat' first
   | (with_reducible exact ih0 _ _ _)
   | (with_reducible exact ih1 _ _ _ _ _)
   | (with_reducible exact ih2 _ _ _ _ _)
   | (with_reducible exact impl_SecLook.mono _ _ _ _)
   | (with_reducible exact impl_WalRead.mono _ _ _)
   | (with_reducible exact impl_apply.mono _ _ _)
   | (with_reducible exact LeO.refl _)
   | (with_reducible exact LeO.none _)
   | (with_reducible refine LeO.ite ?_ ?_)
   | (with_reducible refine LeO.bind ?_ (fun _ => ?_))
   | exact ih0 _ _ _
   | exact ih1 _ _ _ _ _
   | exact ih2 _ _ _ _ _
   | exact impl_SecLook.mono _ _ _ _
   | exact impl_WalRead.mono _ _ _
   | exact impl_apply.mono _ _ _
   | exact LeO.none _
   | refine LeO.ite ?_ ?_
   | refine LeO.bind ?_ (fun _ => ?_)
set_option maxHeartbeats 8000000 in
set_option maxRecDepth 100000 in
theorem impl_WalSteps.calls (k : Nat) (A0_0 : Option Addr) (c0_0 : Nat) (l0_0 : List ByteArray) (A0_1 : Option Addr) (c0_1 : Nat) (l0_1 : List (S75)) (A1 : Option Addr) (c1 : Nat) (l1 : List ByteArray) (r1 : List (S61)) (r2 : Bool) (w : World) (hr0_0 : Kd.C Kd.string w A0_0 l0_0.length l0_0) (hc0_0 : l0_0.length ≤ c0_0) (hr0_1 : Kd.C k75 w A0_1 l0_1.length l0_1) (hc0_1 : l0_1.length ≤ c0_1) (hr1 : Kd.C Kd.string w A1 l1.length l1) (hc1 : l1.length ≤ c1) (h : impl_WalSteps.f k l0_0 l0_1 l1 = some (r1, r2)) :
  Calls Try.prog 28 #[.agg #[.slice A0_0 l0_0.length c0_0, .slice A0_1 l0_1.length c0_1], .slice A1 l1.length c1] w fun e w' => ∃ v0_ : Value, e = .returned (.tuple #[v0_, .bool r2]) ∧ Kd.R k61 61 w' w.heap.size (fun _ => True) v0_ r1 ∧ Below w.heap.size w w' := by
 have hu31 := Try.underlying31
 have hu81 := Try.underlying81
 have hu61 := Try.underlying61
 have HR0_0 := Aside0.mk hr0_0
 have HC0_0 := Aside0.mk hc0_0
 clear hr0_0 hc0_0
 have HR0_1 := Aside0.mk hr0_1
 have HC0_1 := Aside0.mk hc0_1
 clear hr0_1 hc0_1
 have HR1 := Aside0.mk hr1
 have HC1 := Aside0.mk hc1
 clear hr1 hc1
 have HB := Aside0.mk (Below.refl w.heap.size w)
 have H : ((impl_WalRead.f k l0_0 l0_1).bind fun bt523 => (if bt523.2 = true then ((impl_SecLook.f k l0_0 l0_1 0).bind fun t527 => (if t527.toList = ([] : List UInt8) then (impl_WalSteps.j0 k l1 bt523.1 ((l1.length : Int) != 250)) else (impl_WalSteps.j0 k l1 bt523.1 true))) else (impl_WalSteps.j0 k l1 bt523.1 true))) = some (r1, r2) := h
 clear h
 replace H := Option.bind_eq_some_iff.mp H
 obtain ⟨⟨t523, t526⟩, A30, H⟩ := H
 replace H : (if t526 = true then ((impl_SecLook.f k l0_0 l0_1 0).bind fun t527 => (if t527.toList = ([] : List UInt8) then (impl_WalSteps.j0 k l1 t523 ((l1.length : Int) != 250)) else (impl_WalSteps.j0 k l1 t523 true))) else (impl_WalSteps.j0 k l1 t523 true)) = some (r1, r2) := H
 have A3 := Aside0.mk A30
 clear A30
 have HC4 := Aside0.mk H
 clear H
 go_enter Try.func28, Try.ntmps28
 go_upto_region 2 with (first | ((with_reducible refine gate_dst (N := 2) rfl ?_); (try (refine gate_guard (by rfl) ?_; dsimp only)); refine box_event ?hg (N := 2) ?hd (cs := #[.slice A0_0 l0_0.length c0_0, .slice A0_1 l0_1.length c0_1]) (t := 31) ?hr ?_; (case hd => rfl); (case hg => rfl); (case hr => first | (go_simp; done) | (go_simp; rfl)); intro gb522 hg w5 hbox hb; have n0_ := Aside0.mk (below_step (pB HB.out) hb); have n1_ := Aside0.mk (hbox); have n2_ := Aside0.mk ((by rw [hg]; exact (below_size (pB HB.out)) : w.heap.size ≤ gb522)); have n3_ := Aside0.mk ((by rw [hg]; exact (below_size (pB HB.out)) : w.heap.size ≤ gb522)); clear HB; have HB := n0_; have BK522 := n1_; have GW522 := n2_; have GE522 := n3_; clear n0_ n1_ n2_ n3_; clear hb hbox hg; have hcz6_0 : w5.cell? ⟨gb522, 0, none⟩ = some (.slice A0_0 l0_0.length c0_0) := (blk_cell BK522.out 0).trans rfl; have hcz6_1 : w5.cell? ⟨gb522, 1, none⟩ = some (.slice A0_1 l0_1.length c0_1) := (blk_cell BK522.out 1).trans rfl; have hfz6_0 := blk_frozen BK522.out 0; have hfz6_1 := blk_frozen BK522.out 1) | ((with_reducible refine gate_callee (f := 14) rfl ?_); refine goesL_ (some 16) rfl rfl Try.func14 (by kernel_rfl) rfl #[.agg #[.slice A0_0 l0_0.length c0_0, .slice A0_1 l0_1.length c0_1]] rfl bM ?_; (with_reducible refine (impl_WalRead.calls k _ _ l0_0 _ _ l0_1 t523 t526 _ ?side1 ?side2 ?side3 ?side4 A3.out).mono ?_); (case side1 => exact pC (Kd.C_below HR0_0.out HB.out)); (case side2 => exact HC0_0.out); (case side3 => exact pC (Kd.C_below HR0_1.out HB.out)); (case side4 => exact HC0_1.out); rintro e w7 ⟨v524, rfl, ho0, hb⟩; refine ⟨_, rfl, ?_⟩; have n0_ := Aside0.mk (Kd.R_lower ho0 (below_size (pS HB.out))); have n1_ := Aside0.mk (blk_below (pK BK522.out) hb); have n2_ := Aside0.mk (below_step (pS HB.out) hb); clear BK522; clear HB; have HO525 := n0_; have BK522 := n1_; have HB := n2_; clear n0_ n1_ n2_; (try clear hb); (try clear hb2); (try clear hk); (try clear hi); (try clear ho0)))
 (try simp only [Act.put, List.setIfInBounds_toArray, List.set_cons_zero, List.set_cons_succ])
 go_cut [30] (fun v30 wc => ∃ (kq : Nat) (x30_3 : Bool), v30 = .bool x30_3 ∧ Aside0 (impl_WalSteps.j0 kq l1 t523 x30_3 = some (r1, r2)) ∧ Aside0 (kq ≤ k) ∧ Aside0 (Kd.R Kd.string 9 wc w.heap.size (fun _ => True) v524 t523) ∧ Aside0 (wc.heap[gb522]? = some (.cells #[(.slice A0_0 l0_0.length c0_0), (.slice A0_1 l0_1.length c0_1)] 31 (0, 0))) ∧ Aside0 (Below w.heap.size w wc))
 case first =>
  have H := HC4.out
  clear HC4
  by_cases c8 : t526 = true
  ·subst c8
   have H1 : ((impl_SecLook.f k l0_0 l0_1 0).bind fun t527 => (if t527.toList = ([] : List UInt8) then (impl_WalSteps.j0 k l1 t523 ((l1.length : Int) != 250)) else (impl_WalSteps.j0 k l1 t523 true))) = some (r1, r2) := by rw [if_pos rfl] at H; exact H
   clear H
   have H := H1
   clear H1
   replace H := Option.bind_eq_some_iff.mp H
   obtain ⟨t527, A90, H⟩ := H
   replace H : (if t527.toList = ([] : List UInt8) then (impl_WalSteps.j0 k l1 t523 ((l1.length : Int) != 250)) else (impl_WalSteps.j0 k l1 t523 true)) = some (r1, r2) := H
   have A9 := Aside0.mk A90
   clear A90
   by_cases c10 : t527.toList = ([] : List UInt8)
   ·rw [if_pos c10] at H
    have c10b0 : (t527.toList == ([] : List UInt8)) = true := beq_iff_eq.mpr c10
    have c10b1 : (t527.toList != ([] : List UInt8)) = false := bne_eq_false_iff_eq.mpr c10
    clear c10
    (first | rw [c10b0] | (simp only [i64_w, i32_w]; rw [c10b0]) | skip)
    have H' := Aside0.mk H
    clear H
    have hcz11_0 : w7.cell? ⟨gb522, 0, none⟩ = some (.slice A0_0 l0_0.length c0_0) := (blk_cell BK522.out 0).trans rfl
    have hcz11_1 : w7.cell? ⟨gb522, 1, none⟩ = some (.slice A0_1 l0_1.length c0_1) := (blk_cell BK522.out 1).trans rfl
    have hfz11_0 := blk_frozen BK522.out 0
    have hfz11_1 := blk_frozen BK522.out 1
    go_wp2_with (first | (go_at_call 40; (with_reducible refine (impl_SecLook.calls k _ _ l0_0 _ _ l0_1 0 t527 _ ?side1 ?side2 ?side3 ?side4 A9.out).mono ?_); (case side1 => exact pC (Kd.C_below HR0_0.out HB.out)); (case side2 => exact HC0_0.out); (case side3 => exact pC (Kd.C_below HR0_1.out HB.out)); (case side4 => exact HC0_1.out); rintro e w12 ⟨rfl, hb⟩; have n0_ := Aside0.mk (Kd.R_below (pR HO525.out) hb); have n1_ := Aside0.mk (blk_below (pK BK522.out) hb); have n2_ := Aside0.mk (below_step (pS HB.out) hb); clear HO525; clear BK522; clear HB; have HO525 := n0_; have BK522 := n1_; have HB := n2_; clear n0_ n1_ n2_; (try clear hb); (try clear hb2); (try clear hk); (try clear hi)))
    go_meet
    case rel => exact ⟨_, (((l1.length : Int) != 250)), (by first | rfl | (simp; done) | (simp [*]; done)), H', ⟨by first | omega | exact Nat.le_refl _⟩, ⟨pR HO525.out⟩, ⟨pK BK522.out⟩, ⟨pS HB.out⟩⟩
   ·rw [if_neg c10] at H
    have c10b0 : (t527.toList == ([] : List UInt8)) = false := beq_eq_false_iff_ne.mpr c10
    have c10b1 : (t527.toList != ([] : List UInt8)) = true := bne_iff_ne.mpr c10
    (first | rw [c10b0] | (simp only [i64_w, i32_w]; rw [c10b0]) | skip)
    have H' := Aside0.mk H
    clear H
    have hcz13_0 : w7.cell? ⟨gb522, 0, none⟩ = some (.slice A0_0 l0_0.length c0_0) := (blk_cell BK522.out 0).trans rfl
    have hcz13_1 : w7.cell? ⟨gb522, 1, none⟩ = some (.slice A0_1 l0_1.length c0_1) := (blk_cell BK522.out 1).trans rfl
    have hfz13_0 := blk_frozen BK522.out 0
    have hfz13_1 := blk_frozen BK522.out 1
    go_wp2_with (first | (go_at_call 40; (with_reducible refine (impl_SecLook.calls k _ _ l0_0 _ _ l0_1 0 t527 _ ?side1 ?side2 ?side3 ?side4 A9.out).mono ?_); (case side1 => exact pC (Kd.C_below HR0_0.out HB.out)); (case side2 => exact HC0_0.out); (case side3 => exact pC (Kd.C_below HR0_1.out HB.out)); (case side4 => exact HC0_1.out); rintro e w14 ⟨rfl, hb⟩; have n0_ := Aside0.mk (Kd.R_below (pR HO525.out) hb); have n1_ := Aside0.mk (blk_below (pK BK522.out) hb); have n2_ := Aside0.mk (below_step (pS HB.out) hb); clear HO525; clear BK522; clear HB; have HO525 := n0_; have BK522 := n1_; have HB := n2_; clear n0_ n1_ n2_; (try clear hb); (try clear hb2); (try clear hk); (try clear hi)))
    go_meet
    case rel => exact ⟨_, (true), (by first | rfl | (simp; done) | (simp [*]; done)), H', ⟨by first | omega | exact Nat.le_refl _⟩, ⟨pR HO525.out⟩, ⟨pK BK522.out⟩, ⟨pS HB.out⟩⟩
  ·replace c8 := Bool.eq_false_iff.mpr c8
   subst c8
   have H1 : (impl_WalSteps.j0 k l1 t523 true) = some (r1, r2) := by rw [if_neg (show ¬ (false = true) by decide)] at H; exact H
   clear H
   have H := H1
   clear H1
   have H' := Aside0.mk H
   clear H
   go_wp2
   go_meet
   case rel => exact ⟨_, (true), (by first | rfl | (simp; done) | (simp [*]; done)), H', ⟨by first | omega | exact Nat.le_refl _⟩, ⟨pR HO525.out⟩, ⟨pK BK522.out⟩, ⟨pS HB.out⟩⟩
 case rest =>
  clear HC4
  try clear c1
  try clear c2
  try clear p2
  try clear c8
  try clear c10
  try clear c10b0
  try clear c10b1
  try clear c14
  try clear hcz11_0
  try clear hcz11_1
  try clear hcz13_0
  try clear hcz13_1
  try clear hcz6_0
  try clear hcz6_1
  try clear hfz11_0
  try clear hfz11_1
  try clear hfz13_0
  try clear hfz13_1
  try clear hfz6_0
  try clear hfz6_1
  obtain ⟨kq, x30_3, rfl, HA, HJ3, HO_6, BK522, HB⟩ := hcut
  cases kq with
  | zero => exact absurd HA.out (by simp [impl_WalSteps.j0])
  | succ kj3 =>
   have H := HA.out
   clear HA
   simp only [impl_WalSteps.j0] at H
   by_cases c15 : x30_3 = true
   ·subst c15
    have H1 : (some (([] : List (S61)), false)) = some (r1, r2) := by rw [if_pos rfl] at H; exact H
    clear H
    have H := H1
    clear H1
    simp only [Option.some.injEq, Prod.mk.injEq] at H
    obtain ⟨rfl, rfl⟩ := H
    go_wp2
    go_ret2
    exact ⟨_, by first | rfl | (simp [errW_none, errW_some] <;> rfl) | (simp [*, errW_none, errW_some] <;> rfl), by first | exact Kd.R_nil _ _ _ _ _ | exact Kd.N_nil _ _ _ _ _ | exact Kd.V_nil _ _ _ _ _ | exact Kd.Q_nil _ _ _ _ _ | exact Kd.S_nil _ _ _ _ _, pS HB.out⟩
   ·replace c15 := Bool.eq_false_iff.mpr c15
    subst c15
    have H1 : (impl_WalSteps.l0 kj3 t523 ([] : List (S81)) l1 (l1.length : Int) 0) = some (r1, r2) := by rw [if_neg (show ¬ (false = true) by decide)] at H; exact H
    clear H
    have H := H1
    clear H1
    have H' := Aside0.mk H
    clear H
    go_wp2
    go_loopg [8, 33] kj3 (fun kq v8 v33 w' => ∃ (x8_2 : List (S81)) (x33_2 : Int), v33 = .int .i64 x33_2 ∧ Aside0 (impl_WalSteps.l0 kq t523 x8_2 l1 (l1.length : Int) x33_2 = some (r1, r2)) ∧ Aside0 (kq ≤ kj3) ∧ Aside0 (Kd.R Kd.string 9 w' w.heap.size (fun _ => True) v524 t523) ∧ Aside0 (Kd.R k81 81 w' w.heap.size (fun _ => True) v8 x8_2) ∧ Aside0 (w'.heap[gb522]? = some (.cells #[(.slice A0_0 l0_0.length c0_0), (.slice A0_1 l0_1.length c0_1)] 31 (0, 0))) ∧ Aside0 (Below w.heap.size w w'))
    case atStart => exact ⟨(([] : List (S81))), (0), (by first | rfl | (simp; done) | (simp [*]; done)), H', ⟨Nat.le_refl _⟩, ⟨pR HO_6.out⟩, ⟨by first | exact Kd.R_nil _ _ _ _ _ | exact Kd.N_nil _ _ _ _ _ | exact Kd.V_nil _ _ _ _ _ | exact Kd.Q_nil _ _ _ _ _ | exact Kd.S_nil _ _ _ _ _⟩, ⟨pK BK522.out⟩, ⟨pS HB.out⟩⟩
    case round =>
     clear H'
     try clear c1
     try clear c2
     try clear p2
     try clear c8
     try clear c10
     try clear c10b0
     try clear c10b1
     try clear c14
     try clear c15
     try clear hcz11_0
     try clear hcz11_1
     try clear hcz13_0
     try clear hcz13_1
     try clear hcz6_0
     try clear hcz6_1
     try clear hfz11_0
     try clear hfz11_1
     try clear hfz13_0
     try clear hfz13_1
     try clear hfz6_0
     try clear hfz6_1
     try clear p2
     obtain ⟨x8_2, x33_2, rfl, HA, HK2, HO_6, HO_8, BK522, HB⟩ := hrel
     cases gk with
     | zero => exact absurd HA.out (by simp [impl_WalSteps.l0])
     | succ k2 =>
      have H := HA.out
      clear HA
      simp only [impl_WalSteps.l0] at H
      by_cases c16 : x33_2 < (l1.length : Int)
      ·rw [if_pos c16] at H
       have c16b0 : decide (x33_2 < (l1.length : Int)) = true := decide_eq_true c16
       clear c16
       by_cases c17 : 0 ≤ x33_2
       ·rw [if_pos c17] at H
        have c17b0 : decide (0 ≤ x33_2) = true := decide_eq_true c17
        clear c17
        by_cases c18 : x33_2 < (l1.length : Int)
        ·rw [if_pos c18] at H
         have c18b0 : decide (x33_2 < (l1.length : Int)) = true := decide_eq_true c18
         clear c18
         by_cases c19 : ((rdOf ByteArray.empty l1 x33_2).size : Int) > 15
         ·rw [if_pos c19] at H
          have c19b0 : decide (15 < ((rdOf ByteArray.empty l1 x33_2).size : Int)) = true := decide_eq_true c19
          have c19b1 : decide (15 < (rdOf ByteArray.empty l1 x33_2).size) = true := decide_eq_true (by omega)
          clear c19
          simp only [Option.some.injEq, Prod.mk.injEq] at H
          obtain ⟨rfl, rfl⟩ := H
          have p528 : 0 ≤ (x33_2 : Int) := of_decide_eq_true bA
          have q528 : x33_2 < (l1.length : Int) := of_decide_eq_true bA
          obtain ⟨ad528, e528, hx528_0⟩ := Kd.at_string HR1.out x33_2 p528 q528
          cases e528
          replace hx528_0 := (HB.out.cell (World.block_lt_of_cell? w _ hx528_0)).trans hx528_0
          replace p528 := eq_true p528
          replace q528 := eq_true q528
          go_wp2
          go_ret2
          exact ⟨_, by first | rfl | (simp [errW_none, errW_some] <;> rfl) | (simp [*, errW_none, errW_some] <;> rfl), by first | exact Kd.R_nil _ _ _ _ _ | exact Kd.N_nil _ _ _ _ _ | exact Kd.V_nil _ _ _ _ _ | exact Kd.Q_nil _ _ _ _ _ | exact Kd.S_nil _ _ _ _ _, pS HB.out⟩
         ·rw [if_neg c19] at H
          have c19b0 : decide (15 < ((rdOf ByteArray.empty l1 x33_2).size : Int)) = false := decide_eq_false c19
          have c19b1 : decide (15 < (rdOf ByteArray.empty l1 x33_2).size) = false := decide_eq_false (by omega)
          clear c19
          by_cases c20 : x33_2 < (t523.length : Int)
          ·rw [if_pos c20] at H
           have c20b0 : decide (x33_2 < (t523.length : Int)) = true := decide_eq_true c20
           clear c20
           by_cases c21 : (rdOf ByteArray.empty l1 x33_2).toList = (rdOf ByteArray.empty t523 x33_2).toList
           ·rw [if_pos c21] at H
            have c21b0 : ((rdOf ByteArray.empty l1 x33_2).toList == (rdOf ByteArray.empty t523 x33_2).toList) = true := beq_iff_eq.mpr c21
            have c21b1 : ((rdOf ByteArray.empty l1 x33_2).toList != (rdOf ByteArray.empty t523 x33_2).toList) = false := bne_eq_false_iff_eq.mpr c21
            clear c21
            have H' := Aside0.mk H
            clear H
            have p528 : 0 ≤ (x33_2 : Int) := of_decide_eq_true bA
            have q528 : x33_2 < (l1.length : Int) := of_decide_eq_true bA
            obtain ⟨ad528, e528, hx528_0⟩ := Kd.at_string HR1.out x33_2 p528 q528
            cases e528
            replace hx528_0 := (HB.out.cell (World.block_lt_of_cell? w _ hx528_0)).trans hx528_0
            replace p528 := eq_true p528
            replace q528 := eq_true q528
            obtain ⟨Ao22, co22, eo22⟩ := Kd.R_slice HO_6.out
            subst eo22
            have p529 : 0 ≤ (x33_2 : Int) := of_decide_eq_true bA
            have q529 : x33_2 < (t523.length : Int) := of_decide_eq_true bA
            obtain ⟨ad529, e529, hx529_0⟩ := Kd.at_string (Kd.R_reads' HO_6.out).2.2 x33_2 p529 q529
            cases e529
            replace p529 := eq_true p529
            replace q529 := eq_true q529
            go_wp2
            go_roundg k2
            case measure => have := HJ3.out; have := HK2.out; omega
            case rel => exact ⟨(x8_2), (wrap64 (x33_2 + 1)), (by first | rfl | (simp; done) | (simp [*]; done)), H', ⟨by have := HJ3.out; have := HK2.out; omega⟩, ⟨pR HO_6.out⟩, ⟨pR HO_8.out⟩, ⟨pK BK522.out⟩, ⟨pS HB.out⟩⟩
           ·rw [if_neg c21] at H
            have c21b0 : ((rdOf ByteArray.empty l1 x33_2).toList == (rdOf ByteArray.empty t523 x33_2).toList) = false := beq_eq_false_iff_ne.mpr c21
            have c21b1 : ((rdOf ByteArray.empty l1 x33_2).toList != (rdOf ByteArray.empty t523 x33_2).toList) = true := bne_iff_ne.mpr c21
            by_cases c23 : x8_2.length < 5864062014805
            ·rw [if_pos c23] at H
             have LMc23 := Aside0.mk c23
             clear c23
             obtain ⟨y530, hy530⟩ : ∃ y_ : List (S81), y_ = (x8_2 ++ [(⟨x33_2, rdOf ByteArray.empty l1 x33_2⟩ : S81)]) := ⟨_, rfl⟩
             replace H : (impl_WalSteps.l0 k2 t523 y530 l1 (l1.length : Int) (wrap64 (x33_2 + 1))) = some (r1, r2) := by first | (rw [hy530]; with_reducible exact H) | (have H2_ := (Option.bind_some _ _).symm.trans H; rw [hy530]; with_reducible exact H2_) | (have H2_ := (Option.bind_some _ _).symm.trans H; with_reducible exact H2_) | with_reducible exact H | (rw [hy530]; exact H) | exact H
             have Ny530 := Aside0.mk hy530
             clear hy530
             have H' := Aside0.mk H
             clear H
             have p528 : 0 ≤ (x33_2 : Int) := of_decide_eq_true bA
             have q528 : x33_2 < (l1.length : Int) := of_decide_eq_true bA
             obtain ⟨ad528, e528, hx528_0⟩ := Kd.at_string HR1.out x33_2 p528 q528
             cases e528
             replace hx528_0 := (HB.out.cell (World.block_lt_of_cell? w _ hx528_0)).trans hx528_0
             replace p528 := eq_true p528
             replace q528 := eq_true q528
             obtain ⟨Ao24, co24, eo24⟩ := Kd.R_slice HO_6.out
             subst eo24
             have p529 : 0 ≤ (x33_2 : Int) := of_decide_eq_true bA
             have q529 : x33_2 < (t523.length : Int) := of_decide_eq_true bA
             obtain ⟨ad529, e529, hx529_0⟩ := Kd.at_string (Kd.R_reads' HO_6.out).2.2 x33_2 p529 q529
             cases e529
             replace p529 := eq_true p529
             replace q529 := eq_true q529
             go_wp2_with (first | ((with_reducible refine gate_builtin (b := .append) (xs := #[.tmp 47, .tmp 51]) rfl ?_); (try (refine gate_guard (by rfl) ?_; dsimp only)); at_builtin; refine Kd.R_append k81 (w0 := w) w.heap.size rfl (.tmp 47) (.tmp 51) 77 81 (.agg #[(.int .i64 0), (.string ⟨#[]⟩)]) 24 rfl Try.underlying77 info81 rfl (by decide) (by omega) u8 x8_2 (⟨x33_2, rdOf ByteArray.empty l1 x33_2⟩ : S81) [.int .i64 x33_2, .string (rdOf ByteArray.empty l1 x33_2)] (fun _ => True) (fun _ => False) rfl rfl ?aP (fun _ hk => hk.elim) ?aF ?aO ?aB ?aS ?aL ?_; (case aP => exact k81_mkM _ _ _ (⟨x33_2, rdOf ByteArray.empty l1 x33_2⟩ : S81)); (case aB => exact (pS HB.out)); (case aF => exact (fun _ _ => trivial)); (case aO => exact (pR HO_8.out)); (case aS => exact (below_size (pS HB.out))); (case aL => have := LMc23.out; omega); intro v531 w25 ho hb hg hat; rw [← Ny530.out] at ho; have n0_ := Aside0.mk (Kd.R_over' (pR HO_6.out) (Kd.R_typed (pR HO_8.out)) (by decide) hg); have n1_ := Aside0.mk (blk_grown (g := gb522) (o := .cells #[.slice A0_0 l0_0.length c0_0, .slice A0_1 l0_1.length c0_1] 31 (0, 0)) (pK BK522.out) hg (Kd.R_ne HO_8.out BK522.out (by decide))); have n2_ := Aside0.mk (hb); have n3_ := Aside0.mk (ho); clear HO_6; clear BK522; clear HB; clear HO_8; have HO_6 := n0_; have BK522 := n1_; have HB := n2_; have HO532 := n3_; clear n0_ n1_ n2_ n3_; clear ho hb hg hat))
             go_roundg k2
             case measure => have := HJ3.out; have := HK2.out; omega
             case rel => exact ⟨(y530), (wrap64 (x33_2 + 1)), (by first | rfl | (simp; done) | (simp [*]; done)), H', ⟨by have := HJ3.out; have := HK2.out; omega⟩, ⟨pR HO_6.out⟩, ⟨pR HO532.out⟩, ⟨pK BK522.out⟩, ⟨pS HB.out⟩⟩
            ·rw [if_neg c23] at H
             exact absurd H (by simp)
          ·rw [if_neg c20] at H
           exact absurd H (by simp)
        ·rw [if_neg c18] at H
         exact absurd H (by simp)
       ·rw [if_neg c17] at H
        exact absurd H (by simp)
      ·rw [if_neg c16] at H
       have c16b0 : decide (x33_2 < (l1.length : Int)) = false := decide_eq_false c16
       clear c16
       by_cases c26 : (x8_2.length : Int) = 0
       ·rw [if_pos c26] at H
        have c26b0 : ((x8_2.length : Int) == 0) = true := beq_iff_eq.mpr c26
        have c26b1 : ((x8_2.length : Int) != 0) = false := bne_eq_false_iff_eq.mpr c26
        clear c26
        simp only [Option.some.injEq, Prod.mk.injEq] at H
        obtain ⟨rfl, rfl⟩ := H
        obtain ⟨Ao27, co27, eo27⟩ := Kd.R_slice HO_8.out
        subst eo27
        go_wp2
        go_ret2
        exact ⟨_, by first | rfl | (simp [errW_none, errW_some] <;> rfl) | (simp [*, errW_none, errW_some] <;> rfl), by first | exact Kd.R_nil _ _ _ _ _ | exact Kd.N_nil _ _ _ _ _ | exact Kd.V_nil _ _ _ _ _ | exact Kd.Q_nil _ _ _ _ _ | exact Kd.S_nil _ _ _ _ _, pS HB.out⟩
       ·rw [if_neg c26] at H
        have c26b0 : ((x8_2.length : Int) == 0) = false := beq_eq_false_iff_ne.mpr c26
        have c26b1 : ((x8_2.length : Int) != 0) = true := bne_iff_ne.mpr c26
        have c26b2 : ¬ (x8_2 = []) := fun h_ => c26 (by rw [h_]; rfl)
        have H' := Aside0.mk H
        clear H
        obtain ⟨Ao28, co28, eo28⟩ := Kd.R_slice HO_8.out
        subst eo28
        go_wp2
        go_loopg [11, 59] k2 (fun kq v11 v59 w' => ∃ (x11_3 : List (S61)) (x59_3 : Int), v59 = .int .i64 x59_3 ∧ Aside0 (impl_WalSteps.l1 kq x8_2 x11_3 x8_2 (x8_2.length : Int) x59_3 = some (r1, r2)) ∧ Aside0 (kq ≤ k2) ∧ Aside0 (Kd.R k81 81 w' w.heap.size (fun _ => True) (.slice Ao28 x8_2.length co28) x8_2) ∧ Aside0 (Kd.R k61 61 w' w.heap.size (fun _ => True) v11 x11_3) ∧ Aside0 (Kd.R k81 81 w' w.heap.size (fun _ => True) (.slice Ao28 x8_2.length co28) x8_2) ∧ Aside0 (w'.heap[gb522]? = some (.cells #[(.slice A0_0 l0_0.length c0_0), (.slice A0_1 l0_1.length c0_1)] 31 (0, 0))) ∧ Aside0 (Below w.heap.size w w'))
        case atStart => exact ⟨(([] : List (S61))), (0), (by first | rfl | (simp; done) | (simp [*]; done)), H', ⟨Nat.le_refl _⟩, ⟨pR HO_8.out⟩, ⟨by first | exact Kd.R_nil _ _ _ _ _ | exact Kd.N_nil _ _ _ _ _ | exact Kd.V_nil _ _ _ _ _ | exact Kd.Q_nil _ _ _ _ _ | exact Kd.S_nil _ _ _ _ _⟩, ⟨pR HO_8.out⟩, ⟨pK BK522.out⟩, ⟨pS HB.out⟩⟩
        case round =>
         clear H'
         try clear c1
         try clear c2
         try clear p2
         try clear p5
         try clear q5
         try clear hx5
         try clear p6
         try clear c8
         try clear c10
         try clear c10b0
         try clear c10b1
         try clear c14
         try clear c15
         try clear c16
         try clear c16b0
         try clear c17
         try clear c17b0
         try clear c18
         try clear c18b0
         try clear c19
         try clear c19b0
         try clear c19b1
         try clear c20
         try clear c20b0
         try clear c21
         try clear c21b0
         try clear c21b1
         try clear c23
         try clear c26
         try clear c26b0
         try clear c26b1
         try clear c26b2
         try clear c28
         try clear hcz11_0
         try clear hcz11_1
         try clear hcz13_0
         try clear hcz13_1
         try clear hcz6_0
         try clear hcz6_1
         try clear hfz11_0
         try clear hfz11_1
         try clear hfz13_0
         try clear hfz13_1
         try clear hfz6_0
         try clear hfz6_1
         try clear hx528_0
         try clear hx529_0
         try clear p2
         try clear p528
         try clear p529
         try clear q528
         try clear q529
         obtain ⟨x11_3, x59_3, rfl, HA, HK3, HO_8, HO_11, HO_57, BK522, HB⟩ := hrel
         cases gk with
         | zero => exact absurd HA.out (by simp [impl_WalSteps.l1])
         | succ k3 =>
          have H := HA.out
          clear HA
          simp only [impl_WalSteps.l1] at H
          by_cases c29 : x59_3 < (x8_2.length : Int)
          ·rw [if_pos c29] at H
           have c29b0 : decide (x59_3 < (x8_2.length : Int)) = true := decide_eq_true c29
           clear c29
           by_cases c30 : 0 ≤ x59_3
           ·rw [if_pos c30] at H
            have c30b0 : decide (0 ≤ x59_3) = true := decide_eq_true c30
            clear c30
            by_cases c31 : x59_3 < (x8_2.length : Int)
            ·rw [if_pos c31] at H
             have c31b0 : decide (x59_3 < (x8_2.length : Int)) = true := decide_eq_true c31
             clear c31
             obtain ⟨y535, hy535⟩ : ∃ y_ : List Int, y_ = (([((rd_T81 x8_2 x59_3).f0) % 256] : List Int)) := ⟨_, rfl⟩
             replace H : (if (strOfNums y535).size + ((rd_T81 x8_2 x59_3).f1).size ≤ 9223372036854775807 then (if x11_3.length < 4398046511104 then (impl_WalSteps.l1 k3 x8_2 (x11_3 ++ [(⟨false, wrap64 (1 + x59_3), (strOfNums y535) ++ ((rd_T81 x8_2 x59_3).f1)⟩ : S61)]) x8_2 (x8_2.length : Int) (wrap64 (x59_3 + 1))) else (none)) else (none)) = some (r1, r2) := by first | (rw [hy535]; with_reducible exact H) | (have H2_ := (Option.bind_some _ _).symm.trans H; rw [hy535]; with_reducible exact H2_) | (have H2_ := (Option.bind_some _ _).symm.trans H; with_reducible exact H2_) | with_reducible exact H | (rw [hy535]; exact H) | exact H
             have Ny535 := Aside0.mk hy535
             clear hy535
             by_cases c32 : (strOfNums y535).size + ((rd_T81 x8_2 x59_3).f1).size ≤ 9223372036854775807
             ·rw [if_pos c32] at H
              have c32b0 := eq_true c32
              have c32b1 : decide ((strOfNums y535).size + ((rd_T81 x8_2 x59_3).f1).size ≤ 9223372036854775807) = true := decide_eq_true c32
              try have c32b2 : (9223372036854775807 < (strOfNums y535).size + ((rd_T81 x8_2 x59_3).f1).size) = False := eq_false (Nat.not_lt.2 c32)
              by_cases c33 : x11_3.length < 4398046511104
              ·rw [if_pos c33] at H
               have LMc33 := Aside0.mk c33
               clear c33
               obtain ⟨y538, hy538⟩ : ∃ y_ : List (S61), y_ = (x11_3 ++ [(⟨false, wrap64 (1 + x59_3), (strOfNums y535) ++ ((rd_T81 x8_2 x59_3).f1)⟩ : S61)]) := ⟨_, rfl⟩
               replace H : (impl_WalSteps.l1 k3 x8_2 y538 x8_2 (x8_2.length : Int) (wrap64 (x59_3 + 1))) = some (r1, r2) := by first | (rw [hy538]; with_reducible exact H) | (have H2_ := (Option.bind_some _ _).symm.trans H; rw [hy538]; with_reducible exact H2_) | (have H2_ := (Option.bind_some _ _).symm.trans H; with_reducible exact H2_) | with_reducible exact H | (rw [hy538]; exact H) | exact H
               have Ny538 := Aside0.mk hy538
               clear hy538
               have H' := Aside0.mk H
               clear H
               have p533 : 0 ≤ (x59_3 : Int) := of_decide_eq_true bA
               have q533 : x59_3 < (x8_2.length : Int) := of_decide_eq_true bA
               obtain ⟨ad533, e533, hx533_0, hx533_1⟩ := at_T81 (Kd.R_reads' HO_57.out).2.2 x59_3 p533 q533
               cases e533
               replace p533 := eq_true p533
               replace q533 := eq_true q533
               go_wp2_with (first | ((with_reducible refine gate_dst (N := 13) rfl ?_); (try (refine gate_guard (by rfl) ?_; dsimp only)); refine box_event ?hg (N := 13) ?hd (cs := #[.int .i64 0, .string (⟨#[]⟩ : ByteArray)]) (t := 81) ?hr ?_; (case hd => rfl); (case hg => rfl); (case hr => first | (go_simp; done) | (go_simp; rfl)); intro gb534 hg w34 hbox hb; have n0_ := Aside0.mk (Kd.R_below (Kd.R_elderB (pR HO_8.out) gb534 (Nat.le_of_eq hg.symm)) hb); have n1_ := Aside0.mk (Kd.R_below (pR HO_11.out) hb); have n2_ := Aside0.mk (Kd.R_below (Kd.R_elderB (pR HO_57.out) gb534 (Nat.le_of_eq hg.symm)) hb); have n3_ := Aside0.mk (blk_below (pK BK522.out) hb); have n4_ := Aside0.mk (below_step (pS HB.out) hb); have n5_ := Aside0.mk (hbox); have n6_ := Aside0.mk ((by rw [hg]; exact (below_size (pS HB.out)) : w.heap.size ≤ gb534)); have n7_ := Aside0.mk ((by rw [hg]; exact (below_size (pS HB.out)) : w.heap.size ≤ gb534)); have n8_ := Aside0.mk ((by rw [hg]; exact Nat.ne_of_lt (blk_lt (pK BK522.out)) : gb522 ≠ gb534)); have n9_ := Aside0.mk ((by rw [hg]; exact Nat.ne_of_gt (blk_lt (pK BK522.out)) : gb534 ≠ gb522)); clear HO_8; clear HO_11; clear HO_57; clear BK522; clear HB; have HO_8 := n0_; have HO_11 := n1_; have HO_57 := n2_; have BK522 := n3_; have HB := n4_; have BK534 := n5_; have GW534 := n6_; have GE534 := n7_; have NB522_534 := n8_; have NB534_522 := n9_; clear n0_ n1_ n2_ n3_ n4_ n5_ n6_ n7_ n8_ n9_; clear hb hbox hg; have hnb35 := NB534_522.out; have hnc35 := NB522_534.out; have hcz36_0 : w34.cell? ⟨gb534, 0, none⟩ = some (.int .i64 0) := (blk_cell BK534.out 0).trans rfl; have hcz36_1 : w34.cell? ⟨gb534, 1, none⟩ = some (.string (⟨#[]⟩ : ByteArray)) := (blk_cell BK534.out 1).trans rfl; have hfz36_0 := blk_frozen BK534.out 0; have hfz36_1 := blk_frozen BK534.out 1) | ((with_reducible refine gate_dst (N := 70) rfl ?_); (try (refine gate_guard (by rfl) ?_; dsimp only)); refine Kd.R_lit (Kd.int .u8) _ 5 ?hg (N := 70) ?hd (xs := ([((rd_T81 x8_2 x59_3).f0) % 256] : List Int)) (inner := [.int .u8 (((rd_T81 x8_2 x59_3).f0) % 256)]) (ok := fun _ => True) (okp := fun _ => True) ?hr ?hp (fun _ hk => hk) trivial (Below.refl _ _) (Nat.le_refl _) (by simp) ?_; (case hd => rfl); (case hg => rfl); (case hr => first | (go_simp; done) | (go_simp; rfl)); (case hp => exact (Reps.one (show Kd.M (Kd.int .u8) _ _ _ (((rd_T81 x8_2 x59_3).f0) % 256) [.int .u8 (((rd_T81 x8_2 x59_3).f0) % 256)] from rfl) (Reps.none _ _))); intro v536 w37 ho38 hb hg_ hnew_; clear hg_ hnew_; (first | rw [← Ny535.out] at ho38 | (simp only [Int.reduceToNat] at ho38; rw [← Ny535.out] at ho38)); have n0_ := Aside0.mk (Kd.R_below (pR (Kd.R_mono (Kd.R_far (p := ⟨gb534, 1, none⟩) (Kd.R_far (p := ⟨gb534, 0, none⟩) (Kd.R_mono HO_8.out (fun k_ hk => (⟨hk, hk.2⟩ : _ ∧ k_ ≠ gb534))) (fun _ hk => hk.2) (.int .i64 ((rd_T81 x8_2 x59_3).f0))) (fun _ hk => hk.2) (.string ((rd_T81 x8_2 x59_3).f1))) (fun _ h_ => h_.1))) hb); have n1_ := Aside0.mk (Kd.R_below (pR (Kd.R_mono (Kd.R_far (p := ⟨gb534, 1, none⟩) (Kd.R_far (p := ⟨gb534, 0, none⟩) (Kd.R_types HO_11.out BK534.out (by decide)) (fun _ hk => hk.2) (.int .i64 ((rd_T81 x8_2 x59_3).f0))) (fun _ hk => hk.2) (.string ((rd_T81 x8_2 x59_3).f1))) (fun _ h_ => h_.1))) hb); have n2_ := Aside0.mk (Kd.R_below (pR (Kd.R_mono (Kd.R_far (p := ⟨gb534, 1, none⟩) (Kd.R_far (p := ⟨gb534, 0, none⟩) (Kd.R_mono HO_57.out (fun k_ hk => (⟨hk, hk.2⟩ : _ ∧ k_ ≠ gb534))) (fun _ hk => hk.2) (.int .i64 ((rd_T81 x8_2 x59_3).f0))) (fun _ hk => hk.2) (.string ((rd_T81 x8_2 x59_3).f1))) (fun _ h_ => h_.1))) hb); have n3_ := Aside0.mk (Kd.R_lower ho38 (below_size (pS HB.out))); have n4_ := Aside0.mk (blk_below (g := gb522) (o := .cells #[.slice A0_0 l0_0.length c0_0, .slice A0_1 l0_1.length c0_1] 31 (0, 0)) (by (with_reducible repeat (first | refine blk_drewN ?_ _ | refine blk_drew ?_ | refine blk_alloc ?_ _)); refine blk_far ?_ NB522_534.out _; (with_reducible repeat (first | refine blk_drewN ?_ _ | refine blk_drew ?_ | refine blk_alloc ?_ _)); refine blk_far ?_ NB522_534.out _; (with_reducible repeat (first | refine blk_drewN ?_ _ | refine blk_drew ?_ | refine blk_alloc ?_ _)); exact BK522.out) hb); have n5_ := Aside0.mk (blk_below (g := gb534) (o := .cells #[.int .i64 ((rd_T81 x8_2 x59_3).f0), .string ((rd_T81 x8_2 x59_3).f1)] 81 (0, 0)) (by (with_reducible repeat (first | refine blk_drewN ?_ _ | refine blk_drew ?_ | refine blk_alloc ?_ _)); refine blk_put (cs := #[.int .i64 ((rd_T81 x8_2 x59_3).f0), .string (⟨#[]⟩ : ByteArray)]) ?_ 1 _ rfl; (with_reducible repeat (first | refine blk_drewN ?_ _ | refine blk_drew ?_ | refine blk_alloc ?_ _)); refine blk_put (cs := #[.int .i64 0, .string (⟨#[]⟩ : ByteArray)]) ?_ 0 _ rfl; (with_reducible repeat (first | refine blk_drewN ?_ _ | refine blk_drew ?_ | refine blk_alloc ?_ _)); exact BK534.out) hb); have n6_ := Aside0.mk (below_step (pS HB.out) hb); clear HO_8; clear HO_11; clear HO_57; clear BK522; clear BK534; clear HB; have HO_8 := n0_; have HO_11 := n1_; have HO_57 := n2_; have HO537 := n3_; have BK522 := n4_; have BK534 := n5_; have HB := n6_; clear n0_ n1_ n2_ n3_ n4_ n5_ n6_; clear hb ho38; have hcv39 := own_string (P := Try.prog) Try.underlying46 Try.underlying5 Try.underlying9 (Kd.own_of_R HO537.out); have hcz40_0 : w37.cell? ⟨gb534, 0, none⟩ = some (.int .i64 ((rd_T81 x8_2 x59_3).f0)) := (blk_cell BK534.out 0).trans rfl; have hcz40_1 : w37.cell? ⟨gb534, 1, none⟩ = some (.string ((rd_T81 x8_2 x59_3).f1)) := (blk_cell BK534.out 1).trans rfl; have hfz40_0 := blk_frozen BK534.out 0; have hfz40_1 := blk_frozen BK534.out 1) | ((with_reducible refine gate_builtin (b := .append) (xs := #[.tmp 64, .tmp 76]) rfl ?_); (try (refine gate_guard (by rfl) ?_; dsimp only)); at_builtin; refine Kd.R_append k61 (w0 := w) w.heap.size rfl (.tmp 64) (.tmp 76) 38 61 (.agg #[(.bool false), (.int .i64 0), (.string ⟨#[]⟩)]) 32 rfl Try.underlying38 info61 rfl (by decide) (by omega) u11 x11_3 (⟨false, wrap64 (1 + x59_3), (strOfNums y535) ++ ((rd_T81 x8_2 x59_3).f1)⟩ : S61) [.bool false, .int .i64 (wrap64 (1 + x59_3)), .string ((strOfNums y535) ++ ((rd_T81 x8_2 x59_3).f1))] (fun _ => True) (fun _ => False) rfl rfl ?aP (fun _ hk => hk.elim) ?aF ?aO ?aB ?aS ?aL ?_; (case aP => exact k61_mkM _ _ _ (⟨false, wrap64 (1 + x59_3), (strOfNums y535) ++ ((rd_T81 x8_2 x59_3).f1)⟩ : S61)); (case aB => exact (pS HB.out)); (case aF => exact (fun _ _ => trivial)); (case aO => exact (pR HO_11.out)); (case aS => exact (below_size (pS HB.out))); (case aL => have := LMc33.out; omega); intro v539 w41 ho hb hg hat; rw [← Ny538.out] at ho; have n0_ := Aside0.mk (Kd.R_over' (pR HO_8.out) (Kd.R_typed (pR HO_11.out)) (by decide) hg); have n1_ := Aside0.mk (Kd.R_over' (pR HO_57.out) (Kd.R_typed (pR HO_11.out)) (by decide) hg); have n2_ := Aside0.mk (blk_grown (g := gb522) (o := .cells #[.slice A0_0 l0_0.length c0_0, .slice A0_1 l0_1.length c0_1] 31 (0, 0)) (pK BK522.out) hg (Kd.R_ne HO_11.out BK522.out (by decide))); have n3_ := Aside0.mk (blk_grown (g := gb534) (o := .cells #[.int .i64 ((rd_T81 x8_2 x59_3).f0), .string ((rd_T81 x8_2 x59_3).f1)] 81 (0, 0)) (pK BK534.out) hg (Kd.R_ne HO_11.out BK534.out (by decide))); have n4_ := Aside0.mk (Kd.R_over' (pR HO537.out) (Kd.R_typed (pR HO_11.out)) (by decide) hg); have n5_ := Aside0.mk (hb); have n6_ := Aside0.mk (ho); clear HO_8; clear HO_57; clear BK522; clear BK534; clear HO537; clear HB; clear HO_11; have HO_8 := n0_; have HO_57 := n1_; have BK522 := n2_; have BK534 := n3_; have HO537 := n4_; have HB := n5_; have HO540 := n6_; clear n0_ n1_ n2_ n3_ n4_ n5_ n6_; clear ho hb hg hat))
               go_roundg k3
               case measure => have := HJ3.out; have := HK2.out; have := HK3.out; omega
               case rel => exact ⟨(y538), (wrap64 (x59_3 + 1)), (by first | rfl | (simp; done) | (simp [*]; done)), H', ⟨by have := HJ3.out; have := HK2.out; have := HK3.out; omega⟩, ⟨pR (Kd.R_mono HO_8.out (fun _ hk => trivial))⟩, ⟨pR HO540.out⟩, ⟨pR (Kd.R_mono HO_57.out (fun _ hk => trivial))⟩, ⟨pK BK522.out⟩, ⟨pS HB.out⟩⟩
              ·rw [if_neg c33] at H
               exact absurd H (by simp)
             ·rw [if_neg c32] at H
              exact absurd H (by simp)
            ·rw [if_neg c31] at H
             exact absurd H (by simp)
           ·rw [if_neg c30] at H
            exact absurd H (by simp)
          ·rw [if_neg c29] at H
           have c29b0 : decide (x59_3 < (x8_2.length : Int)) = false := decide_eq_false c29
           clear c29
           obtain ⟨y541, hy541⟩ : ∃ y_ : List Int, y_ = (([((x8_2.length : Int)) % 256] : List Int)) := ⟨_, rfl⟩
           replace H : ((some (([(⟨true, 0, (⟨#[]⟩ : ByteArray)⟩ : S61), (⟨false, 0, strOfNums y541⟩ : S61), (⟨true, 0, (⟨#[]⟩ : ByteArray)⟩ : S61)] : List (S61)) : List (S61))).bind fun y544 => (if x11_3.length + y544.length < 4398046511104 then ((impl_apply.f k3 x8_2 (x11_3 ++ y544)).bind fun t550 => ((impl_copied_SecStep.f t550).bind fun t553 => (some (t553, true)))) else (none))) = some (r1, r2) := by first | (rw [hy541]; with_reducible exact H) | (have H2_ := (Option.bind_some _ _).symm.trans H; rw [hy541]; with_reducible exact H2_) | (have H2_ := (Option.bind_some _ _).symm.trans H; with_reducible exact H2_) | with_reducible exact H | (rw [hy541]; exact H) | exact H
           have Ny541 := Aside0.mk hy541
           clear hy541
           obtain ⟨y544, hy544⟩ : ∃ y_ : List (S61), y_ = (([(⟨true, 0, (⟨#[]⟩ : ByteArray)⟩ : S61), (⟨false, 0, strOfNums y541⟩ : S61), (⟨true, 0, (⟨#[]⟩ : ByteArray)⟩ : S61)] : List (S61))) := ⟨_, rfl⟩
           replace H : (if x11_3.length + y544.length < 4398046511104 then ((impl_apply.f k3 x8_2 (x11_3 ++ y544)).bind fun t550 => ((impl_copied_SecStep.f t550).bind fun t553 => (some (t553, true)))) else (none)) = some (r1, r2) := by first | (rw [hy544]; with_reducible exact H) | (have H2_ := (Option.bind_some _ _).symm.trans H; rw [hy544]; with_reducible exact H2_) | (have H2_ := (Option.bind_some _ _).symm.trans H; with_reducible exact H2_) | with_reducible exact H | (rw [hy544]; exact H) | exact H
           have Ny544 := Aside0.mk hy544
           clear hy544
           by_cases c42 : x11_3.length + y544.length < 4398046511104
           ·rw [if_pos c42] at H
            have LMc42 := Aside0.mk c42
            clear c42
            obtain ⟨y547, hy547⟩ : ∃ y_ : List (S61), y_ = (x11_3 ++ y544) := ⟨_, rfl⟩
            replace H : ((impl_apply.f k3 x8_2 y547).bind fun t550 => ((impl_copied_SecStep.f t550).bind fun t553 => (some (t553, true)))) = some (r1, r2) := by first | (rw [hy547]; with_reducible exact H) | (have H2_ := (Option.bind_some _ _).symm.trans H; rw [hy547]; with_reducible exact H2_) | (have H2_ := (Option.bind_some _ _).symm.trans H; with_reducible exact H2_) | with_reducible exact H | (rw [hy547]; exact H) | exact H
            have Ny547 := Aside0.mk hy547
            clear hy547
            replace H := Option.bind_eq_some_iff.mp H
            obtain ⟨t550, A430, H⟩ := H
            replace H : ((impl_copied_SecStep.f t550).bind fun t553 => (some (t553, true))) = some (r1, r2) := H
            have A43 := Aside0.mk A430
            clear A430
            replace H := Option.bind_eq_some_iff.mp H
            obtain ⟨t553, A440, H⟩ := H
            replace H : (some (t553, true)) = some (r1, r2) := H
            have A44 := Aside0.mk A440
            clear A440
            simp only [Option.some.injEq, Prod.mk.injEq] at H
            obtain ⟨rfl, rfl⟩ := H
            go_wp2_with (first | ((with_reducible refine gate_dst (N := 84) rfl ?_); (try (refine gate_guard (by rfl) ?_; dsimp only)); refine Kd.R_lit (Kd.int .u8) _ 5 ?hg (N := 84) ?hd (xs := ([((x8_2.length : Int)) % 256] : List Int)) (inner := [.int .u8 (((x8_2.length : Int)) % 256)]) (ok := fun _ => True) (okp := fun _ => True) ?hr ?hp (fun _ hk => hk) trivial (Below.refl _ _) (Nat.le_refl _) (by simp) ?_; (case hd => rfl); (case hg => rfl); (case hr => first | (go_simp; done) | (go_simp; rfl)); (case hp => exact (Reps.one (show Kd.M (Kd.int .u8) _ _ _ (((x8_2.length : Int)) % 256) [.int .u8 (((x8_2.length : Int)) % 256)] from rfl) (Reps.none _ _))); intro v542 w45 ho46 hb hg_ hnew_; clear hg_ hnew_; (first | rw [← Ny541.out] at ho46 | (simp only [Int.reduceToNat] at ho46; rw [← Ny541.out] at ho46)); have n0_ := Aside0.mk (Kd.R_below (pR HO_8.out) hb); have n1_ := Aside0.mk (Kd.R_below (pR HO_11.out) hb); have n2_ := Aside0.mk (Kd.R_below (pR HO_57.out) hb); have n3_ := Aside0.mk (Kd.R_lower ho46 (below_size (pS HB.out))); have n4_ := Aside0.mk (blk_below (pK BK522.out) hb); have n5_ := Aside0.mk (below_step (pS HB.out) hb); clear HO_8; clear HO_11; clear HO_57; clear BK522; clear HB; have HO_8 := n0_; have HO_11 := n1_; have HO_57 := n2_; have HO543 := n3_; have BK522 := n4_; have HB := n5_; clear n0_ n1_ n2_ n3_ n4_ n5_; clear hb ho46; have hcv47 := own_string (P := Try.prog) Try.underlying46 Try.underlying5 Try.underlying9 (Kd.own_of_R HO543.out)) | ((with_reducible refine gate_dst (N := 88) rfl ?_); (try (refine gate_guard (by rfl) ?_; dsimp only)); refine Kd.R_lit k61 _ 61 ?hg (N := 88) ?hd (xs := ([(⟨true, 0, (⟨#[]⟩ : ByteArray)⟩ : S61), (⟨false, 0, strOfNums y541⟩ : S61), (⟨true, 0, (⟨#[]⟩ : ByteArray)⟩ : S61)] : List (S61))) (inner := [.bool true, .int .i64 0, .string (⟨#[]⟩ : ByteArray), .bool false, .int .i64 0, .string (strOfNums y541), .bool true, .int .i64 0, .string (⟨#[]⟩ : ByteArray)]) (ok := fun _ => True) (okp := fun _ => True) ?hr ?hp (fun _ hk => hk) trivial (Below.refl _ _) (Nat.le_refl _) (by simp) ?_; (case hd => rfl); (case hg => rfl); (case hr => first | (go_simp; done) | (go_simp; rfl)); (case hp => exact (Reps.c3 (show Kd.M k61 _ _ _ (⟨true, 0, (⟨#[]⟩ : ByteArray)⟩ : S61) [.bool true, .int .i64 0, .string (⟨#[]⟩ : ByteArray)] from (k61_mkM _ _ _ (⟨true, 0, (⟨#[]⟩ : ByteArray)⟩ : S61) )) (Reps.c3 (show Kd.M k61 _ _ _ (⟨false, 0, strOfNums y541⟩ : S61) [.bool false, .int .i64 0, .string (strOfNums y541)] from (k61_mkM _ _ _ (⟨false, 0, strOfNums y541⟩ : S61) )) (Reps.c3 (show Kd.M k61 _ _ _ (⟨true, 0, (⟨#[]⟩ : ByteArray)⟩ : S61) [.bool true, .int .i64 0, .string (⟨#[]⟩ : ByteArray)] from (k61_mkM _ _ _ (⟨true, 0, (⟨#[]⟩ : ByteArray)⟩ : S61) )) (Reps.none _ _))))); intro v545 w48 ho49 hb hg_ hnew_; clear hg_ hnew_; (first | rw [← Ny544.out] at ho49 | (simp only [Int.reduceToNat] at ho49; rw [← Ny544.out] at ho49)); have n0_ := Aside0.mk (Kd.R_below (pR HO_8.out) hb); have n1_ := Aside0.mk (Kd.R_elder' (pR HO_11.out) (Kd.R_base ho49) hb); have n2_ := Aside0.mk (Kd.R_below (pR HO_57.out) hb); have n3_ := Aside0.mk (Kd.R_below (pR HO543.out) hb); have n4_ := Aside0.mk (Kd.R_lower (Kd.R_new' ho49 (Kd.R_lt (pR HO_11.out))) (below_size (pS HB.out))); have n5_ := Aside0.mk (blk_below (pK BK522.out) hb); have n6_ := Aside0.mk (below_step (pS HB.out) hb); clear HO_8; clear HO_11; clear HO_57; clear HO543; clear BK522; clear HB; have HO_8 := n0_; have HO_11 := n1_; have HO_57 := n2_; have HO543 := n3_; have HO546 := n4_; have BK522 := n5_; have HB := n6_; clear n0_ n1_ n2_ n3_ n4_ n5_ n6_; clear hb ho49; obtain ⟨Ao51, co51, eo51⟩ := Kd.R_slice HO546.out; subst eo51) | ((with_reducible refine gate_builtin (b := .append) (xs := #[.tmp 79, .tmp 88]) rfl ?_); (try (refine gate_guard (by rfl) ?_; dsimp only)); at_builtin; refine Kd.R_append_rows k61 (w0 := w) w.heap.size rfl (.tmp 79) (.tmp 88) 38 61 (.agg #[(.bool false), (.int .i64 0), (.string ⟨#[]⟩)]) 32 rfl Try.underlying38 info61 rfl (by decide) (by omega) u11 x11_3 y544 _ _ _ (fun k_ => some k_ ≠ (.slice Ao51 y544.length co51 : Value).ownBlock) (fun _ => False) rfl rfl ?aO ?aR (fun _ _ h => h) (fun _ h => h.elim) ?aF ?aB ?aS ?aL ?_; (case aR => exact pC (Kd.R_reads' HO546.out).2.2); (case aB => exact (pS HB.out)); (case aF => exact (fun k_ hk => Kd.fresh' (Kd.R_lt (pR HO546.out)) k_ hk)); (case aO => exact (pR (Kd.R_mono HO_11.out (fun _ hk => hk.2)))); (case aS => exact (below_size (pS HB.out))); (case aL => have := LMc42.out; omega); intro v548 w50 ho hb hg hat; rw [← Ny547.out] at ho; have n0_ := Aside0.mk (Kd.R_over' (pR HO_8.out) (Kd.R_typed (pR HO_11.out)) (by decide) hg); have n1_ := Aside0.mk (Kd.R_over' (pR HO_57.out) (Kd.R_typed (pR HO_11.out)) (by decide) hg); have n2_ := Aside0.mk (blk_grown (g := gb522) (o := .cells #[.slice A0_0 l0_0.length c0_0, .slice A0_1 l0_1.length c0_1] 31 (0, 0)) (pK BK522.out) hg (Kd.R_ne HO_11.out BK522.out (by decide))); have n3_ := Aside0.mk (Kd.R_over' (pR HO543.out) (Kd.R_typed (pR HO_11.out)) (by decide) hg); have n4_ := Aside0.mk (Kd.R_after (ok := (fun _ => True)) (pR HO546.out) hg hat); have n5_ := Aside0.mk (hb); have n6_ := Aside0.mk (ho); clear HO_8; clear HO_57; clear BK522; clear HO543; clear HO546; clear HB; clear HO_11; have HO_8 := n0_; have HO_57 := n1_; have BK522 := n2_; have HO543 := n3_; have HO546 := n4_; have HB := n5_; have HO549 := n6_; clear n0_ n1_ n2_ n3_ n4_ n5_ n6_; clear ho hb hg hat; obtain ⟨Ao52, co52, eo52⟩ := Kd.R_slice HO549.out; subst eo52) | ((with_reducible refine gate_callee (f := 57) rfl ?_); refine goesL_ (some 92) rfl rfl Try.func57 (by kernel_rfl) rfl #[.slice Ao28 x8_2.length co28, .slice Ao52 y547.length co52] rfl bM ?_; (with_reducible refine (impl_apply.calls k3 _ _ x8_2 (fun k_ => some k_ = (.slice Ao52 y547.length co52 : Value).ownBlock) (.slice Ao52 y547.length co52) y547 t550 w _ ?side1 ?side2 ?side3 ?side4 A43.out).mono ?_); (case side1 => repeat (first | (with_reducible first | exact HB.out | apply below_alloc | apply pw_below_drewN | apply below_drew1 | refine below_set ?_ GE522.out) | exact HB.out)); (case side2 => exact Kd.C_kept_own ((Kd.R_apart' HO_8.out (Kd.R_typed HO549.out) (by decide))) (fun k_ hk_ hs_ => (hk_.2) hs_)); (case side3 => exact (Kd.R_reads' HO_8.out).2.1); (case side4 => exact Kd.R_tight rfl HO549.out); rintro e w53 ⟨v551, rfl, ho0, hb, hkp⟩; refine ⟨_, rfl, ?_⟩; have n0_ := Aside0.mk (Kd.R_mono (ok' := fun k_ => True) (Kd.R_keptB ((Kd.R_apart' HO_8.out (Kd.R_typed HO549.out) (by decide))) hkp (fun k_ hk_ hs_ => (hk_.2) hs_)) (fun k_ hk_ => trivial)); have n1_ := Aside0.mk (Kd.R_mono (ok' := fun k_ => True) (Kd.R_keptB ((Kd.R_apart' HO_57.out (Kd.R_typed HO549.out) (by decide))) hkp (fun k_ hk_ hs_ => (hk_.2) hs_)) (fun k_ hk_ => trivial)); have n2_ := Aside0.mk (blk_kept (pK BK522.out) hkp (fun hs_ => (fun e_ => (Kd.R_ne HO549.out BK522.out (by decide)) e_) hs_)); have n3_ := Aside0.mk (Kd.R_mono (ok' := fun k_ => True) (Kd.R_keptB ((Kd.R_apart' HO543.out (Kd.R_typed HO549.out) (by decide))) hkp (fun k_ hk_ hs_ => (hk_.2) hs_)) (fun k_ hk_ => trivial)); have n4_ := Aside0.mk (Kd.R_mono (ok' := fun k_ => some k_ ≠ (v551 : Value).ownBlock) (Kd.R_keptB (HO546.out) hkp (fun k_ hk_ hs_ => (hk_.2) hs_)) (fun k_ hk_ => fun e_ => Or.elim (ho0.1 k_ e_.symm) (fun hs_ => hk_.2.1 hs_) (fun hn_ => Nat.not_le.2 hk_.2.2 hn_))); have n5_ := Aside0.mk (Kd.R_mono (ok' := fun k_ => some k_ ≠ (.slice Ao51 y544.length co51 : Value).ownBlock) ho0 (fun k_ hk_ => Or.elim hk_ (fun hs_ => fun e_ => (((HO546.out).1 k_ e_.symm).2) hs_) (fun hn_ => (Kd.fresh' (Kd.R_lt (pR HO546.out)) k_ hn_)))); have n6_ := Aside0.mk (hb); clear HO_8; clear HO_57; clear BK522; clear HO543; clear HO546; clear HB; clear HO549; have HO_8 := n0_; have HO_57 := n1_; have BK522 := n2_; have HO543 := n3_; have HO546 := n4_; have HO552 := n5_; have HB := n6_; clear n0_ n1_ n2_ n3_ n4_ n5_ n6_; (try clear hb); (try clear hkp); (try clear ho0); obtain ⟨Ao54, co54, eo54⟩ := Kd.R_slice HO552.out; subst eo54) | ((with_reducible refine gate_callee (f := 56) rfl ?_); refine goesL_ (some 93) rfl rfl Try.func56 (by kernel_rfl) rfl #[.slice Ao54 t550.length co54] rfl bM ?_; (with_reducible refine (impl_copied_SecStep.calls _ _ t550 t553 _ ?side1 ?side2 A44.out).mono ?_); (case side1 => exact pC (Kd.R_reads' HO552.out).2.2); (case side2 => exact (Kd.R_reads' HO552.out).2.1); rintro e w55 ⟨v554, rfl, ho0, hb⟩; refine ⟨_, rfl, ?_⟩; have n0_ := Aside0.mk (Kd.R_below (pR HO_8.out) hb); have n1_ := Aside0.mk (Kd.R_below (pR HO_57.out) hb); have n2_ := Aside0.mk (Kd.R_below (pR HO543.out) hb); have n3_ := Aside0.mk (Kd.R_elder' (pR HO546.out) (Kd.R_base ho0) hb); have n4_ := Aside0.mk (Kd.R_elder' (pR HO552.out) (Kd.R_base ho0) hb); have n5_ := Aside0.mk (Kd.R_lower (Kd.R_new' (Kd.R_new' ho0 (Kd.R_lt (pR HO546.out))) (Kd.R_lt (pR HO552.out))) (below_size (pS HB.out))); have n6_ := Aside0.mk (blk_below (pK BK522.out) hb); have n7_ := Aside0.mk (below_step (pS HB.out) hb); clear HO_8; clear HO_57; clear HO543; clear HO546; clear HO552; clear BK522; clear HB; have HO_8 := n0_; have HO_57 := n1_; have HO543 := n2_; have HO546 := n3_; have HO552 := n4_; have HO555 := n5_; have BK522 := n6_; have HB := n7_; clear n0_ n1_ n2_ n3_ n4_ n5_ n6_ n7_; (try clear hb); (try clear hb2); (try clear hk); (try clear hi); (try clear ho0)))
            go_ret2
            exact ⟨_, by first | rfl | (simp [errW_none, errW_some] <;> rfl) | (simp [*, errW_none, errW_some] <;> rfl), pR (Kd.R_mono HO555.out (fun _ hk => trivial)), pS HB.out⟩
           ·rw [if_neg c42] at H
            exact absurd H (by simp)

end Go.Proofs.Ythjocaegapchaaa.P
