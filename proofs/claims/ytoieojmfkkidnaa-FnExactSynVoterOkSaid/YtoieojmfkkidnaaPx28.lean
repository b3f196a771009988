-- printed by pprint.py (this session's program over the kit's printer) out of the translation. Lean checks it.
import Derived.Test.YtoieojmfkkidnaaPx0
import Derived.Test.YtoieojmfkkidnaaPx5
import Derived.Test.YtoieojmfkkidnaaPx14
import Derived.Test.YtoieojmfkkidnaaPx27
namespace Go.Proofs.Ytoieojmfkkidnaa.P
open Go.RowKit Go.Proofs.YtoieojmfkkidnaaX Go.Proofs.YtoieojmfkkidnaaW.PrintWords Go.Proofs.YtoieojmfkkidnaaW.PrintLast Go.Proofs.YtoieojmfkkidnaaW.PrintMore
attribute [local go_sem] max2_int min2_int max_two min_two max_three min_three max_four min_four   -- for this text's walks alone
set_option linter.unusedVariables false
set_option linter.unusedSimpArgs false

/-! ### spec_SynVoterOk: function 26 -/
set_option maxHeartbeats 8000000 in
set_option maxRecDepth 100000 in
theorem spec_SynVoterOk.calls (k : Nat) (a0_0 : Int) (A0_1 : Option Addr) (c0_1 : Nat) (l0_1 : List (S64)) (r : Bool) (w : World) (hr0_1 : Kd.C k64 w A0_1 l0_1.length l0_1) (hc0_1 : l0_1.length ≤ c0_1) (h : spec_SynVoterOk.f k a0_0 l0_1 = some r) :
  Calls Try.prog 26 #[.agg #[.int .i64 a0_0, .slice A0_1 l0_1.length c0_1]] w fun e w' => e = .returned (.bool r) ∧ Below w.heap.size w w' := by
 have hu52 := Try.underlying52
 have hu64 := Try.underlying64
 have HR0_1 := Aside0.mk hr0_1
 have HC0_1 := Aside0.mk hc0_1
 clear hr0_1 hc0_1
 have HB := Aside0.mk (Below.refl w.heap.size w)
 have H : ((spec_l6In.f a0_0 0 99999).bind fun t644 => (if t644 = true then (spec_SynVoterOk.j0 k (decide ((l0_1.length : Int) > 60)) a0_0 l0_1) else (spec_SynVoterOk.j0 k true a0_0 l0_1))) = some r := h
 clear h
 have HC2 := Aside0.mk H
 clear H
 go_enter Try.func26, Try.ntmps26
 go_upto_region 1 with (first | ((with_reducible refine gate_dst (N := 1) rfl ?_); (try (refine gate_guard (by rfl) ?_; dsimp only)); refine box_event ?hg (N := 1) ?hd (cs := #[.int .i64 a0_0, .slice A0_1 l0_1.length c0_1]) (t := 52) ?hr ?_; (case hd => rfl); (case hg => rfl); (case hr => first | (go_simp; done) | (go_simp; rfl)); intro gb643 hg w3 hbox hb; have n0_ := Aside0.mk (below_step (pB HB.out) hb); have n1_ := Aside0.mk (hbox); have n2_ := Aside0.mk ((by rw [hg]; exact (below_size (pB HB.out)) : w.heap.size ≤ gb643)); have n3_ := Aside0.mk ((by rw [hg]; exact (below_size (pB HB.out)) : w.heap.size ≤ gb643)); clear HB; have HB := n0_; have BK643 := n1_; have GW643 := n2_; have GE643 := n3_; clear n0_ n1_ n2_ n3_; clear hb hbox hg))
 (try simp only [Act.put, List.setIfInBounds_toArray, List.set_cons_zero, List.set_cons_succ])
 go_cut [13] (fun v13 wc => ∃ (kq : Nat) (x13_1 : Bool), v13 = .bool x13_1 ∧ Aside0 (spec_SynVoterOk.j0 kq x13_1 a0_0 l0_1 = some r) ∧ Aside0 (kq ≤ k) ∧ Aside0 (wc.heap[gb643]? = some (.cells #[.int .i64 a0_0, (.slice A0_1 l0_1.length c0_1)] 52 (0, 0))) ∧ Aside0 (Below w.heap.size w wc))
 case first =>
  have H := HC2.out
  clear HC2
  replace H := Option.bind_eq_some_iff.mp H
  obtain ⟨t644, A40, H⟩ := H
  replace H : (if t644 = true then (spec_SynVoterOk.j0 k (decide ((l0_1.length : Int) > 60)) a0_0 l0_1) else (spec_SynVoterOk.j0 k true a0_0 l0_1)) = some r := H
  have A4 := Aside0.mk A40
  clear A40
  by_cases c5 : t644 = true
  ·subst c5
   have H1 : (spec_SynVoterOk.j0 k (decide ((l0_1.length : Int) > 60)) a0_0 l0_1) = some r := by rw [if_pos rfl] at H; exact H
   clear H
   have H := H1
   clear H1
   have H' := Aside0.mk H
   clear H
   have hcz6_0 : w3.cell? ⟨gb643, 0, none⟩ = some (.int .i64 a0_0) := (blk_cell BK643.out 0).trans rfl
   have hcz6_1 : w3.cell? ⟨gb643, 1, none⟩ = some (.slice A0_1 l0_1.length c0_1) := (blk_cell BK643.out 1).trans rfl
   have hfz6_0 := blk_frozen BK643.out 0
   have hfz6_1 := blk_frozen BK643.out 1
   go_wp2_with (first | ((with_reducible refine gate_callee (f := 67) rfl ?_); refine goesL_ (some 6) rfl rfl Try.func67 (by kernel_rfl) rfl #[.int .i64 a0_0, .int .i64 0, .int .i64 99999] rfl bM ?_; (with_reducible refine (spec_l6In.calls a0_0 0 99999 true _ A4.out).mono ?_); rintro e w' ⟨rfl, ⟨nd, rfl⟩⟩; refine ⟨_, rfl, ?_⟩))
   go_meet
   case rel => exact ⟨_, (decide ((l0_1.length : Int) > 60)), (by first | rfl | (simp; done) | (simp [*]; done)), H', ⟨by first | omega | exact Nat.le_refl _⟩, ⟨pK BK643.out⟩, ⟨pS HB.out⟩⟩
  ·replace c5 := Bool.eq_false_iff.mpr c5
   subst c5
   have H1 : (spec_SynVoterOk.j0 k true a0_0 l0_1) = some r := by rw [if_neg (show ¬ (false = true) by decide)] at H; exact H
   clear H
   have H := H1
   clear H1
   have H' := Aside0.mk H
   clear H
   have hcz7_0 : w3.cell? ⟨gb643, 0, none⟩ = some (.int .i64 a0_0) := (blk_cell BK643.out 0).trans rfl
   have hcz7_1 : w3.cell? ⟨gb643, 1, none⟩ = some (.slice A0_1 l0_1.length c0_1) := (blk_cell BK643.out 1).trans rfl
   have hfz7_0 := blk_frozen BK643.out 0
   have hfz7_1 := blk_frozen BK643.out 1
   go_wp2_with (first | ((with_reducible refine gate_callee (f := 67) rfl ?_); refine goesL_ (some 6) rfl rfl Try.func67 (by kernel_rfl) rfl #[.int .i64 a0_0, .int .i64 0, .int .i64 99999] rfl bM ?_; (with_reducible refine (spec_l6In.calls a0_0 0 99999 false _ A4.out).mono ?_); rintro e w' ⟨rfl, ⟨nd, rfl⟩⟩; refine ⟨_, rfl, ?_⟩))
   go_meet
   case rel => exact ⟨_, (true), (by first | rfl | (simp; done) | (simp [*]; done)), H', ⟨by first | omega | exact Nat.le_refl _⟩, ⟨pK BK643.out⟩, ⟨pS HB.out⟩⟩
 case rest =>
  clear HC2
  try clear c2
  try clear p2
  try clear c5
  try clear c6
  try clear hcz6_0
  try clear hcz6_1
  try clear hcz7_0
  try clear hcz7_1
  try clear hfz6_0
  try clear hfz6_1
  try clear hfz7_0
  try clear hfz7_1
  obtain ⟨kq, x13_1, rfl, HA, HJ1, BK643, HB⟩ := hcut
  cases kq with
  | zero => exact absurd HA.out (by simp [spec_SynVoterOk.j0])
  | succ kj1 =>
   have H := HA.out
   clear HA
   simp only [spec_SynVoterOk.j0] at H
   by_cases c8 : x13_1 = true
   ·subst c8
    have H1 : (some false) = some r := by rw [if_pos rfl] at H; exact H
    clear H
    have H := H1
    clear H1
    obtain rfl := Option.some.inj H
    go_wp2
    go_ret
    exact ⟨by first | rfl | (simp [errW_none, errW_some] <;> rfl) | (simp [*, errW_none, errW_some] <;> rfl), pS HB.out⟩
   ·replace c8 := Bool.eq_false_iff.mpr c8
    subst c8
    have H1 : (spec_SynVoterOk.l0 kj1 0 a0_0 l0_1) = some r := by rw [if_neg (show ¬ (false = true) by decide)] at H; exact H
    clear H
    have H := H1
    clear H1
    have H' := Aside0.mk H
    clear H
    go_wp2
    go_loopg [3] kj1 (fun kq v3 w' => ∃ (x3_2 : Int), v3 = .int .i64 x3_2 ∧ Aside0 (spec_SynVoterOk.l0 kq x3_2 a0_0 l0_1 = some r) ∧ Aside0 (kq ≤ kj1) ∧ Aside0 (w'.heap[gb643]? = some (.cells #[.int .i64 a0_0, (.slice A0_1 l0_1.length c0_1)] 52 (0, 0))) ∧ Aside0 (Below w.heap.size w w'))
    case atStart => exact ⟨(0), (by first | rfl | (simp; done) | (simp [*]; done)), H', ⟨Nat.le_refl _⟩, ⟨pK BK643.out⟩, ⟨pS HB.out⟩⟩
    case round =>
     clear H'
     try clear c2
     try clear p2
     try clear c5
     try clear c6
     try clear c8
     try clear hcz6_0
     try clear hcz6_1
     try clear hcz7_0
     try clear hcz7_1
     try clear hfz6_0
     try clear hfz6_1
     try clear hfz7_0
     try clear hfz7_1
     try clear p2
     obtain ⟨x3_2, rfl, HA, HK2, BK643, HB⟩ := hrel
     cases gk with
     | zero => exact absurd HA.out (by simp [spec_SynVoterOk.l0])
     | succ k2 =>
      have H := HA.out
      clear HA
      simp only [spec_SynVoterOk.l0] at H
      by_cases c9 : x3_2 < (l0_1.length : Int)
      ·rw [if_pos c9] at H
       have c9b0 : decide (x3_2 < (l0_1.length : Int)) = true := decide_eq_true c9
       clear c9
       by_cases c10 : 0 ≤ x3_2
       ·rw [if_pos c10] at H
        have c10b0 : decide (0 ≤ x3_2) = true := decide_eq_true c10
        clear c10
        replace H := Option.bind_eq_some_iff.mp H
        obtain ⟨t646, A110, H⟩ := H
        replace H : (if t646 = true then (if ((rd_T64 l0_1 x3_2).f1) > a0_0 then (some false) else (if x3_2 > 0 then (if 0 ≤ (wrap64 (x3_2 - 1)) then (if (wrap64 (x3_2 - 1)) < (l0_1.length : Int) then (if ((rd_T64 l0_1 (wrap64 (x3_2 - 1))).f0) ≥ ((rd_T64 l0_1 x3_2).f0) then (some false) else (spec_SynVoterOk.l0 k2 (wrap64 (x3_2 + 1)) a0_0 l0_1)) else (none)) else (none)) else (spec_SynVoterOk.l0 k2 (wrap64 (x3_2 + 1)) a0_0 l0_1))) else (some false)) = some r := H
        have A11 := Aside0.mk A110
        clear A110
        by_cases c12 : t646 = true
        ·subst c12
         have H1 : (if ((rd_T64 l0_1 x3_2).f1) > a0_0 then (some false) else (if x3_2 > 0 then (if 0 ≤ (wrap64 (x3_2 - 1)) then (if (wrap64 (x3_2 - 1)) < (l0_1.length : Int) then (if ((rd_T64 l0_1 (wrap64 (x3_2 - 1))).f0) ≥ ((rd_T64 l0_1 x3_2).f0) then (some false) else (spec_SynVoterOk.l0 k2 (wrap64 (x3_2 + 1)) a0_0 l0_1)) else (none)) else (none)) else (spec_SynVoterOk.l0 k2 (wrap64 (x3_2 + 1)) a0_0 l0_1))) = some r := by rw [if_pos rfl] at H; exact H
         clear H
         have H := H1
         clear H1
         by_cases c13 : ((rd_T64 l0_1 x3_2).f1) > a0_0
         ·rw [if_pos c13] at H
          have c13b0 : decide (a0_0 < ((rd_T64 l0_1 x3_2).f1)) = true := decide_eq_true c13
          clear c13
          obtain rfl := Option.some.inj H
          have hcz14_0 : wr.cell? ⟨gb643, 0, none⟩ = some (.int .i64 a0_0) := (blk_cell BK643.out 0).trans rfl
          have hcz14_1 : wr.cell? ⟨gb643, 1, none⟩ = some (.slice A0_1 l0_1.length c0_1) := (blk_cell BK643.out 1).trans rfl
          have hfz14_0 := blk_frozen BK643.out 0
          have hfz14_1 := blk_frozen BK643.out 1
          try go_wp2
          have n0_ := Aside0.mk (blk_drew BK643.out)
          have n1_ := Aside0.mk (below_drew1 HB.out)
          clear BK643
          clear HB
          have BK643 := n0_
          have HB := n1_
          clear n0_ n1_
          have p645 : 0 ≤ (x3_2 : Int) := of_decide_eq_true bA
          have q645 : x3_2 < (l0_1.length : Int) := of_decide_eq_true bA
          obtain ⟨ad645, e645, hx645_0, hx645_1, hx645_2, hx645_3, hx645_4, hx645_5, hx645_6, hx645_7, hx645_8, hx645_9, hx645_10, hx645_11⟩ := at_T64 HR0_1.out x3_2 p645 q645
          have hw645_11 := hx645_11
          have hw645_10 := hx645_10
          have hw645_9 := hx645_9
          have hw645_8 := hx645_8
          have hw645_7 := hx645_7
          have hw645_6 := hx645_6
          have hw645_5 := hx645_5
          have hw645_4 := hx645_4
          have hw645_3 := hx645_3
          have hw645_2 := hx645_2
          have hw645_1 := hx645_1
          have hw645_0 := hx645_0
          cases e645
          replace hx645_0 := (HB.out.cell (World.block_lt_of_cell? w _ hx645_0)).trans hx645_0
          replace hx645_1 := (HB.out.cell (World.block_lt_of_cell? w _ hx645_1)).trans hx645_1
          replace hx645_2 := (HB.out.cell (World.block_lt_of_cell? w _ hx645_2)).trans hx645_2
          replace hx645_3 := (HB.out.cell (World.block_lt_of_cell? w _ hx645_3)).trans hx645_3
          replace hx645_4 := (HB.out.cell (World.block_lt_of_cell? w _ hx645_4)).trans hx645_4
          replace hx645_5 := (HB.out.cell (World.block_lt_of_cell? w _ hx645_5)).trans hx645_5
          replace hx645_6 := (HB.out.cell (World.block_lt_of_cell? w _ hx645_6)).trans hx645_6
          replace hx645_7 := (HB.out.cell (World.block_lt_of_cell? w _ hx645_7)).trans hx645_7
          replace hx645_8 := (HB.out.cell (World.block_lt_of_cell? w _ hx645_8)).trans hx645_8
          replace hx645_9 := (HB.out.cell (World.block_lt_of_cell? w _ hx645_9)).trans hx645_9
          replace hx645_10 := (HB.out.cell (World.block_lt_of_cell? w _ hx645_10)).trans hx645_10
          replace hx645_11 := (HB.out.cell (World.block_lt_of_cell? w _ hx645_11)).trans hx645_11
          replace p645 := eq_true p645
          replace q645 := eq_true q645
          have p647 : 0 ≤ (x3_2 : Int) := of_decide_eq_true bA
          have q647 : x3_2 < (l0_1.length : Int) := of_decide_eq_true bA
          obtain ⟨ad647, e647, hx647_0, hx647_1, hx647_2, hx647_3, hx647_4, hx647_5, hx647_6, hx647_7, hx647_8, hx647_9, hx647_10, hx647_11⟩ := at_T64 HR0_1.out x3_2 p647 q647
          have hw647_11 := hx647_11
          have hw647_10 := hx647_10
          have hw647_9 := hx647_9
          have hw647_8 := hx647_8
          have hw647_7 := hx647_7
          have hw647_6 := hx647_6
          have hw647_5 := hx647_5
          have hw647_4 := hx647_4
          have hw647_3 := hx647_3
          have hw647_2 := hx647_2
          have hw647_1 := hx647_1
          have hw647_0 := hx647_0
          obtain rfl : ad645 = ad647 := (by injection e647)
          replace hx647_0 := (HB.out.cell (World.block_lt_of_cell? w _ hx647_0)).trans hx647_0
          replace hx647_1 := (HB.out.cell (World.block_lt_of_cell? w _ hx647_1)).trans hx647_1
          replace hx647_2 := (HB.out.cell (World.block_lt_of_cell? w _ hx647_2)).trans hx647_2
          replace hx647_3 := (HB.out.cell (World.block_lt_of_cell? w _ hx647_3)).trans hx647_3
          replace hx647_4 := (HB.out.cell (World.block_lt_of_cell? w _ hx647_4)).trans hx647_4
          replace hx647_5 := (HB.out.cell (World.block_lt_of_cell? w _ hx647_5)).trans hx647_5
          replace hx647_6 := (HB.out.cell (World.block_lt_of_cell? w _ hx647_6)).trans hx647_6
          replace hx647_7 := (HB.out.cell (World.block_lt_of_cell? w _ hx647_7)).trans hx647_7
          replace hx647_8 := (HB.out.cell (World.block_lt_of_cell? w _ hx647_8)).trans hx647_8
          replace hx647_9 := (HB.out.cell (World.block_lt_of_cell? w _ hx647_9)).trans hx647_9
          replace hx647_10 := (HB.out.cell (World.block_lt_of_cell? w _ hx647_10)).trans hx647_10
          replace hx647_11 := (HB.out.cell (World.block_lt_of_cell? w _ hx647_11)).trans hx647_11
          replace p647 := eq_true p647
          replace q647 := eq_true q647
          refine start_ (n := 38) (S := fun w' => w'.cell? ⟨gb643, 0, none⟩ = some (.int .i64 a0_0) ∧ w'.cell? ⟨gb643, 1, none⟩ = some (.slice (some ad645) l0_1.length c0_1) ∧ w'.cell? (ad645.add ((x3_2).toNat * 12)) = some (.int .i64 ((rd_T64 l0_1 x3_2).f0)) ∧ w'.cell? ⟨(ad645.add ((x3_2).toNat * 12)).block, (ad645.add ((x3_2).toNat * 12)).off + 1, none⟩ = some (.int .i64 ((rd_T64 l0_1 x3_2).f1)) ∧ w'.cell? ⟨(ad645.add ((x3_2).toNat * 12)).block, (ad645.add ((x3_2).toNat * 12)).off + 2, none⟩ = some (.int .i64 ((rd_T64 l0_1 x3_2).f2.f0)) ∧ w'.cell? ⟨(ad645.add ((x3_2).toNat * 12)).block, (ad645.add ((x3_2).toNat * 12)).off + 3, none⟩ = some (.int .i64 ((rd_T64 l0_1 x3_2).f2.f1)) ∧ w'.cell? ⟨(ad645.add ((x3_2).toNat * 12)).block, (ad645.add ((x3_2).toNat * 12)).off + 4, none⟩ = some (.int .i64 ((rd_T64 l0_1 x3_2).f2.f2)) ∧ w'.cell? ⟨(ad645.add ((x3_2).toNat * 12)).block, (ad645.add ((x3_2).toNat * 12)).off + 5, none⟩ = some (.int .i64 ((rd_T64 l0_1 x3_2).f2.f3)) ∧ w'.cell? ⟨(ad645.add ((x3_2).toNat * 12)).block, (ad645.add ((x3_2).toNat * 12)).off + 6, none⟩ = some (.int .i64 ((rd_T64 l0_1 x3_2).f2.f4)) ∧ w'.cell? ⟨(ad645.add ((x3_2).toNat * 12)).block, (ad645.add ((x3_2).toNat * 12)).off + 7, none⟩ = some (.int .i64 ((rd_T64 l0_1 x3_2).f2.f5)) ∧ w'.cell? ⟨(ad645.add ((x3_2).toNat * 12)).block, (ad645.add ((x3_2).toNat * 12)).off + 8, none⟩ = some (.int .i64 ((rd_T64 l0_1 x3_2).f2.f6)) ∧ w'.cell? ⟨(ad645.add ((x3_2).toNat * 12)).block, (ad645.add ((x3_2).toNat * 12)).off + 9, none⟩ = some (.int .i64 ((rd_T64 l0_1 x3_2).f2.f7)) ∧ w'.cell? ⟨(ad645.add ((x3_2).toNat * 12)).block, (ad645.add ((x3_2).toNat * 12)).off + 10, none⟩ = some (.int .i64 ((rd_T64 l0_1 x3_2).f2.f8)) ∧ w'.cell? ⟨(ad645.add ((x3_2).toNat * 12)).block, (ad645.add ((x3_2).toNat * 12)).off + 11, none⟩ = some (.int .i64 ((rd_T64 l0_1 x3_2).f2.f9)) ∧ w'.cell? (ad645.add ((x3_2).toNat * 12)) = some (.int .i64 ((rd_T64 l0_1 x3_2).f0)) ∧ w'.cell? ⟨(ad645.add ((x3_2).toNat * 12)).block, (ad645.add ((x3_2).toNat * 12)).off + 1, none⟩ = some (.int .i64 ((rd_T64 l0_1 x3_2).f1)) ∧ w'.cell? ⟨(ad645.add ((x3_2).toNat * 12)).block, (ad645.add ((x3_2).toNat * 12)).off + 2, none⟩ = some (.int .i64 ((rd_T64 l0_1 x3_2).f2.f0)) ∧ w'.cell? ⟨(ad645.add ((x3_2).toNat * 12)).block, (ad645.add ((x3_2).toNat * 12)).off + 3, none⟩ = some (.int .i64 ((rd_T64 l0_1 x3_2).f2.f1)) ∧ w'.cell? ⟨(ad645.add ((x3_2).toNat * 12)).block, (ad645.add ((x3_2).toNat * 12)).off + 4, none⟩ = some (.int .i64 ((rd_T64 l0_1 x3_2).f2.f2)) ∧ w'.cell? ⟨(ad645.add ((x3_2).toNat * 12)).block, (ad645.add ((x3_2).toNat * 12)).off + 5, none⟩ = some (.int .i64 ((rd_T64 l0_1 x3_2).f2.f3)) ∧ w'.cell? ⟨(ad645.add ((x3_2).toNat * 12)).block, (ad645.add ((x3_2).toNat * 12)).off + 6, none⟩ = some (.int .i64 ((rd_T64 l0_1 x3_2).f2.f4)) ∧ w'.cell? ⟨(ad645.add ((x3_2).toNat * 12)).block, (ad645.add ((x3_2).toNat * 12)).off + 7, none⟩ = some (.int .i64 ((rd_T64 l0_1 x3_2).f2.f5)) ∧ w'.cell? ⟨(ad645.add ((x3_2).toNat * 12)).block, (ad645.add ((x3_2).toNat * 12)).off + 8, none⟩ = some (.int .i64 ((rd_T64 l0_1 x3_2).f2.f6)) ∧ w'.cell? ⟨(ad645.add ((x3_2).toNat * 12)).block, (ad645.add ((x3_2).toNat * 12)).off + 9, none⟩ = some (.int .i64 ((rd_T64 l0_1 x3_2).f2.f7)) ∧ w'.cell? ⟨(ad645.add ((x3_2).toNat * 12)).block, (ad645.add ((x3_2).toNat * 12)).off + 10, none⟩ = some (.int .i64 ((rd_T64 l0_1 x3_2).f2.f8)) ∧ w'.cell? ⟨(ad645.add ((x3_2).toNat * 12)).block, (ad645.add ((x3_2).toNat * 12)).off + 11, none⟩ = some (.int .i64 ((rd_T64 l0_1 x3_2).f2.f9))) (ds := []) #[false, false, false, false, false, false, false, false, false, false, false, false, false, false, false, false, false, false, false, false, false, false, false, false, false, false, false, false, false, false, false, false, false, false, false, false, false, false] (by kernel_rfl) rfl rfl ⟨(blk_cell BK643.out 0).trans rfl, (blk_cell BK643.out 1).trans rfl, ((HB.out.cell (World.block_lt_of_cell? w _ hw645_0)).trans hw645_0), ((HB.out.cell (World.block_lt_of_cell? w _ hw645_1)).trans hw645_1), ((HB.out.cell (World.block_lt_of_cell? w _ hw645_2)).trans hw645_2), ((HB.out.cell (World.block_lt_of_cell? w _ hw645_3)).trans hw645_3), ((HB.out.cell (World.block_lt_of_cell? w _ hw645_4)).trans hw645_4), ((HB.out.cell (World.block_lt_of_cell? w _ hw645_5)).trans hw645_5), ((HB.out.cell (World.block_lt_of_cell? w _ hw645_6)).trans hw645_6), ((HB.out.cell (World.block_lt_of_cell? w _ hw645_7)).trans hw645_7), ((HB.out.cell (World.block_lt_of_cell? w _ hw645_8)).trans hw645_8), ((HB.out.cell (World.block_lt_of_cell? w _ hw645_9)).trans hw645_9), ((HB.out.cell (World.block_lt_of_cell? w _ hw645_10)).trans hw645_10), ((HB.out.cell (World.block_lt_of_cell? w _ hw645_11)).trans hw645_11), ((HB.out.cell (World.block_lt_of_cell? w _ hw647_0)).trans hw647_0), ((HB.out.cell (World.block_lt_of_cell? w _ hw647_1)).trans hw647_1), ((HB.out.cell (World.block_lt_of_cell? w _ hw647_2)).trans hw647_2), ((HB.out.cell (World.block_lt_of_cell? w _ hw647_3)).trans hw647_3), ((HB.out.cell (World.block_lt_of_cell? w _ hw647_4)).trans hw647_4), ((HB.out.cell (World.block_lt_of_cell? w _ hw647_5)).trans hw647_5), ((HB.out.cell (World.block_lt_of_cell? w _ hw647_6)).trans hw647_6), ((HB.out.cell (World.block_lt_of_cell? w _ hw647_7)).trans hw647_7), ((HB.out.cell (World.block_lt_of_cell? w _ hw647_8)).trans hw647_8), ((HB.out.cell (World.block_lt_of_cell? w _ hw647_9)).trans hw647_9), ((HB.out.cell (World.block_lt_of_cell? w _ hw647_10)).trans hw647_10), ((HB.out.cell (World.block_lt_of_cell? w _ hw647_11)).trans hw647_11)⟩ (fun hHeld => ?_); refine with_tabW spec_SynVoterOk.tab6 spec_SynVoterOk.bits6 (fun HT_ HW_ => ?_)
          generalize wr.drew = w15 at BK643 HB hx645_0 hx645_1 hx645_10 hx645_11 hx645_2 hx645_3 hx645_4 hx645_5 hx645_6 hx645_7 hx645_8 hx645_9 hx647_0 hx647_1 hx647_10 hx647_11 hx647_2 hx647_3 hx647_4 hx647_5 hx647_6 hx647_7 hx647_8 hx647_9 hHeld ⊢
          refine pure_ (i := 0) (N := some 21) (v := ?_) (a' := ?_) #[true, false, false, false, false, false, false, false, false, false, false, false, false, false, false, false, false, false, false, false, false, false, false, false, false, false, false, false, false, false, false, false, false, false, false, false, false, false] rfl rfl (any_of HT_.out (by kernel_rfl)) (fun _ _ _ h => h) (Or.inl ⟨by rfl, ?_⟩) ?_ ?_
          rotate_left
          ·intro w'
           go_simp
           with_reducible rfl
          rotate_left
          ·simp only [Act.put, List.setIfInBounds_toArray, List.set_cons_zero, List.set_cons_succ, i64_w, i32_w]
           rfl
          refine pure_ (i := 2) (N := some 23) (v := ?_) (a' := ?_) #[true, false, true, false, false, false, false, false, false, false, false, false, false, false, false, false, false, false, false, false, false, false, false, false, false, false, false, false, false, false, false, false, false, false, false, false, false, false] rfl rfl (any_of HT_.out (by kernel_rfl)) (fun _ _ _ h => h) (Or.inl ⟨by rfl, ?_⟩) ?_ ?_
          rotate_left
          ·intro w'
           go_simp
           with_reducible rfl
          rotate_left
          ·simp only [Act.put, List.setIfInBounds_toArray, List.set_cons_zero, List.set_cons_succ, i64_w, i32_w]
           rfl
          refine take_ (i := 1) (N := some 22) (v := ?_) (a' := ?_) #[true, true, true, false, false, false, false, false, false, false, false, false, false, false, false, false, false, false, false, false, false, false, false, false, false, false, false, false, false, false, false, false, false, false, false, false, false, false] rfl rfl (take_ofW HT_.out HW_.out (by kernel_rfl)) (fun _ _ _ h => h) (Or.inl ⟨by rfl, ?_⟩) hHeld ?_ ?_
          rotate_left
          ·rintro w' ⟨s0, s1, s2, s3, s4, s5, s6, s7, s8, s9, s10, s11, s12, s13, s14, s15, s16, s17, s18, s19, s20, s21, s22, s23, s24, s25⟩
           go_simp
           with_reducible rfl
          rotate_left
          ·simp only [Act.put, List.setIfInBounds_toArray, List.set_cons_zero, List.set_cons_succ, i64_w, i32_w]
           rfl
          refine pure_ (i := 3) (N := some 24) (v := ?_) (a' := ?_) #[true, true, true, true, false, false, false, false, false, false, false, false, false, false, false, false, false, false, false, false, false, false, false, false, false, false, false, false, false, false, false, false, false, false, false, false, false, false] rfl rfl (any_of HT_.out (by kernel_rfl)) (fun _ _ _ h => h) (Or.inl ⟨by rfl, ?_⟩) ?_ ?_
          rotate_left
          ·intro w'
           go_simp
           with_reducible rfl
          rotate_left
          ·simp only [Act.put, List.setIfInBounds_toArray, List.set_cons_zero, List.set_cons_succ, i64_w, i32_w]
           rfl
          refine take_ (i := 4) (N := some 25) (v := ?_) (a' := ?_) #[true, true, true, true, true, false, false, false, false, false, false, false, false, false, false, false, false, false, false, false, false, false, false, false, false, false, false, false, false, false, false, false, false, false, false, false, false, false] rfl rfl (take_ofW HT_.out HW_.out (by kernel_rfl)) (fun _ _ _ h => h) (Or.inl ⟨by rfl, ?_⟩) hHeld ?_ ?_
          rotate_left
          ·rintro w' ⟨s0, s1, s2, s3, s4, s5, s6, s7, s8, s9, s10, s11, s12, s13, s14, s15, s16, s17, s18, s19, s20, s21, s22, s23, s24, s25⟩
           go_simp
           with_reducible rfl
          rotate_left
          ·simp only [Act.put, List.setIfInBounds_toArray, List.set_cons_zero, List.set_cons_succ, i64_w, i32_w]
           rfl
          refine one_ (i := 5) (N := some 26) #[true, true, true, true, true, true, false, false, false, false, false, false, false, false, false, false, false, false, false, false, false, false, false, false, false, false, false, false, false, false, false, false, false, false, false, false, false, false] rfl rfl (one_of HT_.out (by kernel_rfl)) (by decide) (fun K hK => ?_)
          refine goes_ Try.func86 (by kernel_rfl) rfl #[.agg #[.int .i64 ((rd_T64 l0_1 x3_2).f0), .int .i64 ((rd_T64 l0_1 x3_2).f1), .int .i64 ((rd_T64 l0_1 x3_2).f2.f0), .int .i64 ((rd_T64 l0_1 x3_2).f2.f1), .int .i64 ((rd_T64 l0_1 x3_2).f2.f2), .int .i64 ((rd_T64 l0_1 x3_2).f2.f3), .int .i64 ((rd_T64 l0_1 x3_2).f2.f4), .int .i64 ((rd_T64 l0_1 x3_2).f2.f5), .int .i64 ((rd_T64 l0_1 x3_2).f2.f6), .int .i64 ((rd_T64 l0_1 x3_2).f2.f7), .int .i64 ((rd_T64 l0_1 x3_2).f2.f8), .int .i64 ((rd_T64 l0_1 x3_2).f2.f9)]] (by rfl) rfl rfl bM ?_
          with_reducible refine (spec_l21PaperOk.calls ((rd_T64 l0_1 x3_2).f0) ((rd_T64 l0_1 x3_2).f1) ((rd_T64 l0_1 x3_2).f2.f0) ((rd_T64 l0_1 x3_2).f2.f1) ((rd_T64 l0_1 x3_2).f2.f2) ((rd_T64 l0_1 x3_2).f2.f3) ((rd_T64 l0_1 x3_2).f2.f4) ((rd_T64 l0_1 x3_2).f2.f5) ((rd_T64 l0_1 x3_2).f2.f6) ((rd_T64 l0_1 x3_2).f2.f7) ((rd_T64 l0_1 x3_2).f2.f8) ((rd_T64 l0_1 x3_2).f2.f9) true _ A11.out).mono ?_
          rintro e w16 ⟨rfl, hb⟩
          refine ⟨_, rfl, ?_⟩
          have n0_ := Aside0.mk (blk_below (pK BK643.out) hb)
          have n1_ := Aside0.mk (below_step (pS HB.out) hb)
          clear BK643
          clear HB
          have BK643 := n0_
          have HB := n1_
          clear n0_ n1_
          (try clear hb)
          (try clear hb2)
          (try clear hk)
          (try clear hi)
          refine hK.out _ _ ⟨(blk_cell BK643.out 0).trans rfl, (blk_cell BK643.out 1).trans rfl, ((HB.out.cell (World.block_lt_of_cell? w _ hw645_0)).trans hw645_0), ((HB.out.cell (World.block_lt_of_cell? w _ hw645_1)).trans hw645_1), ((HB.out.cell (World.block_lt_of_cell? w _ hw645_2)).trans hw645_2), ((HB.out.cell (World.block_lt_of_cell? w _ hw645_3)).trans hw645_3), ((HB.out.cell (World.block_lt_of_cell? w _ hw645_4)).trans hw645_4), ((HB.out.cell (World.block_lt_of_cell? w _ hw645_5)).trans hw645_5), ((HB.out.cell (World.block_lt_of_cell? w _ hw645_6)).trans hw645_6), ((HB.out.cell (World.block_lt_of_cell? w _ hw645_7)).trans hw645_7), ((HB.out.cell (World.block_lt_of_cell? w _ hw645_8)).trans hw645_8), ((HB.out.cell (World.block_lt_of_cell? w _ hw645_9)).trans hw645_9), ((HB.out.cell (World.block_lt_of_cell? w _ hw645_10)).trans hw645_10), ((HB.out.cell (World.block_lt_of_cell? w _ hw645_11)).trans hw645_11), ((HB.out.cell (World.block_lt_of_cell? w _ hw647_0)).trans hw647_0), ((HB.out.cell (World.block_lt_of_cell? w _ hw647_1)).trans hw647_1), ((HB.out.cell (World.block_lt_of_cell? w _ hw647_2)).trans hw647_2), ((HB.out.cell (World.block_lt_of_cell? w _ hw647_3)).trans hw647_3), ((HB.out.cell (World.block_lt_of_cell? w _ hw647_4)).trans hw647_4), ((HB.out.cell (World.block_lt_of_cell? w _ hw647_5)).trans hw647_5), ((HB.out.cell (World.block_lt_of_cell? w _ hw647_6)).trans hw647_6), ((HB.out.cell (World.block_lt_of_cell? w _ hw647_7)).trans hw647_7), ((HB.out.cell (World.block_lt_of_cell? w _ hw647_8)).trans hw647_8), ((HB.out.cell (World.block_lt_of_cell? w _ hw647_9)).trans hw647_9), ((HB.out.cell (World.block_lt_of_cell? w _ hw647_10)).trans hw647_10), ((HB.out.cell (World.block_lt_of_cell? w _ hw647_11)).trans hw647_11)⟩ (fun hHeld => ?_)
          clear hK K
          refine norm_ (a' := ?_) ?_ ?_
          rotate_left
          ·show Act.put _ (some 26) _ = _
           simp only [Act.put, List.setIfInBounds_toArray, List.set_cons_zero, List.set_cons_succ, i64_w, i32_w]
           rfl
          refine pure_ (i := 6) (N := some 27) (v := ?_) (a' := ?_) #[true, true, true, true, true, true, true, false, false, false, false, false, false, false, false, false, false, false, false, false, false, false, false, false, false, false, false, false, false, false, false, false, false, false, false, false, false, false] rfl rfl (any_of HT_.out (by kernel_rfl)) (fun _ _ _ h => h) (Or.inl ⟨by rfl, ?_⟩) ?_ ?_
          rotate_left
          ·intro w'
           go_simp
           with_reducible rfl
          rotate_left
          ·simp only [Act.put, List.setIfInBounds_toArray, List.set_cons_zero, List.set_cons_succ, i64_w, i32_w]
           rfl
          refine pure_ (i := 7) (N := some 28) (v := ?_) (a' := ?_) #[true, true, true, true, true, true, true, true, false, false, false, false, false, false, false, false, false, false, false, false, false, false, false, false, false, false, false, false, false, false, false, false, false, false, false, false, false, false] rfl rfl (any_of HT_.out (by kernel_rfl)) (fun _ _ _ h => h) (Or.inl ⟨by rfl, ?_⟩) ?_ ?_
          rotate_left
          ·intro w'
           go_simp
           with_reducible rfl
          rotate_left
          ·simp only [Act.put, List.setIfInBounds_toArray, List.set_cons_zero, List.set_cons_succ, i64_w, i32_w]
           rfl
          refine pure_ (i := 8) (N := some 29) (v := ?_) (a' := ?_) #[true, true, true, true, true, true, true, true, true, false, false, false, false, false, false, false, false, false, false, false, false, false, false, false, false, false, false, false, false, false, false, false, false, false, false, false, false, false] rfl rfl (any_of HT_.out (by kernel_rfl)) (fun _ _ _ h => h) (Or.inl ⟨by rfl, ?_⟩) ?_ ?_
          rotate_left
          ·intro w'
           go_simp
           with_reducible rfl
          rotate_left
          ·simp only [Act.put, List.setIfInBounds_toArray, List.set_cons_zero, List.set_cons_succ, i64_w, i32_w]
           rfl
          refine pure_ (i := 10) (N := some 31) (v := ?_) (a' := ?_) #[true, true, true, true, true, true, true, true, true, false, true, false, false, false, false, false, false, false, false, false, false, false, false, false, false, false, false, false, false, false, false, false, false, false, false, false, false, false] rfl rfl (any_of HT_.out (by kernel_rfl)) (fun _ _ _ h => h) (Or.inl ⟨by rfl, ?_⟩) ?_ ?_
          rotate_left
          ·intro w'
           go_simp
           with_reducible rfl
          rotate_left
          ·simp only [Act.put, List.setIfInBounds_toArray, List.set_cons_zero, List.set_cons_succ, i64_w, i32_w]
           rfl
          refine pure_ (i := 14) (N := some 35) (v := ?_) (a' := ?_) #[true, true, true, true, true, true, true, true, true, false, true, false, false, false, true, false, false, false, false, false, false, false, false, false, false, false, false, false, false, false, false, false, false, false, false, false, false, false] rfl rfl (any_of HT_.out (by kernel_rfl)) (fun _ _ _ h => h) (Or.inl ⟨by rfl, ?_⟩) ?_ ?_
          rotate_left
          ·intro w'
           go_simp
           with_reducible rfl
          rotate_left
          ·simp only [Act.put, List.setIfInBounds_toArray, List.set_cons_zero, List.set_cons_succ, i64_w, i32_w]
           rfl
          refine take_ (i := 9) (N := some 30) (v := ?_) (a' := ?_) #[true, true, true, true, true, true, true, true, true, true, true, false, false, false, true, false, false, false, false, false, false, false, false, false, false, false, false, false, false, false, false, false, false, false, false, false, false, false] rfl rfl (take_ofW HT_.out HW_.out (by kernel_rfl)) (fun _ _ _ h => h) (Or.inl ⟨by rfl, ?_⟩) hHeld ?_ ?_
          rotate_left
          ·rintro w' ⟨s0, s1, s2, s3, s4, s5, s6, s7, s8, s9, s10, s11, s12, s13, s14, s15, s16, s17, s18, s19, s20, s21, s22, s23, s24, s25⟩
           go_simp
           with_reducible rfl
          rotate_left
          ·simp only [Act.put, List.setIfInBounds_toArray, List.set_cons_zero, List.set_cons_succ, i64_w, i32_w]
           rfl
          refine pure_ (i := 11) (N := some 32) (v := ?_) (a' := ?_) #[true, true, true, true, true, true, true, true, true, true, true, true, false, false, true, false, false, false, false, false, false, false, false, false, false, false, false, false, false, false, false, false, false, false, false, false, false, false] rfl rfl (any_of HT_.out (by kernel_rfl)) (fun _ _ _ h => h) (Or.inl ⟨by rfl, ?_⟩) ?_ ?_
          rotate_left
          ·intro w'
           go_simp
           with_reducible rfl
          rotate_left
          ·simp only [Act.put, List.setIfInBounds_toArray, List.set_cons_zero, List.set_cons_succ, i64_w, i32_w]
           rfl
          refine pure_ (i := 12) (N := some 33) (v := ?_) (a' := ?_) #[true, true, true, true, true, true, true, true, true, true, true, true, true, false, true, false, false, false, false, false, false, false, false, false, false, false, false, false, false, false, false, false, false, false, false, false, false, false] rfl rfl (any_of HT_.out (by kernel_rfl)) (fun _ _ _ h => h) (Or.inl ⟨by rfl, ?_⟩) ?_ ?_
          rotate_left
          ·intro w'
           go_simp
           with_reducible rfl
          rotate_left
          ·simp only [Act.put, List.setIfInBounds_toArray, List.set_cons_zero, List.set_cons_succ, i64_w, i32_w]
           rfl
          refine take_ (i := 13) (N := some 34) (v := ?_) (a' := ?_) #[true, true, true, true, true, true, true, true, true, true, true, true, true, true, true, false, false, false, false, false, false, false, false, false, false, false, false, false, false, false, false, false, false, false, false, false, false, false] rfl rfl (take_ofW HT_.out HW_.out (by kernel_rfl)) (fun _ _ _ h => h) (Or.inl ⟨by rfl, ?_⟩) hHeld ?_ ?_
          rotate_left
          ·rintro w' ⟨s0, s1, s2, s3, s4, s5, s6, s7, s8, s9, s10, s11, s12, s13, s14, s15, s16, s17, s18, s19, s20, s21, s22, s23, s24, s25⟩
           go_simp
           with_reducible rfl
          rotate_left
          ·simp only [Act.put, List.setIfInBounds_toArray, List.set_cons_zero, List.set_cons_succ, i64_w, i32_w]
           rfl
          refine take_ (i := 15) (N := some 36) (v := ?_) (a' := ?_) #[true, true, true, true, true, true, true, true, true, true, true, true, true, true, true, true, false, false, false, false, false, false, false, false, false, false, false, false, false, false, false, false, false, false, false, false, false, false] rfl rfl (take_ofW HT_.out HW_.out (by kernel_rfl)) (fun _ _ _ h => h) (Or.inl ⟨by rfl, ?_⟩) hHeld ?_ ?_
          rotate_left
          ·rintro w' ⟨s0, s1, s2, s3, s4, s5, s6, s7, s8, s9, s10, s11, s12, s13, s14, s15, s16, s17, s18, s19, s20, s21, s22, s23, s24, s25⟩
           go_simp
           with_reducible rfl
          rotate_left
          ·simp only [Act.put, List.setIfInBounds_toArray, List.set_cons_zero, List.set_cons_succ, i64_w, i32_w]
           rfl
          refine pure_ (i := 16) (N := some 37) (v := ?_) (a' := ?_) #[true, true, true, true, true, true, true, true, true, true, true, true, true, true, true, true, true, false, false, false, false, false, false, false, false, false, false, false, false, false, false, false, false, false, false, false, false, false] rfl rfl (any_of HT_.out (by kernel_rfl)) (fun _ _ _ h => h) (Or.inl ⟨by rfl, ?_⟩) ?_ ?_
          rotate_left
          ·intro w'
           go_simp
           with_reducible rfl
          rotate_left
          ·simp only [Act.put, List.setIfInBounds_toArray, List.set_cons_zero, List.set_cons_succ, i64_w, i32_w]
           rfl
          refine pure_ (i := 17) (N := some 38) (v := ?_) (a' := ?_) #[true, true, true, true, true, true, true, true, true, true, true, true, true, true, true, true, true, true, false, false, false, false, false, false, false, false, false, false, false, false, false, false, false, false, false, false, false, false] rfl rfl (any_of HT_.out (by kernel_rfl)) (fun _ _ _ h => h) (Or.inl ⟨by rfl, ?_⟩) ?_ ?_
          rotate_left
          ·intro w'
           go_simp
           with_reducible rfl
          rotate_left
          ·simp only [Act.put, List.setIfInBounds_toArray, List.set_cons_zero, List.set_cons_succ, i64_w, i32_w]
           rfl
          refine pure_ (i := 18) (N := some 39) (v := ?_) (a' := ?_) #[true, true, true, true, true, true, true, true, true, true, true, true, true, true, true, true, true, true, true, false, false, false, false, false, false, false, false, false, false, false, false, false, false, false, false, false, false, false] rfl rfl (any_of HT_.out (by kernel_rfl)) (fun _ _ _ h => h) (Or.inl ⟨by rfl, ?_⟩) ?_ ?_
          rotate_left
          ·intro w'
           go_simp
           with_reducible rfl
          rotate_left
          ·simp only [Act.put, List.setIfInBounds_toArray, List.set_cons_zero, List.set_cons_succ, i64_w, i32_w]
           rfl
          refine pure_ (i := 19) (N := some 40) (v := undef) (a' := ?_) #[true, true, true, true, true, true, true, true, true, true, true, true, true, true, true, true, true, true, true, true, false, false, false, false, false, false, false, false, false, false, false, false, false, false, false, false, false, false] rfl rfl (any_of HT_.out (by kernel_rfl)) (fun _ _ _ h => h) (Or.inr ⟨by rfl, rfl⟩) ?_ ?_
          rotate_left
          ·simp only [Act.put, List.setIfInBounds_toArray, List.set_cons_zero, List.set_cons_succ, i64_w, i32_w]
           rfl
          refine pure_ (i := 20) (N := some 41) (v := undef) (a' := ?_) #[true, true, true, true, true, true, true, true, true, true, true, true, true, true, true, true, true, true, true, true, true, false, false, false, false, false, false, false, false, false, false, false, false, false, false, false, false, false] rfl rfl (any_of HT_.out (by kernel_rfl)) (fun _ _ _ h => h) (Or.inr ⟨by rfl, rfl⟩) ?_ ?_
          rotate_left
          ·simp only [Act.put, List.setIfInBounds_toArray, List.set_cons_zero, List.set_cons_succ, i64_w, i32_w]
           rfl
          refine pure_ (i := 21) (N := some 42) (v := undef) (a' := ?_) #[true, true, true, true, true, true, true, true, true, true, true, true, true, true, true, true, true, true, true, true, true, true, false, false, false, false, false, false, false, false, false, false, false, false, false, false, false, false] rfl rfl (any_of HT_.out (by kernel_rfl)) (fun _ _ _ h => h) (Or.inr ⟨by rfl, rfl⟩) ?_ ?_
          rotate_left
          ·simp only [Act.put, List.setIfInBounds_toArray, List.set_cons_zero, List.set_cons_succ, i64_w, i32_w]
           rfl
          refine pure_ (i := 22) (N := some 43) (v := undef) (a' := ?_) #[true, true, true, true, true, true, true, true, true, true, true, true, true, true, true, true, true, true, true, true, true, true, true, false, false, false, false, false, false, false, false, false, false, false, false, false, false, false] rfl rfl (any_of HT_.out (by kernel_rfl)) (fun _ _ _ h => h) (Or.inr ⟨by rfl, rfl⟩) ?_ ?_
          rotate_left
          ·simp only [Act.put, List.setIfInBounds_toArray, List.set_cons_zero, List.set_cons_succ, i64_w, i32_w]
           rfl
          refine pure_ (i := 23) (N := some 44) (v := undef) (a' := ?_) #[true, true, true, true, true, true, true, true, true, true, true, true, true, true, true, true, true, true, true, true, true, true, true, true, false, false, false, false, false, false, false, false, false, false, false, false, false, false] rfl rfl (any_of HT_.out (by kernel_rfl)) (fun _ _ _ h => h) (Or.inr ⟨by rfl, rfl⟩) ?_ ?_
          rotate_left
          ·simp only [Act.put, List.setIfInBounds_toArray, List.set_cons_zero, List.set_cons_succ, i64_w, i32_w]
           rfl
          refine pure_ (i := 24) (N := some 45) (v := undef) (a' := ?_) #[true, true, true, true, true, true, true, true, true, true, true, true, true, true, true, true, true, true, true, true, true, true, true, true, true, false, false, false, false, false, false, false, false, false, false, false, false, false] rfl rfl (any_of HT_.out (by kernel_rfl)) (fun _ _ _ h => h) (Or.inr ⟨by rfl, rfl⟩) ?_ ?_
          rotate_left
          ·simp only [Act.put, List.setIfInBounds_toArray, List.set_cons_zero, List.set_cons_succ, i64_w, i32_w]
           rfl
          refine pure_ (i := 25) (N := some 46) (v := undef) (a' := ?_) #[true, true, true, true, true, true, true, true, true, true, true, true, true, true, true, true, true, true, true, true, true, true, true, true, true, true, false, false, false, false, false, false, false, false, false, false, false, false] rfl rfl (any_of HT_.out (by kernel_rfl)) (fun _ _ _ h => h) (Or.inr ⟨by rfl, rfl⟩) ?_ ?_
          rotate_left
          ·simp only [Act.put, List.setIfInBounds_toArray, List.set_cons_zero, List.set_cons_succ, i64_w, i32_w]
           rfl
          refine pure_ (i := 26) (N := some 47) (v := undef) (a' := ?_) #[true, true, true, true, true, true, true, true, true, true, true, true, true, true, true, true, true, true, true, true, true, true, true, true, true, true, true, false, false, false, false, false, false, false, false, false, false, false] rfl rfl (any_of HT_.out (by kernel_rfl)) (fun _ _ _ h => h) (Or.inr ⟨by rfl, rfl⟩) ?_ ?_
          rotate_left
          ·simp only [Act.put, List.setIfInBounds_toArray, List.set_cons_zero, List.set_cons_succ, i64_w, i32_w]
           rfl
          refine pure_ (i := 27) (N := some 48) (v := undef) (a' := ?_) #[true, true, true, true, true, true, true, true, true, true, true, true, true, true, true, true, true, true, true, true, true, true, true, true, true, true, true, true, false, false, false, false, false, false, false, false, false, false] rfl rfl (any_of HT_.out (by kernel_rfl)) (fun _ _ _ h => h) (Or.inr ⟨by rfl, rfl⟩) ?_ ?_
          rotate_left
          ·simp only [Act.put, List.setIfInBounds_toArray, List.set_cons_zero, List.set_cons_succ, i64_w, i32_w]
           rfl
          refine pure_ (i := 28) (N := some 49) (v := undef) (a' := ?_) #[true, true, true, true, true, true, true, true, true, true, true, true, true, true, true, true, true, true, true, true, true, true, true, true, true, true, true, true, true, false, false, false, false, false, false, false, false, false] rfl rfl (any_of HT_.out (by kernel_rfl)) (fun _ _ _ h => h) (Or.inr ⟨by rfl, rfl⟩) ?_ ?_
          rotate_left
          ·simp only [Act.put, List.setIfInBounds_toArray, List.set_cons_zero, List.set_cons_succ, i64_w, i32_w]
           rfl
          refine pure_ (i := 29) (N := some 50) (v := undef) (a' := ?_) #[true, true, true, true, true, true, true, true, true, true, true, true, true, true, true, true, true, true, true, true, true, true, true, true, true, true, true, true, true, true, false, false, false, false, false, false, false, false] rfl rfl (any_of HT_.out (by kernel_rfl)) (fun _ _ _ h => h) (Or.inr ⟨by rfl, rfl⟩) ?_ ?_
          rotate_left
          ·simp only [Act.put, List.setIfInBounds_toArray, List.set_cons_zero, List.set_cons_succ, i64_w, i32_w]
           rfl
          refine pure_ (i := 30) (N := some 51) (v := undef) (a' := ?_) #[true, true, true, true, true, true, true, true, true, true, true, true, true, true, true, true, true, true, true, true, true, true, true, true, true, true, true, true, true, true, true, false, false, false, false, false, false, false] rfl rfl (any_of HT_.out (by kernel_rfl)) (fun _ _ _ h => h) (Or.inr ⟨by rfl, rfl⟩) ?_ ?_
          rotate_left
          ·simp only [Act.put, List.setIfInBounds_toArray, List.set_cons_zero, List.set_cons_succ, i64_w, i32_w]
           rfl
          refine pure_ (i := 31) (N := some 52) (v := undef) (a' := ?_) #[true, true, true, true, true, true, true, true, true, true, true, true, true, true, true, true, true, true, true, true, true, true, true, true, true, true, true, true, true, true, true, true, false, false, false, false, false, false] rfl rfl (any_of HT_.out (by kernel_rfl)) (fun _ _ _ h => h) (Or.inr ⟨by rfl, rfl⟩) ?_ ?_
          rotate_left
          ·simp only [Act.put, List.setIfInBounds_toArray, List.set_cons_zero, List.set_cons_succ, i64_w, i32_w]
           rfl
          refine pure_ (i := 32) (N := some 53) (v := undef) (a' := ?_) #[true, true, true, true, true, true, true, true, true, true, true, true, true, true, true, true, true, true, true, true, true, true, true, true, true, true, true, true, true, true, true, true, true, false, false, false, false, false] rfl rfl (any_of HT_.out (by kernel_rfl)) (fun _ _ _ h => h) (Or.inr ⟨by rfl, rfl⟩) ?_ ?_
          rotate_left
          ·simp only [Act.put, List.setIfInBounds_toArray, List.set_cons_zero, List.set_cons_succ, i64_w, i32_w]
           rfl
          refine pure_ (i := 33) (N := some 54) (v := undef) (a' := ?_) #[true, true, true, true, true, true, true, true, true, true, true, true, true, true, true, true, true, true, true, true, true, true, true, true, true, true, true, true, true, true, true, true, true, true, false, false, false, false] rfl rfl (any_of HT_.out (by kernel_rfl)) (fun _ _ _ h => h) (Or.inr ⟨by rfl, rfl⟩) ?_ ?_
          rotate_left
          ·simp only [Act.put, List.setIfInBounds_toArray, List.set_cons_zero, List.set_cons_succ, i64_w, i32_w]
           rfl
          refine pure_ (i := 34) (N := some 55) (v := undef) (a' := ?_) #[true, true, true, true, true, true, true, true, true, true, true, true, true, true, true, true, true, true, true, true, true, true, true, true, true, true, true, true, true, true, true, true, true, true, true, false, false, false] rfl rfl (any_of HT_.out (by kernel_rfl)) (fun _ _ _ h => h) (Or.inr ⟨by rfl, rfl⟩) ?_ ?_
          rotate_left
          ·simp only [Act.put, List.setIfInBounds_toArray, List.set_cons_zero, List.set_cons_succ, i64_w, i32_w]
           rfl
          refine pure_ (i := 35) (N := some 56) (v := undef) (a' := ?_) #[true, true, true, true, true, true, true, true, true, true, true, true, true, true, true, true, true, true, true, true, true, true, true, true, true, true, true, true, true, true, true, true, true, true, true, true, false, false] rfl rfl (any_of HT_.out (by kernel_rfl)) (fun _ _ _ h => h) (Or.inr ⟨by rfl, rfl⟩) ?_ ?_
          rotate_left
          ·simp only [Act.put, List.setIfInBounds_toArray, List.set_cons_zero, List.set_cons_succ, i64_w, i32_w]
           rfl
          refine pure_ (i := 36) (N := some 57) (v := undef) (a' := ?_) #[true, true, true, true, true, true, true, true, true, true, true, true, true, true, true, true, true, true, true, true, true, true, true, true, true, true, true, true, true, true, true, true, true, true, true, true, true, false] rfl rfl (any_of HT_.out (by kernel_rfl)) (fun _ _ _ h => h) (Or.inr ⟨by rfl, rfl⟩) ?_ ?_
          rotate_left
          ·simp only [Act.put, List.setIfInBounds_toArray, List.set_cons_zero, List.set_cons_succ, i64_w, i32_w]
           rfl
          refine pure_ (i := 37) (N := some 58) (v := ?_) (a' := ?_) #[true, true, true, true, true, true, true, true, true, true, true, true, true, true, true, true, true, true, true, true, true, true, true, true, true, true, true, true, true, true, true, true, true, true, true, true, true, true] rfl rfl (any_of HT_.out (by kernel_rfl)) (fun _ _ _ h => h) (Or.inl ⟨by rfl, ?_⟩) ?_ ?_
          rotate_left
          ·intro w'
           go_simp
           with_reducible rfl
          rotate_left
          ·simp only [Act.put, List.setIfInBounds_toArray, List.set_cons_zero, List.set_cons_succ, i64_w, i32_w]
           rfl
          refine done_ (done_of HT_.out (by kernel_rfl)) ?_
          try go_wp2
          go_ret
          exact ⟨by first | rfl | (simp [errW_none, errW_some] <;> rfl) | (simp [*, errW_none, errW_some] <;> rfl), pS HB.out⟩
         ·rw [if_neg c13] at H
          have c13b0 : decide (a0_0 < ((rd_T64 l0_1 x3_2).f1)) = false := decide_eq_false c13
          clear c13
          by_cases c17 : x3_2 > 0
          ·rw [if_pos c17] at H
           have c17b0 : decide (0 < x3_2) = true := decide_eq_true c17
           clear c17
           obtain ⟨ji18, hji18⟩ : ∃ j_ : Int, (wrap64 (x3_2 - 1)) = j_ := ⟨_, rfl⟩
           replace H : (if 0 ≤ (ji18) then (if (ji18) < (l0_1.length : Int) then (if ((rd_T64 l0_1 (ji18)).f0) ≥ ((rd_T64 l0_1 x3_2).f0) then (some false) else (spec_SynVoterOk.l0 k2 (wrap64 (x3_2 + 1)) a0_0 l0_1)) else (none)) else (none)) = some r := by first | (rw [hji18] at H; exact H) | (simp only [hji18] at H ⊢; exact H)
           (try rw [hji18] at A11)
           have hji18w : (IntKind.i64.wrap (x3_2 - 1)) = ji18 := (i64_w _).trans hji18
           by_cases c19 : 0 ≤ (ji18)
           ·rw [if_pos c19] at H
            have c19b0 : decide (0 ≤ (ji18)) = true := decide_eq_true c19
            clear c19
            by_cases c20 : (ji18) < (l0_1.length : Int)
            ·rw [if_pos c20] at H
             have c20b0 : decide ((ji18) < (l0_1.length : Int)) = true := decide_eq_true c20
             clear c20
             by_cases c21 : ((rd_T64 l0_1 (ji18)).f0) ≥ ((rd_T64 l0_1 x3_2).f0)
             ·rw [if_pos c21] at H
              have c21b0 : decide (((rd_T64 l0_1 x3_2).f0) ≤ ((rd_T64 l0_1 (ji18)).f0)) = true := decide_eq_true c21
              clear c21
              obtain rfl := Option.some.inj H
              have hcz22_0 : wr.cell? ⟨gb643, 0, none⟩ = some (.int .i64 a0_0) := (blk_cell BK643.out 0).trans rfl
              have hcz22_1 : wr.cell? ⟨gb643, 1, none⟩ = some (.slice A0_1 l0_1.length c0_1) := (blk_cell BK643.out 1).trans rfl
              have hfz22_0 := blk_frozen BK643.out 0
              have hfz22_1 := blk_frozen BK643.out 1
              try go_wp2
              have n0_ := Aside0.mk (blk_drew BK643.out)
              have n1_ := Aside0.mk (below_drew1 HB.out)
              clear BK643
              clear HB
              have BK643 := n0_
              have HB := n1_
              clear n0_ n1_
              have p645 : 0 ≤ (x3_2 : Int) := of_decide_eq_true bA
              have q645 : x3_2 < (l0_1.length : Int) := of_decide_eq_true bA
              obtain ⟨ad645, e645, hx645_0, hx645_1, hx645_2, hx645_3, hx645_4, hx645_5, hx645_6, hx645_7, hx645_8, hx645_9, hx645_10, hx645_11⟩ := at_T64 HR0_1.out x3_2 p645 q645
              have hw645_11 := hx645_11
              have hw645_10 := hx645_10
              have hw645_9 := hx645_9
              have hw645_8 := hx645_8
              have hw645_7 := hx645_7
              have hw645_6 := hx645_6
              have hw645_5 := hx645_5
              have hw645_4 := hx645_4
              have hw645_3 := hx645_3
              have hw645_2 := hx645_2
              have hw645_1 := hx645_1
              have hw645_0 := hx645_0
              cases e645
              replace hx645_0 := (HB.out.cell (World.block_lt_of_cell? w _ hx645_0)).trans hx645_0
              replace hx645_1 := (HB.out.cell (World.block_lt_of_cell? w _ hx645_1)).trans hx645_1
              replace hx645_2 := (HB.out.cell (World.block_lt_of_cell? w _ hx645_2)).trans hx645_2
              replace hx645_3 := (HB.out.cell (World.block_lt_of_cell? w _ hx645_3)).trans hx645_3
              replace hx645_4 := (HB.out.cell (World.block_lt_of_cell? w _ hx645_4)).trans hx645_4
              replace hx645_5 := (HB.out.cell (World.block_lt_of_cell? w _ hx645_5)).trans hx645_5
              replace hx645_6 := (HB.out.cell (World.block_lt_of_cell? w _ hx645_6)).trans hx645_6
              replace hx645_7 := (HB.out.cell (World.block_lt_of_cell? w _ hx645_7)).trans hx645_7
              replace hx645_8 := (HB.out.cell (World.block_lt_of_cell? w _ hx645_8)).trans hx645_8
              replace hx645_9 := (HB.out.cell (World.block_lt_of_cell? w _ hx645_9)).trans hx645_9
              replace hx645_10 := (HB.out.cell (World.block_lt_of_cell? w _ hx645_10)).trans hx645_10
              replace hx645_11 := (HB.out.cell (World.block_lt_of_cell? w _ hx645_11)).trans hx645_11
              replace p645 := eq_true p645
              replace q645 := eq_true q645
              have p647 : 0 ≤ (x3_2 : Int) := of_decide_eq_true bA
              have q647 : x3_2 < (l0_1.length : Int) := of_decide_eq_true bA
              obtain ⟨ad647, e647, hx647_0, hx647_1, hx647_2, hx647_3, hx647_4, hx647_5, hx647_6, hx647_7, hx647_8, hx647_9, hx647_10, hx647_11⟩ := at_T64 HR0_1.out x3_2 p647 q647
              have hw647_11 := hx647_11
              have hw647_10 := hx647_10
              have hw647_9 := hx647_9
              have hw647_8 := hx647_8
              have hw647_7 := hx647_7
              have hw647_6 := hx647_6
              have hw647_5 := hx647_5
              have hw647_4 := hx647_4
              have hw647_3 := hx647_3
              have hw647_2 := hx647_2
              have hw647_1 := hx647_1
              have hw647_0 := hx647_0
              obtain rfl : ad645 = ad647 := (by injection e647)
              replace hx647_0 := (HB.out.cell (World.block_lt_of_cell? w _ hx647_0)).trans hx647_0
              replace hx647_1 := (HB.out.cell (World.block_lt_of_cell? w _ hx647_1)).trans hx647_1
              replace hx647_2 := (HB.out.cell (World.block_lt_of_cell? w _ hx647_2)).trans hx647_2
              replace hx647_3 := (HB.out.cell (World.block_lt_of_cell? w _ hx647_3)).trans hx647_3
              replace hx647_4 := (HB.out.cell (World.block_lt_of_cell? w _ hx647_4)).trans hx647_4
              replace hx647_5 := (HB.out.cell (World.block_lt_of_cell? w _ hx647_5)).trans hx647_5
              replace hx647_6 := (HB.out.cell (World.block_lt_of_cell? w _ hx647_6)).trans hx647_6
              replace hx647_7 := (HB.out.cell (World.block_lt_of_cell? w _ hx647_7)).trans hx647_7
              replace hx647_8 := (HB.out.cell (World.block_lt_of_cell? w _ hx647_8)).trans hx647_8
              replace hx647_9 := (HB.out.cell (World.block_lt_of_cell? w _ hx647_9)).trans hx647_9
              replace hx647_10 := (HB.out.cell (World.block_lt_of_cell? w _ hx647_10)).trans hx647_10
              replace hx647_11 := (HB.out.cell (World.block_lt_of_cell? w _ hx647_11)).trans hx647_11
              replace p647 := eq_true p647
              replace q647 := eq_true q647
              have p648 : 0 ≤ ((ji18) : Int) := of_decide_eq_true bA
              have q648 : (ji18) < (l0_1.length : Int) := of_decide_eq_true bA
              obtain ⟨ad648, e648, hx648_0, hx648_1, hx648_2, hx648_3, hx648_4, hx648_5, hx648_6, hx648_7, hx648_8, hx648_9, hx648_10, hx648_11⟩ := at_T64 HR0_1.out (ji18) p648 q648
              have hw648_11 := hx648_11
              have hw648_10 := hx648_10
              have hw648_9 := hx648_9
              have hw648_8 := hx648_8
              have hw648_7 := hx648_7
              have hw648_6 := hx648_6
              have hw648_5 := hx648_5
              have hw648_4 := hx648_4
              have hw648_3 := hx648_3
              have hw648_2 := hx648_2
              have hw648_1 := hx648_1
              have hw648_0 := hx648_0
              obtain rfl : ad645 = ad648 := (by injection e648)
              replace hx648_0 := (HB.out.cell (World.block_lt_of_cell? w _ hx648_0)).trans hx648_0
              replace hx648_1 := (HB.out.cell (World.block_lt_of_cell? w _ hx648_1)).trans hx648_1
              replace hx648_2 := (HB.out.cell (World.block_lt_of_cell? w _ hx648_2)).trans hx648_2
              replace hx648_3 := (HB.out.cell (World.block_lt_of_cell? w _ hx648_3)).trans hx648_3
              replace hx648_4 := (HB.out.cell (World.block_lt_of_cell? w _ hx648_4)).trans hx648_4
              replace hx648_5 := (HB.out.cell (World.block_lt_of_cell? w _ hx648_5)).trans hx648_5
              replace hx648_6 := (HB.out.cell (World.block_lt_of_cell? w _ hx648_6)).trans hx648_6
              replace hx648_7 := (HB.out.cell (World.block_lt_of_cell? w _ hx648_7)).trans hx648_7
              replace hx648_8 := (HB.out.cell (World.block_lt_of_cell? w _ hx648_8)).trans hx648_8
              replace hx648_9 := (HB.out.cell (World.block_lt_of_cell? w _ hx648_9)).trans hx648_9
              replace hx648_10 := (HB.out.cell (World.block_lt_of_cell? w _ hx648_10)).trans hx648_10
              replace hx648_11 := (HB.out.cell (World.block_lt_of_cell? w _ hx648_11)).trans hx648_11
              replace p648 := eq_true p648
              replace q648 := eq_true q648
              have p649 : 0 ≤ (x3_2 : Int) := of_decide_eq_true bA
              have q649 : x3_2 < (l0_1.length : Int) := of_decide_eq_true bA
              obtain ⟨ad649, e649, hx649_0, hx649_1, hx649_2, hx649_3, hx649_4, hx649_5, hx649_6, hx649_7, hx649_8, hx649_9, hx649_10, hx649_11⟩ := at_T64 HR0_1.out x3_2 p649 q649
              have hw649_11 := hx649_11
              have hw649_10 := hx649_10
              have hw649_9 := hx649_9
              have hw649_8 := hx649_8
              have hw649_7 := hx649_7
              have hw649_6 := hx649_6
              have hw649_5 := hx649_5
              have hw649_4 := hx649_4
              have hw649_3 := hx649_3
              have hw649_2 := hx649_2
              have hw649_1 := hx649_1
              have hw649_0 := hx649_0
              obtain rfl : ad645 = ad649 := (by injection e649)
              replace hx649_0 := (HB.out.cell (World.block_lt_of_cell? w _ hx649_0)).trans hx649_0
              replace hx649_1 := (HB.out.cell (World.block_lt_of_cell? w _ hx649_1)).trans hx649_1
              replace hx649_2 := (HB.out.cell (World.block_lt_of_cell? w _ hx649_2)).trans hx649_2
              replace hx649_3 := (HB.out.cell (World.block_lt_of_cell? w _ hx649_3)).trans hx649_3
              replace hx649_4 := (HB.out.cell (World.block_lt_of_cell? w _ hx649_4)).trans hx649_4
              replace hx649_5 := (HB.out.cell (World.block_lt_of_cell? w _ hx649_5)).trans hx649_5
              replace hx649_6 := (HB.out.cell (World.block_lt_of_cell? w _ hx649_6)).trans hx649_6
              replace hx649_7 := (HB.out.cell (World.block_lt_of_cell? w _ hx649_7)).trans hx649_7
              replace hx649_8 := (HB.out.cell (World.block_lt_of_cell? w _ hx649_8)).trans hx649_8
              replace hx649_9 := (HB.out.cell (World.block_lt_of_cell? w _ hx649_9)).trans hx649_9
              replace hx649_10 := (HB.out.cell (World.block_lt_of_cell? w _ hx649_10)).trans hx649_10
              replace hx649_11 := (HB.out.cell (World.block_lt_of_cell? w _ hx649_11)).trans hx649_11
              replace p649 := eq_true p649
              replace q649 := eq_true q649
              refine start_ (n := 38) (S := fun w' => w'.cell? ⟨gb643, 0, none⟩ = some (.int .i64 a0_0) ∧ w'.cell? ⟨gb643, 1, none⟩ = some (.slice (some ad645) l0_1.length c0_1) ∧ w'.cell? (ad645.add ((x3_2).toNat * 12)) = some (.int .i64 ((rd_T64 l0_1 x3_2).f0)) ∧ w'.cell? ⟨(ad645.add ((x3_2).toNat * 12)).block, (ad645.add ((x3_2).toNat * 12)).off + 1, none⟩ = some (.int .i64 ((rd_T64 l0_1 x3_2).f1)) ∧ w'.cell? ⟨(ad645.add ((x3_2).toNat * 12)).block, (ad645.add ((x3_2).toNat * 12)).off + 2, none⟩ = some (.int .i64 ((rd_T64 l0_1 x3_2).f2.f0)) ∧ w'.cell? ⟨(ad645.add ((x3_2).toNat * 12)).block, (ad645.add ((x3_2).toNat * 12)).off + 3, none⟩ = some (.int .i64 ((rd_T64 l0_1 x3_2).f2.f1)) ∧ w'.cell? ⟨(ad645.add ((x3_2).toNat * 12)).block, (ad645.add ((x3_2).toNat * 12)).off + 4, none⟩ = some (.int .i64 ((rd_T64 l0_1 x3_2).f2.f2)) ∧ w'.cell? ⟨(ad645.add ((x3_2).toNat * 12)).block, (ad645.add ((x3_2).toNat * 12)).off + 5, none⟩ = some (.int .i64 ((rd_T64 l0_1 x3_2).f2.f3)) ∧ w'.cell? ⟨(ad645.add ((x3_2).toNat * 12)).block, (ad645.add ((x3_2).toNat * 12)).off + 6, none⟩ = some (.int .i64 ((rd_T64 l0_1 x3_2).f2.f4)) ∧ w'.cell? ⟨(ad645.add ((x3_2).toNat * 12)).block, (ad645.add ((x3_2).toNat * 12)).off + 7, none⟩ = some (.int .i64 ((rd_T64 l0_1 x3_2).f2.f5)) ∧ w'.cell? ⟨(ad645.add ((x3_2).toNat * 12)).block, (ad645.add ((x3_2).toNat * 12)).off + 8, none⟩ = some (.int .i64 ((rd_T64 l0_1 x3_2).f2.f6)) ∧ w'.cell? ⟨(ad645.add ((x3_2).toNat * 12)).block, (ad645.add ((x3_2).toNat * 12)).off + 9, none⟩ = some (.int .i64 ((rd_T64 l0_1 x3_2).f2.f7)) ∧ w'.cell? ⟨(ad645.add ((x3_2).toNat * 12)).block, (ad645.add ((x3_2).toNat * 12)).off + 10, none⟩ = some (.int .i64 ((rd_T64 l0_1 x3_2).f2.f8)) ∧ w'.cell? ⟨(ad645.add ((x3_2).toNat * 12)).block, (ad645.add ((x3_2).toNat * 12)).off + 11, none⟩ = some (.int .i64 ((rd_T64 l0_1 x3_2).f2.f9)) ∧ w'.cell? (ad645.add ((x3_2).toNat * 12)) = some (.int .i64 ((rd_T64 l0_1 x3_2).f0)) ∧ w'.cell? ⟨(ad645.add ((x3_2).toNat * 12)).block, (ad645.add ((x3_2).toNat * 12)).off + 1, none⟩ = some (.int .i64 ((rd_T64 l0_1 x3_2).f1)) ∧ w'.cell? ⟨(ad645.add ((x3_2).toNat * 12)).block, (ad645.add ((x3_2).toNat * 12)).off + 2, none⟩ = some (.int .i64 ((rd_T64 l0_1 x3_2).f2.f0)) ∧ w'.cell? ⟨(ad645.add ((x3_2).toNat * 12)).block, (ad645.add ((x3_2).toNat * 12)).off + 3, none⟩ = some (.int .i64 ((rd_T64 l0_1 x3_2).f2.f1)) ∧ w'.cell? ⟨(ad645.add ((x3_2).toNat * 12)).block, (ad645.add ((x3_2).toNat * 12)).off + 4, none⟩ = some (.int .i64 ((rd_T64 l0_1 x3_2).f2.f2)) ∧ w'.cell? ⟨(ad645.add ((x3_2).toNat * 12)).block, (ad645.add ((x3_2).toNat * 12)).off + 5, none⟩ = some (.int .i64 ((rd_T64 l0_1 x3_2).f2.f3)) ∧ w'.cell? ⟨(ad645.add ((x3_2).toNat * 12)).block, (ad645.add ((x3_2).toNat * 12)).off + 6, none⟩ = some (.int .i64 ((rd_T64 l0_1 x3_2).f2.f4)) ∧ w'.cell? ⟨(ad645.add ((x3_2).toNat * 12)).block, (ad645.add ((x3_2).toNat * 12)).off + 7, none⟩ = some (.int .i64 ((rd_T64 l0_1 x3_2).f2.f5)) ∧ w'.cell? ⟨(ad645.add ((x3_2).toNat * 12)).block, (ad645.add ((x3_2).toNat * 12)).off + 8, none⟩ = some (.int .i64 ((rd_T64 l0_1 x3_2).f2.f6)) ∧ w'.cell? ⟨(ad645.add ((x3_2).toNat * 12)).block, (ad645.add ((x3_2).toNat * 12)).off + 9, none⟩ = some (.int .i64 ((rd_T64 l0_1 x3_2).f2.f7)) ∧ w'.cell? ⟨(ad645.add ((x3_2).toNat * 12)).block, (ad645.add ((x3_2).toNat * 12)).off + 10, none⟩ = some (.int .i64 ((rd_T64 l0_1 x3_2).f2.f8)) ∧ w'.cell? ⟨(ad645.add ((x3_2).toNat * 12)).block, (ad645.add ((x3_2).toNat * 12)).off + 11, none⟩ = some (.int .i64 ((rd_T64 l0_1 x3_2).f2.f9)) ∧ w'.cell? (ad645.add (((ji18)).toNat * 12)) = some (.int .i64 ((rd_T64 l0_1 (ji18)).f0)) ∧ w'.cell? ⟨(ad645.add (((ji18)).toNat * 12)).block, (ad645.add (((ji18)).toNat * 12)).off + 1, none⟩ = some (.int .i64 ((rd_T64 l0_1 (ji18)).f1)) ∧ w'.cell? ⟨(ad645.add (((ji18)).toNat * 12)).block, (ad645.add (((ji18)).toNat * 12)).off + 2, none⟩ = some (.int .i64 ((rd_T64 l0_1 (ji18)).f2.f0)) ∧ w'.cell? ⟨(ad645.add (((ji18)).toNat * 12)).block, (ad645.add (((ji18)).toNat * 12)).off + 3, none⟩ = some (.int .i64 ((rd_T64 l0_1 (ji18)).f2.f1)) ∧ w'.cell? ⟨(ad645.add (((ji18)).toNat * 12)).block, (ad645.add (((ji18)).toNat * 12)).off + 4, none⟩ = some (.int .i64 ((rd_T64 l0_1 (ji18)).f2.f2)) ∧ w'.cell? ⟨(ad645.add (((ji18)).toNat * 12)).block, (ad645.add (((ji18)).toNat * 12)).off + 5, none⟩ = some (.int .i64 ((rd_T64 l0_1 (ji18)).f2.f3)) ∧ w'.cell? ⟨(ad645.add (((ji18)).toNat * 12)).block, (ad645.add (((ji18)).toNat * 12)).off + 6, none⟩ = some (.int .i64 ((rd_T64 l0_1 (ji18)).f2.f4)) ∧ w'.cell? ⟨(ad645.add (((ji18)).toNat * 12)).block, (ad645.add (((ji18)).toNat * 12)).off + 7, none⟩ = some (.int .i64 ((rd_T64 l0_1 (ji18)).f2.f5)) ∧ w'.cell? ⟨(ad645.add (((ji18)).toNat * 12)).block, (ad645.add (((ji18)).toNat * 12)).off + 8, none⟩ = some (.int .i64 ((rd_T64 l0_1 (ji18)).f2.f6)) ∧ w'.cell? ⟨(ad645.add (((ji18)).toNat * 12)).block, (ad645.add (((ji18)).toNat * 12)).off + 9, none⟩ = some (.int .i64 ((rd_T64 l0_1 (ji18)).f2.f7)) ∧ w'.cell? ⟨(ad645.add (((ji18)).toNat * 12)).block, (ad645.add (((ji18)).toNat * 12)).off + 10, none⟩ = some (.int .i64 ((rd_T64 l0_1 (ji18)).f2.f8)) ∧ w'.cell? ⟨(ad645.add (((ji18)).toNat * 12)).block, (ad645.add (((ji18)).toNat * 12)).off + 11, none⟩ = some (.int .i64 ((rd_T64 l0_1 (ji18)).f2.f9)) ∧ w'.cell? (ad645.add ((x3_2).toNat * 12)) = some (.int .i64 ((rd_T64 l0_1 x3_2).f0)) ∧ w'.cell? ⟨(ad645.add ((x3_2).toNat * 12)).block, (ad645.add ((x3_2).toNat * 12)).off + 1, none⟩ = some (.int .i64 ((rd_T64 l0_1 x3_2).f1)) ∧ w'.cell? ⟨(ad645.add ((x3_2).toNat * 12)).block, (ad645.add ((x3_2).toNat * 12)).off + 2, none⟩ = some (.int .i64 ((rd_T64 l0_1 x3_2).f2.f0)) ∧ w'.cell? ⟨(ad645.add ((x3_2).toNat * 12)).block, (ad645.add ((x3_2).toNat * 12)).off + 3, none⟩ = some (.int .i64 ((rd_T64 l0_1 x3_2).f2.f1)) ∧ w'.cell? ⟨(ad645.add ((x3_2).toNat * 12)).block, (ad645.add ((x3_2).toNat * 12)).off + 4, none⟩ = some (.int .i64 ((rd_T64 l0_1 x3_2).f2.f2)) ∧ w'.cell? ⟨(ad645.add ((x3_2).toNat * 12)).block, (ad645.add ((x3_2).toNat * 12)).off + 5, none⟩ = some (.int .i64 ((rd_T64 l0_1 x3_2).f2.f3)) ∧ w'.cell? ⟨(ad645.add ((x3_2).toNat * 12)).block, (ad645.add ((x3_2).toNat * 12)).off + 6, none⟩ = some (.int .i64 ((rd_T64 l0_1 x3_2).f2.f4)) ∧ w'.cell? ⟨(ad645.add ((x3_2).toNat * 12)).block, (ad645.add ((x3_2).toNat * 12)).off + 7, none⟩ = some (.int .i64 ((rd_T64 l0_1 x3_2).f2.f5)) ∧ w'.cell? ⟨(ad645.add ((x3_2).toNat * 12)).block, (ad645.add ((x3_2).toNat * 12)).off + 8, none⟩ = some (.int .i64 ((rd_T64 l0_1 x3_2).f2.f6)) ∧ w'.cell? ⟨(ad645.add ((x3_2).toNat * 12)).block, (ad645.add ((x3_2).toNat * 12)).off + 9, none⟩ = some (.int .i64 ((rd_T64 l0_1 x3_2).f2.f7)) ∧ w'.cell? ⟨(ad645.add ((x3_2).toNat * 12)).block, (ad645.add ((x3_2).toNat * 12)).off + 10, none⟩ = some (.int .i64 ((rd_T64 l0_1 x3_2).f2.f8)) ∧ w'.cell? ⟨(ad645.add ((x3_2).toNat * 12)).block, (ad645.add ((x3_2).toNat * 12)).off + 11, none⟩ = some (.int .i64 ((rd_T64 l0_1 x3_2).f2.f9))) (ds := []) #[false, false, false, false, false, false, false, false, false, false, false, false, false, false, false, false, false, false, false, false, false, false, false, false, false, false, false, false, false, false, false, false, false, false, false, false, false, false] (by kernel_rfl) rfl rfl ⟨(blk_cell BK643.out 0).trans rfl, (blk_cell BK643.out 1).trans rfl, ((HB.out.cell (World.block_lt_of_cell? w _ hw645_0)).trans hw645_0), ((HB.out.cell (World.block_lt_of_cell? w _ hw645_1)).trans hw645_1), ((HB.out.cell (World.block_lt_of_cell? w _ hw645_2)).trans hw645_2), ((HB.out.cell (World.block_lt_of_cell? w _ hw645_3)).trans hw645_3), ((HB.out.cell (World.block_lt_of_cell? w _ hw645_4)).trans hw645_4), ((HB.out.cell (World.block_lt_of_cell? w _ hw645_5)).trans hw645_5), ((HB.out.cell (World.block_lt_of_cell? w _ hw645_6)).trans hw645_6), ((HB.out.cell (World.block_lt_of_cell? w _ hw645_7)).trans hw645_7), ((HB.out.cell (World.block_lt_of_cell? w _ hw645_8)).trans hw645_8), ((HB.out.cell (World.block_lt_of_cell? w _ hw645_9)).trans hw645_9), ((HB.out.cell (World.block_lt_of_cell? w _ hw645_10)).trans hw645_10), ((HB.out.cell (World.block_lt_of_cell? w _ hw645_11)).trans hw645_11), ((HB.out.cell (World.block_lt_of_cell? w _ hw647_0)).trans hw647_0), ((HB.out.cell (World.block_lt_of_cell? w _ hw647_1)).trans hw647_1), ((HB.out.cell (World.block_lt_of_cell? w _ hw647_2)).trans hw647_2), ((HB.out.cell (World.block_lt_of_cell? w _ hw647_3)).trans hw647_3), ((HB.out.cell (World.block_lt_of_cell? w _ hw647_4)).trans hw647_4), ((HB.out.cell (World.block_lt_of_cell? w _ hw647_5)).trans hw647_5), ((HB.out.cell (World.block_lt_of_cell? w _ hw647_6)).trans hw647_6), ((HB.out.cell (World.block_lt_of_cell? w _ hw647_7)).trans hw647_7), ((HB.out.cell (World.block_lt_of_cell? w _ hw647_8)).trans hw647_8), ((HB.out.cell (World.block_lt_of_cell? w _ hw647_9)).trans hw647_9), ((HB.out.cell (World.block_lt_of_cell? w _ hw647_10)).trans hw647_10), ((HB.out.cell (World.block_lt_of_cell? w _ hw647_11)).trans hw647_11), ((HB.out.cell (World.block_lt_of_cell? w _ hw648_0)).trans hw648_0), ((HB.out.cell (World.block_lt_of_cell? w _ hw648_1)).trans hw648_1), ((HB.out.cell (World.block_lt_of_cell? w _ hw648_2)).trans hw648_2), ((HB.out.cell (World.block_lt_of_cell? w _ hw648_3)).trans hw648_3), ((HB.out.cell (World.block_lt_of_cell? w _ hw648_4)).trans hw648_4), ((HB.out.cell (World.block_lt_of_cell? w _ hw648_5)).trans hw648_5), ((HB.out.cell (World.block_lt_of_cell? w _ hw648_6)).trans hw648_6), ((HB.out.cell (World.block_lt_of_cell? w _ hw648_7)).trans hw648_7), ((HB.out.cell (World.block_lt_of_cell? w _ hw648_8)).trans hw648_8), ((HB.out.cell (World.block_lt_of_cell? w _ hw648_9)).trans hw648_9), ((HB.out.cell (World.block_lt_of_cell? w _ hw648_10)).trans hw648_10), ((HB.out.cell (World.block_lt_of_cell? w _ hw648_11)).trans hw648_11), ((HB.out.cell (World.block_lt_of_cell? w _ hw649_0)).trans hw649_0), ((HB.out.cell (World.block_lt_of_cell? w _ hw649_1)).trans hw649_1), ((HB.out.cell (World.block_lt_of_cell? w _ hw649_2)).trans hw649_2), ((HB.out.cell (World.block_lt_of_cell? w _ hw649_3)).trans hw649_3), ((HB.out.cell (World.block_lt_of_cell? w _ hw649_4)).trans hw649_4), ((HB.out.cell (World.block_lt_of_cell? w _ hw649_5)).trans hw649_5), ((HB.out.cell (World.block_lt_of_cell? w _ hw649_6)).trans hw649_6), ((HB.out.cell (World.block_lt_of_cell? w _ hw649_7)).trans hw649_7), ((HB.out.cell (World.block_lt_of_cell? w _ hw649_8)).trans hw649_8), ((HB.out.cell (World.block_lt_of_cell? w _ hw649_9)).trans hw649_9), ((HB.out.cell (World.block_lt_of_cell? w _ hw649_10)).trans hw649_10), ((HB.out.cell (World.block_lt_of_cell? w _ hw649_11)).trans hw649_11)⟩ (fun hHeld => ?_); refine with_tabW spec_SynVoterOk.tab6 spec_SynVoterOk.bits6 (fun HT_ HW_ => ?_)
              generalize wr.drew = w23 at BK643 HB hx645_0 hx645_1 hx645_10 hx645_11 hx645_2 hx645_3 hx645_4 hx645_5 hx645_6 hx645_7 hx645_8 hx645_9 hx647_0 hx647_1 hx647_10 hx647_11 hx647_2 hx647_3 hx647_4 hx647_5 hx647_6 hx647_7 hx647_8 hx647_9 hx648_0 hx648_1 hx648_10 hx648_11 hx648_2 hx648_3 hx648_4 hx648_5 hx648_6 hx648_7 hx648_8 hx648_9 hx649_0 hx649_1 hx649_10 hx649_11 hx649_2 hx649_3 hx649_4 hx649_5 hx649_6 hx649_7 hx649_8 hx649_9 hHeld ⊢
              refine pure_ (i := 0) (N := some 21) (v := ?_) (a' := ?_) #[true, false, false, false, false, false, false, false, false, false, false, false, false, false, false, false, false, false, false, false, false, false, false, false, false, false, false, false, false, false, false, false, false, false, false, false, false, false] rfl rfl (any_of HT_.out (by kernel_rfl)) (fun _ _ _ h => h) (Or.inl ⟨by rfl, ?_⟩) ?_ ?_
              rotate_left
              ·intro w'
               go_simp
               with_reducible rfl
              rotate_left
              ·simp only [Act.put, List.setIfInBounds_toArray, List.set_cons_zero, List.set_cons_succ, i64_w, i32_w]
               rfl
              refine pure_ (i := 2) (N := some 23) (v := ?_) (a' := ?_) #[true, false, true, false, false, false, false, false, false, false, false, false, false, false, false, false, false, false, false, false, false, false, false, false, false, false, false, false, false, false, false, false, false, false, false, false, false, false] rfl rfl (any_of HT_.out (by kernel_rfl)) (fun _ _ _ h => h) (Or.inl ⟨by rfl, ?_⟩) ?_ ?_
              rotate_left
              ·intro w'
               go_simp
               with_reducible rfl
              rotate_left
              ·simp only [Act.put, List.setIfInBounds_toArray, List.set_cons_zero, List.set_cons_succ, i64_w, i32_w]
               rfl
              refine take_ (i := 1) (N := some 22) (v := ?_) (a' := ?_) #[true, true, true, false, false, false, false, false, false, false, false, false, false, false, false, false, false, false, false, false, false, false, false, false, false, false, false, false, false, false, false, false, false, false, false, false, false, false] rfl rfl (take_ofW HT_.out HW_.out (by kernel_rfl)) (fun _ _ _ h => h) (Or.inl ⟨by rfl, ?_⟩) hHeld ?_ ?_
              rotate_left
              ·rintro w' ⟨s0, s1, s2, s3, s4, s5, s6, s7, s8, s9, s10, s11, s12, s13, s14, s15, s16, s17, s18, s19, s20, s21, s22, s23, s24, s25, s26, s27, s28, s29, s30, s31, s32, s33, s34, s35, s36, s37, s38, s39, s40, s41, s42, s43, s44, s45, s46, s47, s48, s49⟩
               go_simp
               with_reducible rfl
              rotate_left
              ·simp only [Act.put, List.setIfInBounds_toArray, List.set_cons_zero, List.set_cons_succ, i64_w, i32_w]
               rfl
              refine pure_ (i := 3) (N := some 24) (v := ?_) (a' := ?_) #[true, true, true, true, false, false, false, false, false, false, false, false, false, false, false, false, false, false, false, false, false, false, false, false, false, false, false, false, false, false, false, false, false, false, false, false, false, false] rfl rfl (any_of HT_.out (by kernel_rfl)) (fun _ _ _ h => h) (Or.inl ⟨by rfl, ?_⟩) ?_ ?_
              rotate_left
              ·intro w'
               go_simp
               with_reducible rfl
              rotate_left
              ·simp only [Act.put, List.setIfInBounds_toArray, List.set_cons_zero, List.set_cons_succ, i64_w, i32_w]
               rfl
              refine take_ (i := 4) (N := some 25) (v := ?_) (a' := ?_) #[true, true, true, true, true, false, false, false, false, false, false, false, false, false, false, false, false, false, false, false, false, false, false, false, false, false, false, false, false, false, false, false, false, false, false, false, false, false] rfl rfl (take_ofW HT_.out HW_.out (by kernel_rfl)) (fun _ _ _ h => h) (Or.inl ⟨by rfl, ?_⟩) hHeld ?_ ?_
              rotate_left
              ·rintro w' ⟨s0, s1, s2, s3, s4, s5, s6, s7, s8, s9, s10, s11, s12, s13, s14, s15, s16, s17, s18, s19, s20, s21, s22, s23, s24, s25, s26, s27, s28, s29, s30, s31, s32, s33, s34, s35, s36, s37, s38, s39, s40, s41, s42, s43, s44, s45, s46, s47, s48, s49⟩
               go_simp
               with_reducible rfl
              rotate_left
              ·simp only [Act.put, List.setIfInBounds_toArray, List.set_cons_zero, List.set_cons_succ, i64_w, i32_w]
               rfl
              refine one_ (i := 5) (N := some 26) #[true, true, true, true, true, true, false, false, false, false, false, false, false, false, false, false, false, false, false, false, false, false, false, false, false, false, false, false, false, false, false, false, false, false, false, false, false, false] rfl rfl (one_of HT_.out (by kernel_rfl)) (by decide) (fun K hK => ?_)
              refine goes_ Try.func86 (by kernel_rfl) rfl #[.agg #[.int .i64 ((rd_T64 l0_1 x3_2).f0), .int .i64 ((rd_T64 l0_1 x3_2).f1), .int .i64 ((rd_T64 l0_1 x3_2).f2.f0), .int .i64 ((rd_T64 l0_1 x3_2).f2.f1), .int .i64 ((rd_T64 l0_1 x3_2).f2.f2), .int .i64 ((rd_T64 l0_1 x3_2).f2.f3), .int .i64 ((rd_T64 l0_1 x3_2).f2.f4), .int .i64 ((rd_T64 l0_1 x3_2).f2.f5), .int .i64 ((rd_T64 l0_1 x3_2).f2.f6), .int .i64 ((rd_T64 l0_1 x3_2).f2.f7), .int .i64 ((rd_T64 l0_1 x3_2).f2.f8), .int .i64 ((rd_T64 l0_1 x3_2).f2.f9)]] (by rfl) rfl rfl bM ?_
              with_reducible refine (spec_l21PaperOk.calls ((rd_T64 l0_1 x3_2).f0) ((rd_T64 l0_1 x3_2).f1) ((rd_T64 l0_1 x3_2).f2.f0) ((rd_T64 l0_1 x3_2).f2.f1) ((rd_T64 l0_1 x3_2).f2.f2) ((rd_T64 l0_1 x3_2).f2.f3) ((rd_T64 l0_1 x3_2).f2.f4) ((rd_T64 l0_1 x3_2).f2.f5) ((rd_T64 l0_1 x3_2).f2.f6) ((rd_T64 l0_1 x3_2).f2.f7) ((rd_T64 l0_1 x3_2).f2.f8) ((rd_T64 l0_1 x3_2).f2.f9) true _ A11.out).mono ?_
              rintro e w24 ⟨rfl, hb⟩
              refine ⟨_, rfl, ?_⟩
              have n0_ := Aside0.mk (blk_below (pK BK643.out) hb)
              have n1_ := Aside0.mk (below_step (pS HB.out) hb)
              clear BK643
              clear HB
              have BK643 := n0_
              have HB := n1_
              clear n0_ n1_
              (try clear hb)
              (try clear hb2)
              (try clear hk)
              (try clear hi)
              refine hK.out _ _ ⟨(blk_cell BK643.out 0).trans rfl, (blk_cell BK643.out 1).trans rfl, ((HB.out.cell (World.block_lt_of_cell? w _ hw645_0)).trans hw645_0), ((HB.out.cell (World.block_lt_of_cell? w _ hw645_1)).trans hw645_1), ((HB.out.cell (World.block_lt_of_cell? w _ hw645_2)).trans hw645_2), ((HB.out.cell (World.block_lt_of_cell? w _ hw645_3)).trans hw645_3), ((HB.out.cell (World.block_lt_of_cell? w _ hw645_4)).trans hw645_4), ((HB.out.cell (World.block_lt_of_cell? w _ hw645_5)).trans hw645_5), ((HB.out.cell (World.block_lt_of_cell? w _ hw645_6)).trans hw645_6), ((HB.out.cell (World.block_lt_of_cell? w _ hw645_7)).trans hw645_7), ((HB.out.cell (World.block_lt_of_cell? w _ hw645_8)).trans hw645_8), ((HB.out.cell (World.block_lt_of_cell? w _ hw645_9)).trans hw645_9), ((HB.out.cell (World.block_lt_of_cell? w _ hw645_10)).trans hw645_10), ((HB.out.cell (World.block_lt_of_cell? w _ hw645_11)).trans hw645_11), ((HB.out.cell (World.block_lt_of_cell? w _ hw647_0)).trans hw647_0), ((HB.out.cell (World.block_lt_of_cell? w _ hw647_1)).trans hw647_1), ((HB.out.cell (World.block_lt_of_cell? w _ hw647_2)).trans hw647_2), ((HB.out.cell (World.block_lt_of_cell? w _ hw647_3)).trans hw647_3), ((HB.out.cell (World.block_lt_of_cell? w _ hw647_4)).trans hw647_4), ((HB.out.cell (World.block_lt_of_cell? w _ hw647_5)).trans hw647_5), ((HB.out.cell (World.block_lt_of_cell? w _ hw647_6)).trans hw647_6), ((HB.out.cell (World.block_lt_of_cell? w _ hw647_7)).trans hw647_7), ((HB.out.cell (World.block_lt_of_cell? w _ hw647_8)).trans hw647_8), ((HB.out.cell (World.block_lt_of_cell? w _ hw647_9)).trans hw647_9), ((HB.out.cell (World.block_lt_of_cell? w _ hw647_10)).trans hw647_10), ((HB.out.cell (World.block_lt_of_cell? w _ hw647_11)).trans hw647_11), ((HB.out.cell (World.block_lt_of_cell? w _ hw648_0)).trans hw648_0), ((HB.out.cell (World.block_lt_of_cell? w _ hw648_1)).trans hw648_1), ((HB.out.cell (World.block_lt_of_cell? w _ hw648_2)).trans hw648_2), ((HB.out.cell (World.block_lt_of_cell? w _ hw648_3)).trans hw648_3), ((HB.out.cell (World.block_lt_of_cell? w _ hw648_4)).trans hw648_4), ((HB.out.cell (World.block_lt_of_cell? w _ hw648_5)).trans hw648_5), ((HB.out.cell (World.block_lt_of_cell? w _ hw648_6)).trans hw648_6), ((HB.out.cell (World.block_lt_of_cell? w _ hw648_7)).trans hw648_7), ((HB.out.cell (World.block_lt_of_cell? w _ hw648_8)).trans hw648_8), ((HB.out.cell (World.block_lt_of_cell? w _ hw648_9)).trans hw648_9), ((HB.out.cell (World.block_lt_of_cell? w _ hw648_10)).trans hw648_10), ((HB.out.cell (World.block_lt_of_cell? w _ hw648_11)).trans hw648_11), ((HB.out.cell (World.block_lt_of_cell? w _ hw649_0)).trans hw649_0), ((HB.out.cell (World.block_lt_of_cell? w _ hw649_1)).trans hw649_1), ((HB.out.cell (World.block_lt_of_cell? w _ hw649_2)).trans hw649_2), ((HB.out.cell (World.block_lt_of_cell? w _ hw649_3)).trans hw649_3), ((HB.out.cell (World.block_lt_of_cell? w _ hw649_4)).trans hw649_4), ((HB.out.cell (World.block_lt_of_cell? w _ hw649_5)).trans hw649_5), ((HB.out.cell (World.block_lt_of_cell? w _ hw649_6)).trans hw649_6), ((HB.out.cell (World.block_lt_of_cell? w _ hw649_7)).trans hw649_7), ((HB.out.cell (World.block_lt_of_cell? w _ hw649_8)).trans hw649_8), ((HB.out.cell (World.block_lt_of_cell? w _ hw649_9)).trans hw649_9), ((HB.out.cell (World.block_lt_of_cell? w _ hw649_10)).trans hw649_10), ((HB.out.cell (World.block_lt_of_cell? w _ hw649_11)).trans hw649_11)⟩ (fun hHeld => ?_)
              clear hK K
              refine norm_ (a' := ?_) ?_ ?_
              rotate_left
              ·show Act.put _ (some 26) _ = _
               simp only [Act.put, List.setIfInBounds_toArray, List.set_cons_zero, List.set_cons_succ, i64_w, i32_w]
               rfl
              refine pure_ (i := 6) (N := some 27) (v := ?_) (a' := ?_) #[true, true, true, true, true, true, true, false, false, false, false, false, false, false, false, false, false, false, false, false, false, false, false, false, false, false, false, false, false, false, false, false, false, false, false, false, false, false] rfl rfl (any_of HT_.out (by kernel_rfl)) (fun _ _ _ h => h) (Or.inl ⟨by rfl, ?_⟩) ?_ ?_
              rotate_left
              ·intro w'
               go_simp
               with_reducible rfl
              rotate_left
              ·simp only [Act.put, List.setIfInBounds_toArray, List.set_cons_zero, List.set_cons_succ, i64_w, i32_w]
               rfl
              refine pure_ (i := 7) (N := some 28) (v := ?_) (a' := ?_) #[true, true, true, true, true, true, true, true, false, false, false, false, false, false, false, false, false, false, false, false, false, false, false, false, false, false, false, false, false, false, false, false, false, false, false, false, false, false] rfl rfl (any_of HT_.out (by kernel_rfl)) (fun _ _ _ h => h) (Or.inl ⟨by rfl, ?_⟩) ?_ ?_
              rotate_left
              ·intro w'
               go_simp
               with_reducible rfl
              rotate_left
              ·simp only [Act.put, List.setIfInBounds_toArray, List.set_cons_zero, List.set_cons_succ, i64_w, i32_w]
               rfl
              refine pure_ (i := 8) (N := some 29) (v := ?_) (a' := ?_) #[true, true, true, true, true, true, true, true, true, false, false, false, false, false, false, false, false, false, false, false, false, false, false, false, false, false, false, false, false, false, false, false, false, false, false, false, false, false] rfl rfl (any_of HT_.out (by kernel_rfl)) (fun _ _ _ h => h) (Or.inl ⟨by rfl, ?_⟩) ?_ ?_
              rotate_left
              ·intro w'
               go_simp
               with_reducible rfl
              rotate_left
              ·simp only [Act.put, List.setIfInBounds_toArray, List.set_cons_zero, List.set_cons_succ, i64_w, i32_w]
               rfl
              refine pure_ (i := 10) (N := some 31) (v := ?_) (a' := ?_) #[true, true, true, true, true, true, true, true, true, false, true, false, false, false, false, false, false, false, false, false, false, false, false, false, false, false, false, false, false, false, false, false, false, false, false, false, false, false] rfl rfl (any_of HT_.out (by kernel_rfl)) (fun _ _ _ h => h) (Or.inl ⟨by rfl, ?_⟩) ?_ ?_
              rotate_left
              ·intro w'
               go_simp
               with_reducible rfl
              rotate_left
              ·simp only [Act.put, List.setIfInBounds_toArray, List.set_cons_zero, List.set_cons_succ, i64_w, i32_w]
               rfl
              refine pure_ (i := 14) (N := some 35) (v := ?_) (a' := ?_) #[true, true, true, true, true, true, true, true, true, false, true, false, false, false, true, false, false, false, false, false, false, false, false, false, false, false, false, false, false, false, false, false, false, false, false, false, false, false] rfl rfl (any_of HT_.out (by kernel_rfl)) (fun _ _ _ h => h) (Or.inl ⟨by rfl, ?_⟩) ?_ ?_
              rotate_left
              ·intro w'
               go_simp
               with_reducible rfl
              rotate_left
              ·simp only [Act.put, List.setIfInBounds_toArray, List.set_cons_zero, List.set_cons_succ, i64_w, i32_w]
               rfl
              refine take_ (i := 9) (N := some 30) (v := ?_) (a' := ?_) #[true, true, true, true, true, true, true, true, true, true, true, false, false, false, true, false, false, false, false, false, false, false, false, false, false, false, false, false, false, false, false, false, false, false, false, false, false, false] rfl rfl (take_ofW HT_.out HW_.out (by kernel_rfl)) (fun _ _ _ h => h) (Or.inl ⟨by rfl, ?_⟩) hHeld ?_ ?_
              rotate_left
              ·rintro w' ⟨s0, s1, s2, s3, s4, s5, s6, s7, s8, s9, s10, s11, s12, s13, s14, s15, s16, s17, s18, s19, s20, s21, s22, s23, s24, s25, s26, s27, s28, s29, s30, s31, s32, s33, s34, s35, s36, s37, s38, s39, s40, s41, s42, s43, s44, s45, s46, s47, s48, s49⟩
               go_simp
               with_reducible rfl
              rotate_left
              ·simp only [Act.put, List.setIfInBounds_toArray, List.set_cons_zero, List.set_cons_succ, i64_w, i32_w]
               rfl
              refine pure_ (i := 11) (N := some 32) (v := ?_) (a' := ?_) #[true, true, true, true, true, true, true, true, true, true, true, true, false, false, true, false, false, false, false, false, false, false, false, false, false, false, false, false, false, false, false, false, false, false, false, false, false, false] rfl rfl (any_of HT_.out (by kernel_rfl)) (fun _ _ _ h => h) (Or.inl ⟨by rfl, ?_⟩) ?_ ?_
              rotate_left
              ·intro w'
               go_simp
               with_reducible rfl
              rotate_left
              ·simp only [Act.put, List.setIfInBounds_toArray, List.set_cons_zero, List.set_cons_succ, i64_w, i32_w]
               rfl
              refine pure_ (i := 12) (N := some 33) (v := ?_) (a' := ?_) #[true, true, true, true, true, true, true, true, true, true, true, true, true, false, true, false, false, false, false, false, false, false, false, false, false, false, false, false, false, false, false, false, false, false, false, false, false, false] rfl rfl (any_of HT_.out (by kernel_rfl)) (fun _ _ _ h => h) (Or.inl ⟨by rfl, ?_⟩) ?_ ?_
              rotate_left
              ·intro w'
               go_simp
               with_reducible rfl
              rotate_left
              ·simp only [Act.put, List.setIfInBounds_toArray, List.set_cons_zero, List.set_cons_succ, i64_w, i32_w]
               rfl
              refine take_ (i := 13) (N := some 34) (v := ?_) (a' := ?_) #[true, true, true, true, true, true, true, true, true, true, true, true, true, true, true, false, false, false, false, false, false, false, false, false, false, false, false, false, false, false, false, false, false, false, false, false, false, false] rfl rfl (take_ofW HT_.out HW_.out (by kernel_rfl)) (fun _ _ _ h => h) (Or.inl ⟨by rfl, ?_⟩) hHeld ?_ ?_
              rotate_left
              ·rintro w' ⟨s0, s1, s2, s3, s4, s5, s6, s7, s8, s9, s10, s11, s12, s13, s14, s15, s16, s17, s18, s19, s20, s21, s22, s23, s24, s25, s26, s27, s28, s29, s30, s31, s32, s33, s34, s35, s36, s37, s38, s39, s40, s41, s42, s43, s44, s45, s46, s47, s48, s49⟩
               go_simp
               with_reducible rfl
              rotate_left
              ·simp only [Act.put, List.setIfInBounds_toArray, List.set_cons_zero, List.set_cons_succ, i64_w, i32_w]
               rfl
              refine take_ (i := 15) (N := some 36) (v := ?_) (a' := ?_) #[true, true, true, true, true, true, true, true, true, true, true, true, true, true, true, true, false, false, false, false, false, false, false, false, false, false, false, false, false, false, false, false, false, false, false, false, false, false] rfl rfl (take_ofW HT_.out HW_.out (by kernel_rfl)) (fun _ _ _ h => h) (Or.inl ⟨by rfl, ?_⟩) hHeld ?_ ?_
              rotate_left
              ·rintro w' ⟨s0, s1, s2, s3, s4, s5, s6, s7, s8, s9, s10, s11, s12, s13, s14, s15, s16, s17, s18, s19, s20, s21, s22, s23, s24, s25, s26, s27, s28, s29, s30, s31, s32, s33, s34, s35, s36, s37, s38, s39, s40, s41, s42, s43, s44, s45, s46, s47, s48, s49⟩
               go_simp
               with_reducible rfl
              rotate_left
              ·simp only [Act.put, List.setIfInBounds_toArray, List.set_cons_zero, List.set_cons_succ, i64_w, i32_w]
               rfl
              refine pure_ (i := 16) (N := some 37) (v := ?_) (a' := ?_) #[true, true, true, true, true, true, true, true, true, true, true, true, true, true, true, true, true, false, false, false, false, false, false, false, false, false, false, false, false, false, false, false, false, false, false, false, false, false] rfl rfl (any_of HT_.out (by kernel_rfl)) (fun _ _ _ h => h) (Or.inl ⟨by rfl, ?_⟩) ?_ ?_
              rotate_left
              ·intro w'
               go_simp
               with_reducible rfl
              rotate_left
              ·simp only [Act.put, List.setIfInBounds_toArray, List.set_cons_zero, List.set_cons_succ, i64_w, i32_w]
               rfl
              refine pure_ (i := 17) (N := some 38) (v := ?_) (a' := ?_) #[true, true, true, true, true, true, true, true, true, true, true, true, true, true, true, true, true, true, false, false, false, false, false, false, false, false, false, false, false, false, false, false, false, false, false, false, false, false] rfl rfl (any_of HT_.out (by kernel_rfl)) (fun _ _ _ h => h) (Or.inl ⟨by rfl, ?_⟩) ?_ ?_
              rotate_left
              ·intro w'
               go_simp
               with_reducible rfl
              rotate_left
              ·simp only [Act.put, List.setIfInBounds_toArray, List.set_cons_zero, List.set_cons_succ, i64_w, i32_w]
               rfl
              refine pure_ (i := 18) (N := some 39) (v := ?_) (a' := ?_) #[true, true, true, true, true, true, true, true, true, true, true, true, true, true, true, true, true, true, true, false, false, false, false, false, false, false, false, false, false, false, false, false, false, false, false, false, false, false] rfl rfl (any_of HT_.out (by kernel_rfl)) (fun _ _ _ h => h) (Or.inl ⟨by rfl, ?_⟩) ?_ ?_
              rotate_left
              ·intro w'
               go_simp
               with_reducible rfl
              rotate_left
              ·simp only [Act.put, List.setIfInBounds_toArray, List.set_cons_zero, List.set_cons_succ, i64_w, i32_w]
               rfl
              refine pure_ (i := 19) (N := some 40) (v := ?_) (a' := ?_) #[true, true, true, true, true, true, true, true, true, true, true, true, true, true, true, true, true, true, true, true, false, false, false, false, false, false, false, false, false, false, false, false, false, false, false, false, false, false] rfl rfl (any_of HT_.out (by kernel_rfl)) (fun _ _ _ h => h) (Or.inl ⟨by rfl, ?_⟩) ?_ ?_
              rotate_left
              ·intro w'
               go_simp
               with_reducible rfl
              rotate_left
              ·simp only [Act.put, List.setIfInBounds_toArray, List.set_cons_zero, List.set_cons_succ, i64_w, i32_w]
               rfl
              refine pure_ (i := 20) (N := some 41) (v := ?_) (a' := ?_) #[true, true, true, true, true, true, true, true, true, true, true, true, true, true, true, true, true, true, true, true, true, false, false, false, false, false, false, false, false, false, false, false, false, false, false, false, false, false] rfl rfl (any_of HT_.out (by kernel_rfl)) (fun _ _ _ h => h) (Or.inl ⟨by rfl, ?_⟩) ?_ ?_
              rotate_left
              ·intro w'
               go_simp
               with_reducible rfl
              rotate_left
              ·simp only [Act.put, List.setIfInBounds_toArray, List.set_cons_zero, List.set_cons_succ, i64_w, i32_w]
               rfl
              refine pure_ (i := 21) (N := some 42) (v := ?_) (a' := ?_) #[true, true, true, true, true, true, true, true, true, true, true, true, true, true, true, true, true, true, true, true, true, true, false, false, false, false, false, false, false, false, false, false, false, false, false, false, false, false] rfl rfl (any_of HT_.out (by kernel_rfl)) (fun _ _ _ h => h) (Or.inl ⟨by rfl, ?_⟩) ?_ ?_
              rotate_left
              ·intro w'
               go_simp
               with_reducible rfl
              rotate_left
              ·simp only [Act.put, List.setIfInBounds_toArray, List.set_cons_zero, List.set_cons_succ, i64_w, i32_w]
               rfl
              refine pure_ (i := 22) (N := some 43) (v := ?_) (a' := ?_) #[true, true, true, true, true, true, true, true, true, true, true, true, true, true, true, true, true, true, true, true, true, true, true, false, false, false, false, false, false, false, false, false, false, false, false, false, false, false] rfl rfl (any_of HT_.out (by kernel_rfl)) (fun _ _ _ h => h) (Or.inl ⟨by rfl, ?_⟩) ?_ ?_
              rotate_left
              ·intro w'
               go_simp
               with_reducible rfl
              rotate_left
              ·simp only [Act.put, List.setIfInBounds_toArray, List.set_cons_zero, List.set_cons_succ, i64_w, i32_w]
               rfl
              refine pure_ (i := 24) (N := some 45) (v := ?_) (a' := ?_) #[true, true, true, true, true, true, true, true, true, true, true, true, true, true, true, true, true, true, true, true, true, true, true, false, true, false, false, false, false, false, false, false, false, false, false, false, false, false] rfl rfl (any_of HT_.out (by kernel_rfl)) (fun _ _ _ h => h) (Or.inl ⟨by rfl, ?_⟩) ?_ ?_
              rotate_left
              ·intro w'
               go_simp
               with_reducible rfl
              rotate_left
              ·simp only [Act.put, List.setIfInBounds_toArray, List.set_cons_zero, List.set_cons_succ, i64_w, i32_w]
               rfl
              refine pure_ (i := 25) (N := some 46) (v := ?_) (a' := ?_) #[true, true, true, true, true, true, true, true, true, true, true, true, true, true, true, true, true, true, true, true, true, true, true, false, true, true, false, false, false, false, false, false, false, false, false, false, false, false] rfl rfl (any_of HT_.out (by kernel_rfl)) (fun _ _ _ h => h) (Or.inl ⟨by rfl, ?_⟩) ?_ ?_
              rotate_left
              ·intro w'
               go_simp
               with_reducible rfl
              rotate_left
              ·simp only [Act.put, List.setIfInBounds_toArray, List.set_cons_zero, List.set_cons_succ, i64_w, i32_w]
               rfl
              refine pure_ (i := 29) (N := some 50) (v := ?_) (a' := ?_) #[true, true, true, true, true, true, true, true, true, true, true, true, true, true, true, true, true, true, true, true, true, true, true, false, true, true, false, false, false, true, false, false, false, false, false, false, false, false] rfl rfl (any_of HT_.out (by kernel_rfl)) (fun _ _ _ h => h) (Or.inl ⟨by rfl, ?_⟩) ?_ ?_
              rotate_left
              ·intro w'
               go_simp
               with_reducible rfl
              rotate_left
              ·simp only [Act.put, List.setIfInBounds_toArray, List.set_cons_zero, List.set_cons_succ, i64_w, i32_w]
               rfl
              refine pure_ (i := 31) (N := some 52) (v := ?_) (a' := ?_) #[true, true, true, true, true, true, true, true, true, true, true, true, true, true, true, true, true, true, true, true, true, true, true, false, true, true, false, false, false, true, false, true, false, false, false, false, false, false] rfl rfl (any_of HT_.out (by kernel_rfl)) (fun _ _ _ h => h) (Or.inl ⟨by rfl, ?_⟩) ?_ ?_
              rotate_left
              ·intro w'
               go_simp
               with_reducible rfl
              rotate_left
              ·simp only [Act.put, List.setIfInBounds_toArray, List.set_cons_zero, List.set_cons_succ, i64_w, i32_w]
               rfl
              refine take_ (i := 23) (N := some 44) (v := ?_) (a' := ?_) #[true, true, true, true, true, true, true, true, true, true, true, true, true, true, true, true, true, true, true, true, true, true, true, true, true, true, false, false, false, true, false, true, false, false, false, false, false, false] rfl rfl (take_ofW HT_.out HW_.out (by kernel_rfl)) (fun _ _ _ h => h) (Or.inl ⟨by rfl, ?_⟩) hHeld ?_ ?_
              rotate_left
              ·rintro w' ⟨s0, s1, s2, s3, s4, s5, s6, s7, s8, s9, s10, s11, s12, s13, s14, s15, s16, s17, s18, s19, s20, s21, s22, s23, s24, s25, s26, s27, s28, s29, s30, s31, s32, s33, s34, s35, s36, s37, s38, s39, s40, s41, s42, s43, s44, s45, s46, s47, s48, s49⟩
               go_simp
               with_reducible rfl
              rotate_left
              ·simp only [Act.put, List.setIfInBounds_toArray, List.set_cons_zero, List.set_cons_succ, i64_w, i32_w]
               rfl
              refine pure_ (i := 26) (N := some 47) (v := ?_) (a' := ?_) #[true, true, true, true, true, true, true, true, true, true, true, true, true, true, true, true, true, true, true, true, true, true, true, true, true, true, true, false, false, true, false, true, false, false, false, false, false, false] rfl rfl (any_of HT_.out (by kernel_rfl)) (fun _ _ _ h => h) (Or.inl ⟨by rfl, ?_⟩) ?_ ?_
              rotate_left
              ·intro w'
               go_simp
               with_reducible rfl
              rotate_left
              ·simp only [Act.put, List.setIfInBounds_toArray, List.set_cons_zero, List.set_cons_succ, i64_w, i32_w]
               rfl
              refine pure_ (i := 27) (N := some 48) (v := ?_) (a' := ?_) #[true, true, true, true, true, true, true, true, true, true, true, true, true, true, true, true, true, true, true, true, true, true, true, true, true, true, true, true, false, true, false, true, false, false, false, false, false, false] rfl rfl (any_of HT_.out (by kernel_rfl)) (fun _ _ _ h => h) (Or.inl ⟨by rfl, ?_⟩) ?_ ?_
              rotate_left
              ·intro w'
               go_simp
               with_reducible rfl
              rotate_left
              ·simp only [Act.put, List.setIfInBounds_toArray, List.set_cons_zero, List.set_cons_succ, i64_w, i32_w]
               rfl
              refine take_ (i := 28) (N := some 49) (v := ?_) (a' := ?_) #[true, true, true, true, true, true, true, true, true, true, true, true, true, true, true, true, true, true, true, true, true, true, true, true, true, true, true, true, true, true, false, true, false, false, false, false, false, false] rfl rfl (take_ofW HT_.out HW_.out (by kernel_rfl)) (fun _ _ _ h => h) (Or.inl ⟨by rfl, ?_⟩) hHeld ?_ ?_
              rotate_left
              ·rintro w' ⟨s0, s1, s2, s3, s4, s5, s6, s7, s8, s9, s10, s11, s12, s13, s14, s15, s16, s17, s18, s19, s20, s21, s22, s23, s24, s25, s26, s27, s28, s29, s30, s31, s32, s33, s34, s35, s36, s37, s38, s39, s40, s41, s42, s43, s44, s45, s46, s47, s48, s49⟩
               go_simp
               with_reducible rfl
              rotate_left
              ·simp only [Act.put, List.setIfInBounds_toArray, List.set_cons_zero, List.set_cons_succ, i64_w, i32_w]
               rfl
              refine take_ (i := 30) (N := some 51) (v := ?_) (a' := ?_) #[true, true, true, true, true, true, true, true, true, true, true, true, true, true, true, true, true, true, true, true, true, true, true, true, true, true, true, true, true, true, true, true, false, false, false, false, false, false] rfl rfl (take_ofW HT_.out HW_.out (by kernel_rfl)) (fun _ _ _ h => h) (Or.inl ⟨by rfl, ?_⟩) hHeld ?_ ?_
              rotate_left
              ·rintro w' ⟨s0, s1, s2, s3, s4, s5, s6, s7, s8, s9, s10, s11, s12, s13, s14, s15, s16, s17, s18, s19, s20, s21, s22, s23, s24, s25, s26, s27, s28, s29, s30, s31, s32, s33, s34, s35, s36, s37, s38, s39, s40, s41, s42, s43, s44, s45, s46, s47, s48, s49⟩
               go_simp
               with_reducible rfl
              rotate_left
              ·simp only [Act.put, List.setIfInBounds_toArray, List.set_cons_zero, List.set_cons_succ, i64_w, i32_w]
               rfl
              refine pure_ (i := 32) (N := some 53) (v := ?_) (a' := ?_) #[true, true, true, true, true, true, true, true, true, true, true, true, true, true, true, true, true, true, true, true, true, true, true, true, true, true, true, true, true, true, true, true, true, false, false, false, false, false] rfl rfl (any_of HT_.out (by kernel_rfl)) (fun _ _ _ h => h) (Or.inl ⟨by rfl, ?_⟩) ?_ ?_
              rotate_left
              ·intro w'
               go_simp
               with_reducible rfl
              rotate_left
              ·simp only [Act.put, List.setIfInBounds_toArray, List.set_cons_zero, List.set_cons_succ, i64_w, i32_w]
               rfl
              refine pure_ (i := 33) (N := some 54) (v := ?_) (a' := ?_) #[true, true, true, true, true, true, true, true, true, true, true, true, true, true, true, true, true, true, true, true, true, true, true, true, true, true, true, true, true, true, true, true, true, true, false, false, false, false] rfl rfl (any_of HT_.out (by kernel_rfl)) (fun _ _ _ h => h) (Or.inl ⟨by rfl, ?_⟩) ?_ ?_
              rotate_left
              ·intro w'
               go_simp
               with_reducible rfl
              rotate_left
              ·simp only [Act.put, List.setIfInBounds_toArray, List.set_cons_zero, List.set_cons_succ, i64_w, i32_w]
               rfl
              refine take_ (i := 34) (N := some 55) (v := ?_) (a' := ?_) #[true, true, true, true, true, true, true, true, true, true, true, true, true, true, true, true, true, true, true, true, true, true, true, true, true, true, true, true, true, true, true, true, true, true, true, false, false, false] rfl rfl (take_ofW HT_.out HW_.out (by kernel_rfl)) (fun _ _ _ h => h) (Or.inl ⟨by rfl, ?_⟩) hHeld ?_ ?_
              rotate_left
              ·rintro w' ⟨s0, s1, s2, s3, s4, s5, s6, s7, s8, s9, s10, s11, s12, s13, s14, s15, s16, s17, s18, s19, s20, s21, s22, s23, s24, s25, s26, s27, s28, s29, s30, s31, s32, s33, s34, s35, s36, s37, s38, s39, s40, s41, s42, s43, s44, s45, s46, s47, s48, s49⟩
               go_simp
               with_reducible rfl
              rotate_left
              ·simp only [Act.put, List.setIfInBounds_toArray, List.set_cons_zero, List.set_cons_succ, i64_w, i32_w]
               rfl
              refine pure_ (i := 35) (N := some 56) (v := ?_) (a' := ?_) #[true, true, true, true, true, true, true, true, true, true, true, true, true, true, true, true, true, true, true, true, true, true, true, true, true, true, true, true, true, true, true, true, true, true, true, true, false, false] rfl rfl (any_of HT_.out (by kernel_rfl)) (fun _ _ _ h => h) (Or.inl ⟨by rfl, ?_⟩) ?_ ?_
              rotate_left
              ·intro w'
               go_simp
               with_reducible rfl
              rotate_left
              ·simp only [Act.put, List.setIfInBounds_toArray, List.set_cons_zero, List.set_cons_succ, i64_w, i32_w]
               rfl
              refine pure_ (i := 36) (N := some 57) (v := ?_) (a' := ?_) #[true, true, true, true, true, true, true, true, true, true, true, true, true, true, true, true, true, true, true, true, true, true, true, true, true, true, true, true, true, true, true, true, true, true, true, true, true, false] rfl rfl (any_of HT_.out (by kernel_rfl)) (fun _ _ _ h => h) (Or.inl ⟨by rfl, ?_⟩) ?_ ?_
              rotate_left
              ·intro w'
               go_simp
               with_reducible rfl
              rotate_left
              ·simp only [Act.put, List.setIfInBounds_toArray, List.set_cons_zero, List.set_cons_succ, i64_w, i32_w]
               rfl
              refine pure_ (i := 37) (N := some 58) (v := ?_) (a' := ?_) #[true, true, true, true, true, true, true, true, true, true, true, true, true, true, true, true, true, true, true, true, true, true, true, true, true, true, true, true, true, true, true, true, true, true, true, true, true, true] rfl rfl (any_of HT_.out (by kernel_rfl)) (fun _ _ _ h => h) (Or.inl ⟨by rfl, ?_⟩) ?_ ?_
              rotate_left
              ·intro w'
               go_simp
               with_reducible rfl
              rotate_left
              ·simp only [Act.put, List.setIfInBounds_toArray, List.set_cons_zero, List.set_cons_succ, i64_w, i32_w]
               rfl
              refine done_ (done_of HT_.out (by kernel_rfl)) ?_
              try go_wp2
              go_ret
              exact ⟨by first | rfl | (simp [errW_none, errW_some] <;> rfl) | (simp only [← hji18]; first | rfl | (simp [errW_none, errW_some] <;> rfl)) | (simp [*, errW_none, errW_some] <;> rfl), pS HB.out⟩
             ·rw [if_neg c21] at H
              have c21b0 : decide (((rd_T64 l0_1 x3_2).f0) ≤ ((rd_T64 l0_1 (ji18)).f0)) = false := decide_eq_false c21
              clear c21
              have H' := Aside0.mk H
              clear H
              have hcz25_0 : wr.cell? ⟨gb643, 0, none⟩ = some (.int .i64 a0_0) := (blk_cell BK643.out 0).trans rfl
              have hcz25_1 : wr.cell? ⟨gb643, 1, none⟩ = some (.slice A0_1 l0_1.length c0_1) := (blk_cell BK643.out 1).trans rfl
              have hfz25_0 := blk_frozen BK643.out 0
              have hfz25_1 := blk_frozen BK643.out 1
              try go_wp2
              have n0_ := Aside0.mk (blk_drew BK643.out)
              have n1_ := Aside0.mk (below_drew1 HB.out)
              clear BK643
              clear HB
              have BK643 := n0_
              have HB := n1_
              clear n0_ n1_
              have p645 : 0 ≤ (x3_2 : Int) := of_decide_eq_true bA
              have q645 : x3_2 < (l0_1.length : Int) := of_decide_eq_true bA
              obtain ⟨ad645, e645, hx645_0, hx645_1, hx645_2, hx645_3, hx645_4, hx645_5, hx645_6, hx645_7, hx645_8, hx645_9, hx645_10, hx645_11⟩ := at_T64 HR0_1.out x3_2 p645 q645
              have hw645_11 := hx645_11
              have hw645_10 := hx645_10
              have hw645_9 := hx645_9
              have hw645_8 := hx645_8
              have hw645_7 := hx645_7
              have hw645_6 := hx645_6
              have hw645_5 := hx645_5
              have hw645_4 := hx645_4
              have hw645_3 := hx645_3
              have hw645_2 := hx645_2
              have hw645_1 := hx645_1
              have hw645_0 := hx645_0
              cases e645
              replace hx645_0 := (HB.out.cell (World.block_lt_of_cell? w _ hx645_0)).trans hx645_0
              replace hx645_1 := (HB.out.cell (World.block_lt_of_cell? w _ hx645_1)).trans hx645_1
              replace hx645_2 := (HB.out.cell (World.block_lt_of_cell? w _ hx645_2)).trans hx645_2
              replace hx645_3 := (HB.out.cell (World.block_lt_of_cell? w _ hx645_3)).trans hx645_3
              replace hx645_4 := (HB.out.cell (World.block_lt_of_cell? w _ hx645_4)).trans hx645_4
              replace hx645_5 := (HB.out.cell (World.block_lt_of_cell? w _ hx645_5)).trans hx645_5
              replace hx645_6 := (HB.out.cell (World.block_lt_of_cell? w _ hx645_6)).trans hx645_6
              replace hx645_7 := (HB.out.cell (World.block_lt_of_cell? w _ hx645_7)).trans hx645_7
              replace hx645_8 := (HB.out.cell (World.block_lt_of_cell? w _ hx645_8)).trans hx645_8
              replace hx645_9 := (HB.out.cell (World.block_lt_of_cell? w _ hx645_9)).trans hx645_9
              replace hx645_10 := (HB.out.cell (World.block_lt_of_cell? w _ hx645_10)).trans hx645_10
              replace hx645_11 := (HB.out.cell (World.block_lt_of_cell? w _ hx645_11)).trans hx645_11
              replace p645 := eq_true p645
              replace q645 := eq_true q645
              have p647 : 0 ≤ (x3_2 : Int) := of_decide_eq_true bA
              have q647 : x3_2 < (l0_1.length : Int) := of_decide_eq_true bA
              obtain ⟨ad647, e647, hx647_0, hx647_1, hx647_2, hx647_3, hx647_4, hx647_5, hx647_6, hx647_7, hx647_8, hx647_9, hx647_10, hx647_11⟩ := at_T64 HR0_1.out x3_2 p647 q647
              have hw647_11 := hx647_11
              have hw647_10 := hx647_10
              have hw647_9 := hx647_9
              have hw647_8 := hx647_8
              have hw647_7 := hx647_7
              have hw647_6 := hx647_6
              have hw647_5 := hx647_5
              have hw647_4 := hx647_4
              have hw647_3 := hx647_3
              have hw647_2 := hx647_2
              have hw647_1 := hx647_1
              have hw647_0 := hx647_0
              obtain rfl : ad645 = ad647 := (by injection e647)
              replace hx647_0 := (HB.out.cell (World.block_lt_of_cell? w _ hx647_0)).trans hx647_0
              replace hx647_1 := (HB.out.cell (World.block_lt_of_cell? w _ hx647_1)).trans hx647_1
              replace hx647_2 := (HB.out.cell (World.block_lt_of_cell? w _ hx647_2)).trans hx647_2
              replace hx647_3 := (HB.out.cell (World.block_lt_of_cell? w _ hx647_3)).trans hx647_3
              replace hx647_4 := (HB.out.cell (World.block_lt_of_cell? w _ hx647_4)).trans hx647_4
              replace hx647_5 := (HB.out.cell (World.block_lt_of_cell? w _ hx647_5)).trans hx647_5
              replace hx647_6 := (HB.out.cell (World.block_lt_of_cell? w _ hx647_6)).trans hx647_6
              replace hx647_7 := (HB.out.cell (World.block_lt_of_cell? w _ hx647_7)).trans hx647_7
              replace hx647_8 := (HB.out.cell (World.block_lt_of_cell? w _ hx647_8)).trans hx647_8
              replace hx647_9 := (HB.out.cell (World.block_lt_of_cell? w _ hx647_9)).trans hx647_9
              replace hx647_10 := (HB.out.cell (World.block_lt_of_cell? w _ hx647_10)).trans hx647_10
              replace hx647_11 := (HB.out.cell (World.block_lt_of_cell? w _ hx647_11)).trans hx647_11
              replace p647 := eq_true p647
              replace q647 := eq_true q647
              have p648 : 0 ≤ ((ji18) : Int) := of_decide_eq_true bA
              have q648 : (ji18) < (l0_1.length : Int) := of_decide_eq_true bA
              obtain ⟨ad648, e648, hx648_0, hx648_1, hx648_2, hx648_3, hx648_4, hx648_5, hx648_6, hx648_7, hx648_8, hx648_9, hx648_10, hx648_11⟩ := at_T64 HR0_1.out (ji18) p648 q648
              have hw648_11 := hx648_11
              have hw648_10 := hx648_10
              have hw648_9 := hx648_9
              have hw648_8 := hx648_8
              have hw648_7 := hx648_7
              have hw648_6 := hx648_6
              have hw648_5 := hx648_5
              have hw648_4 := hx648_4
              have hw648_3 := hx648_3
              have hw648_2 := hx648_2
              have hw648_1 := hx648_1
              have hw648_0 := hx648_0
              obtain rfl : ad645 = ad648 := (by injection e648)
              replace hx648_0 := (HB.out.cell (World.block_lt_of_cell? w _ hx648_0)).trans hx648_0
              replace hx648_1 := (HB.out.cell (World.block_lt_of_cell? w _ hx648_1)).trans hx648_1
              replace hx648_2 := (HB.out.cell (World.block_lt_of_cell? w _ hx648_2)).trans hx648_2
              replace hx648_3 := (HB.out.cell (World.block_lt_of_cell? w _ hx648_3)).trans hx648_3
              replace hx648_4 := (HB.out.cell (World.block_lt_of_cell? w _ hx648_4)).trans hx648_4
              replace hx648_5 := (HB.out.cell (World.block_lt_of_cell? w _ hx648_5)).trans hx648_5
              replace hx648_6 := (HB.out.cell (World.block_lt_of_cell? w _ hx648_6)).trans hx648_6
              replace hx648_7 := (HB.out.cell (World.block_lt_of_cell? w _ hx648_7)).trans hx648_7
              replace hx648_8 := (HB.out.cell (World.block_lt_of_cell? w _ hx648_8)).trans hx648_8
              replace hx648_9 := (HB.out.cell (World.block_lt_of_cell? w _ hx648_9)).trans hx648_9
              replace hx648_10 := (HB.out.cell (World.block_lt_of_cell? w _ hx648_10)).trans hx648_10
              replace hx648_11 := (HB.out.cell (World.block_lt_of_cell? w _ hx648_11)).trans hx648_11
              replace p648 := eq_true p648
              replace q648 := eq_true q648
              have p649 : 0 ≤ (x3_2 : Int) := of_decide_eq_true bA
              have q649 : x3_2 < (l0_1.length : Int) := of_decide_eq_true bA
              obtain ⟨ad649, e649, hx649_0, hx649_1, hx649_2, hx649_3, hx649_4, hx649_5, hx649_6, hx649_7, hx649_8, hx649_9, hx649_10, hx649_11⟩ := at_T64 HR0_1.out x3_2 p649 q649
              have hw649_11 := hx649_11
              have hw649_10 := hx649_10
              have hw649_9 := hx649_9
              have hw649_8 := hx649_8
              have hw649_7 := hx649_7
              have hw649_6 := hx649_6
              have hw649_5 := hx649_5
              have hw649_4 := hx649_4
              have hw649_3 := hx649_3
              have hw649_2 := hx649_2
              have hw649_1 := hx649_1
              have hw649_0 := hx649_0
              obtain rfl : ad645 = ad649 := (by injection e649)
              replace hx649_0 := (HB.out.cell (World.block_lt_of_cell? w _ hx649_0)).trans hx649_0
              replace hx649_1 := (HB.out.cell (World.block_lt_of_cell? w _ hx649_1)).trans hx649_1
              replace hx649_2 := (HB.out.cell (World.block_lt_of_cell? w _ hx649_2)).trans hx649_2
              replace hx649_3 := (HB.out.cell (World.block_lt_of_cell? w _ hx649_3)).trans hx649_3
              replace hx649_4 := (HB.out.cell (World.block_lt_of_cell? w _ hx649_4)).trans hx649_4
              replace hx649_5 := (HB.out.cell (World.block_lt_of_cell? w _ hx649_5)).trans hx649_5
              replace hx649_6 := (HB.out.cell (World.block_lt_of_cell? w _ hx649_6)).trans hx649_6
              replace hx649_7 := (HB.out.cell (World.block_lt_of_cell? w _ hx649_7)).trans hx649_7
              replace hx649_8 := (HB.out.cell (World.block_lt_of_cell? w _ hx649_8)).trans hx649_8
              replace hx649_9 := (HB.out.cell (World.block_lt_of_cell? w _ hx649_9)).trans hx649_9
              replace hx649_10 := (HB.out.cell (World.block_lt_of_cell? w _ hx649_10)).trans hx649_10
              replace hx649_11 := (HB.out.cell (World.block_lt_of_cell? w _ hx649_11)).trans hx649_11
              replace p649 := eq_true p649
              replace q649 := eq_true q649
              refine start_ (n := 38) (S := fun w' => w'.cell? ⟨gb643, 0, none⟩ = some (.int .i64 a0_0) ∧ w'.cell? ⟨gb643, 1, none⟩ = some (.slice (some ad645) l0_1.length c0_1) ∧ w'.cell? (ad645.add ((x3_2).toNat * 12)) = some (.int .i64 ((rd_T64 l0_1 x3_2).f0)) ∧ w'.cell? ⟨(ad645.add ((x3_2).toNat * 12)).block, (ad645.add ((x3_2).toNat * 12)).off + 1, none⟩ = some (.int .i64 ((rd_T64 l0_1 x3_2).f1)) ∧ w'.cell? ⟨(ad645.add ((x3_2).toNat * 12)).block, (ad645.add ((x3_2).toNat * 12)).off + 2, none⟩ = some (.int .i64 ((rd_T64 l0_1 x3_2).f2.f0)) ∧ w'.cell? ⟨(ad645.add ((x3_2).toNat * 12)).block, (ad645.add ((x3_2).toNat * 12)).off + 3, none⟩ = some (.int .i64 ((rd_T64 l0_1 x3_2).f2.f1)) ∧ w'.cell? ⟨(ad645.add ((x3_2).toNat * 12)).block, (ad645.add ((x3_2).toNat * 12)).off + 4, none⟩ = some (.int .i64 ((rd_T64 l0_1 x3_2).f2.f2)) ∧ w'.cell? ⟨(ad645.add ((x3_2).toNat * 12)).block, (ad645.add ((x3_2).toNat * 12)).off + 5, none⟩ = some (.int .i64 ((rd_T64 l0_1 x3_2).f2.f3)) ∧ w'.cell? ⟨(ad645.add ((x3_2).toNat * 12)).block, (ad645.add ((x3_2).toNat * 12)).off + 6, none⟩ = some (.int .i64 ((rd_T64 l0_1 x3_2).f2.f4)) ∧ w'.cell? ⟨(ad645.add ((x3_2).toNat * 12)).block, (ad645.add ((x3_2).toNat * 12)).off + 7, none⟩ = some (.int .i64 ((rd_T64 l0_1 x3_2).f2.f5)) ∧ w'.cell? ⟨(ad645.add ((x3_2).toNat * 12)).block, (ad645.add ((x3_2).toNat * 12)).off + 8, none⟩ = some (.int .i64 ((rd_T64 l0_1 x3_2).f2.f6)) ∧ w'.cell? ⟨(ad645.add ((x3_2).toNat * 12)).block, (ad645.add ((x3_2).toNat * 12)).off + 9, none⟩ = some (.int .i64 ((rd_T64 l0_1 x3_2).f2.f7)) ∧ w'.cell? ⟨(ad645.add ((x3_2).toNat * 12)).block, (ad645.add ((x3_2).toNat * 12)).off + 10, none⟩ = some (.int .i64 ((rd_T64 l0_1 x3_2).f2.f8)) ∧ w'.cell? ⟨(ad645.add ((x3_2).toNat * 12)).block, (ad645.add ((x3_2).toNat * 12)).off + 11, none⟩ = some (.int .i64 ((rd_T64 l0_1 x3_2).f2.f9)) ∧ w'.cell? (ad645.add ((x3_2).toNat * 12)) = some (.int .i64 ((rd_T64 l0_1 x3_2).f0)) ∧ w'.cell? ⟨(ad645.add ((x3_2).toNat * 12)).block, (ad645.add ((x3_2).toNat * 12)).off + 1, none⟩ = some (.int .i64 ((rd_T64 l0_1 x3_2).f1)) ∧ w'.cell? ⟨(ad645.add ((x3_2).toNat * 12)).block, (ad645.add ((x3_2).toNat * 12)).off + 2, none⟩ = some (.int .i64 ((rd_T64 l0_1 x3_2).f2.f0)) ∧ w'.cell? ⟨(ad645.add ((x3_2).toNat * 12)).block, (ad645.add ((x3_2).toNat * 12)).off + 3, none⟩ = some (.int .i64 ((rd_T64 l0_1 x3_2).f2.f1)) ∧ w'.cell? ⟨(ad645.add ((x3_2).toNat * 12)).block, (ad645.add ((x3_2).toNat * 12)).off + 4, none⟩ = some (.int .i64 ((rd_T64 l0_1 x3_2).f2.f2)) ∧ w'.cell? ⟨(ad645.add ((x3_2).toNat * 12)).block, (ad645.add ((x3_2).toNat * 12)).off + 5, none⟩ = some (.int .i64 ((rd_T64 l0_1 x3_2).f2.f3)) ∧ w'.cell? ⟨(ad645.add ((x3_2).toNat * 12)).block, (ad645.add ((x3_2).toNat * 12)).off + 6, none⟩ = some (.int .i64 ((rd_T64 l0_1 x3_2).f2.f4)) ∧ w'.cell? ⟨(ad645.add ((x3_2).toNat * 12)).block, (ad645.add ((x3_2).toNat * 12)).off + 7, none⟩ = some (.int .i64 ((rd_T64 l0_1 x3_2).f2.f5)) ∧ w'.cell? ⟨(ad645.add ((x3_2).toNat * 12)).block, (ad645.add ((x3_2).toNat * 12)).off + 8, none⟩ = some (.int .i64 ((rd_T64 l0_1 x3_2).f2.f6)) ∧ w'.cell? ⟨(ad645.add ((x3_2).toNat * 12)).block, (ad645.add ((x3_2).toNat * 12)).off + 9, none⟩ = some (.int .i64 ((rd_T64 l0_1 x3_2).f2.f7)) ∧ w'.cell? ⟨(ad645.add ((x3_2).toNat * 12)).block, (ad645.add ((x3_2).toNat * 12)).off + 10, none⟩ = some (.int .i64 ((rd_T64 l0_1 x3_2).f2.f8)) ∧ w'.cell? ⟨(ad645.add ((x3_2).toNat * 12)).block, (ad645.add ((x3_2).toNat * 12)).off + 11, none⟩ = some (.int .i64 ((rd_T64 l0_1 x3_2).f2.f9)) ∧ w'.cell? (ad645.add (((ji18)).toNat * 12)) = some (.int .i64 ((rd_T64 l0_1 (ji18)).f0)) ∧ w'.cell? ⟨(ad645.add (((ji18)).toNat * 12)).block, (ad645.add (((ji18)).toNat * 12)).off + 1, none⟩ = some (.int .i64 ((rd_T64 l0_1 (ji18)).f1)) ∧ w'.cell? ⟨(ad645.add (((ji18)).toNat * 12)).block, (ad645.add (((ji18)).toNat * 12)).off + 2, none⟩ = some (.int .i64 ((rd_T64 l0_1 (ji18)).f2.f0)) ∧ w'.cell? ⟨(ad645.add (((ji18)).toNat * 12)).block, (ad645.add (((ji18)).toNat * 12)).off + 3, none⟩ = some (.int .i64 ((rd_T64 l0_1 (ji18)).f2.f1)) ∧ w'.cell? ⟨(ad645.add (((ji18)).toNat * 12)).block, (ad645.add (((ji18)).toNat * 12)).off + 4, none⟩ = some (.int .i64 ((rd_T64 l0_1 (ji18)).f2.f2)) ∧ w'.cell? ⟨(ad645.add (((ji18)).toNat * 12)).block, (ad645.add (((ji18)).toNat * 12)).off + 5, none⟩ = some (.int .i64 ((rd_T64 l0_1 (ji18)).f2.f3)) ∧ w'.cell? ⟨(ad645.add (((ji18)).toNat * 12)).block, (ad645.add (((ji18)).toNat * 12)).off + 6, none⟩ = some (.int .i64 ((rd_T64 l0_1 (ji18)).f2.f4)) ∧ w'.cell? ⟨(ad645.add (((ji18)).toNat * 12)).block, (ad645.add (((ji18)).toNat * 12)).off + 7, none⟩ = some (.int .i64 ((rd_T64 l0_1 (ji18)).f2.f5)) ∧ w'.cell? ⟨(ad645.add (((ji18)).toNat * 12)).block, (ad645.add (((ji18)).toNat * 12)).off + 8, none⟩ = some (.int .i64 ((rd_T64 l0_1 (ji18)).f2.f6)) ∧ w'.cell? ⟨(ad645.add (((ji18)).toNat * 12)).block, (ad645.add (((ji18)).toNat * 12)).off + 9, none⟩ = some (.int .i64 ((rd_T64 l0_1 (ji18)).f2.f7)) ∧ w'.cell? ⟨(ad645.add (((ji18)).toNat * 12)).block, (ad645.add (((ji18)).toNat * 12)).off + 10, none⟩ = some (.int .i64 ((rd_T64 l0_1 (ji18)).f2.f8)) ∧ w'.cell? ⟨(ad645.add (((ji18)).toNat * 12)).block, (ad645.add (((ji18)).toNat * 12)).off + 11, none⟩ = some (.int .i64 ((rd_T64 l0_1 (ji18)).f2.f9)) ∧ w'.cell? (ad645.add ((x3_2).toNat * 12)) = some (.int .i64 ((rd_T64 l0_1 x3_2).f0)) ∧ w'.cell? ⟨(ad645.add ((x3_2).toNat * 12)).block, (ad645.add ((x3_2).toNat * 12)).off + 1, none⟩ = some (.int .i64 ((rd_T64 l0_1 x3_2).f1)) ∧ w'.cell? ⟨(ad645.add ((x3_2).toNat * 12)).block, (ad645.add ((x3_2).toNat * 12)).off + 2, none⟩ = some (.int .i64 ((rd_T64 l0_1 x3_2).f2.f0)) ∧ w'.cell? ⟨(ad645.add ((x3_2).toNat * 12)).block, (ad645.add ((x3_2).toNat * 12)).off + 3, none⟩ = some (.int .i64 ((rd_T64 l0_1 x3_2).f2.f1)) ∧ w'.cell? ⟨(ad645.add ((x3_2).toNat * 12)).block, (ad645.add ((x3_2).toNat * 12)).off + 4, none⟩ = some (.int .i64 ((rd_T64 l0_1 x3_2).f2.f2)) ∧ w'.cell? ⟨(ad645.add ((x3_2).toNat * 12)).block, (ad645.add ((x3_2).toNat * 12)).off + 5, none⟩ = some (.int .i64 ((rd_T64 l0_1 x3_2).f2.f3)) ∧ w'.cell? ⟨(ad645.add ((x3_2).toNat * 12)).block, (ad645.add ((x3_2).toNat * 12)).off + 6, none⟩ = some (.int .i64 ((rd_T64 l0_1 x3_2).f2.f4)) ∧ w'.cell? ⟨(ad645.add ((x3_2).toNat * 12)).block, (ad645.add ((x3_2).toNat * 12)).off + 7, none⟩ = some (.int .i64 ((rd_T64 l0_1 x3_2).f2.f5)) ∧ w'.cell? ⟨(ad645.add ((x3_2).toNat * 12)).block, (ad645.add ((x3_2).toNat * 12)).off + 8, none⟩ = some (.int .i64 ((rd_T64 l0_1 x3_2).f2.f6)) ∧ w'.cell? ⟨(ad645.add ((x3_2).toNat * 12)).block, (ad645.add ((x3_2).toNat * 12)).off + 9, none⟩ = some (.int .i64 ((rd_T64 l0_1 x3_2).f2.f7)) ∧ w'.cell? ⟨(ad645.add ((x3_2).toNat * 12)).block, (ad645.add ((x3_2).toNat * 12)).off + 10, none⟩ = some (.int .i64 ((rd_T64 l0_1 x3_2).f2.f8)) ∧ w'.cell? ⟨(ad645.add ((x3_2).toNat * 12)).block, (ad645.add ((x3_2).toNat * 12)).off + 11, none⟩ = some (.int .i64 ((rd_T64 l0_1 x3_2).f2.f9))) (ds := []) #[false, false, false, false, false, false, false, false, false, false, false, false, false, false, false, false, false, false, false, false, false, false, false, false, false, false, false, false, false, false, false, false, false, false, false, false, false, false] (by kernel_rfl) rfl rfl ⟨(blk_cell BK643.out 0).trans rfl, (blk_cell BK643.out 1).trans rfl, ((HB.out.cell (World.block_lt_of_cell? w _ hw645_0)).trans hw645_0), ((HB.out.cell (World.block_lt_of_cell? w _ hw645_1)).trans hw645_1), ((HB.out.cell (World.block_lt_of_cell? w _ hw645_2)).trans hw645_2), ((HB.out.cell (World.block_lt_of_cell? w _ hw645_3)).trans hw645_3), ((HB.out.cell (World.block_lt_of_cell? w _ hw645_4)).trans hw645_4), ((HB.out.cell (World.block_lt_of_cell? w _ hw645_5)).trans hw645_5), ((HB.out.cell (World.block_lt_of_cell? w _ hw645_6)).trans hw645_6), ((HB.out.cell (World.block_lt_of_cell? w _ hw645_7)).trans hw645_7), ((HB.out.cell (World.block_lt_of_cell? w _ hw645_8)).trans hw645_8), ((HB.out.cell (World.block_lt_of_cell? w _ hw645_9)).trans hw645_9), ((HB.out.cell (World.block_lt_of_cell? w _ hw645_10)).trans hw645_10), ((HB.out.cell (World.block_lt_of_cell? w _ hw645_11)).trans hw645_11), ((HB.out.cell (World.block_lt_of_cell? w _ hw647_0)).trans hw647_0), ((HB.out.cell (World.block_lt_of_cell? w _ hw647_1)).trans hw647_1), ((HB.out.cell (World.block_lt_of_cell? w _ hw647_2)).trans hw647_2), ((HB.out.cell (World.block_lt_of_cell? w _ hw647_3)).trans hw647_3), ((HB.out.cell (World.block_lt_of_cell? w _ hw647_4)).trans hw647_4), ((HB.out.cell (World.block_lt_of_cell? w _ hw647_5)).trans hw647_5), ((HB.out.cell (World.block_lt_of_cell? w _ hw647_6)).trans hw647_6), ((HB.out.cell (World.block_lt_of_cell? w _ hw647_7)).trans hw647_7), ((HB.out.cell (World.block_lt_of_cell? w _ hw647_8)).trans hw647_8), ((HB.out.cell (World.block_lt_of_cell? w _ hw647_9)).trans hw647_9), ((HB.out.cell (World.block_lt_of_cell? w _ hw647_10)).trans hw647_10), ((HB.out.cell (World.block_lt_of_cell? w _ hw647_11)).trans hw647_11), ((HB.out.cell (World.block_lt_of_cell? w _ hw648_0)).trans hw648_0), ((HB.out.cell (World.block_lt_of_cell? w _ hw648_1)).trans hw648_1), ((HB.out.cell (World.block_lt_of_cell? w _ hw648_2)).trans hw648_2), ((HB.out.cell (World.block_lt_of_cell? w _ hw648_3)).trans hw648_3), ((HB.out.cell (World.block_lt_of_cell? w _ hw648_4)).trans hw648_4), ((HB.out.cell (World.block_lt_of_cell? w _ hw648_5)).trans hw648_5), ((HB.out.cell (World.block_lt_of_cell? w _ hw648_6)).trans hw648_6), ((HB.out.cell (World.block_lt_of_cell? w _ hw648_7)).trans hw648_7), ((HB.out.cell (World.block_lt_of_cell? w _ hw648_8)).trans hw648_8), ((HB.out.cell (World.block_lt_of_cell? w _ hw648_9)).trans hw648_9), ((HB.out.cell (World.block_lt_of_cell? w _ hw648_10)).trans hw648_10), ((HB.out.cell (World.block_lt_of_cell? w _ hw648_11)).trans hw648_11), ((HB.out.cell (World.block_lt_of_cell? w _ hw649_0)).trans hw649_0), ((HB.out.cell (World.block_lt_of_cell? w _ hw649_1)).trans hw649_1), ((HB.out.cell (World.block_lt_of_cell? w _ hw649_2)).trans hw649_2), ((HB.out.cell (World.block_lt_of_cell? w _ hw649_3)).trans hw649_3), ((HB.out.cell (World.block_lt_of_cell? w _ hw649_4)).trans hw649_4), ((HB.out.cell (World.block_lt_of_cell? w _ hw649_5)).trans hw649_5), ((HB.out.cell (World.block_lt_of_cell? w _ hw649_6)).trans hw649_6), ((HB.out.cell (World.block_lt_of_cell? w _ hw649_7)).trans hw649_7), ((HB.out.cell (World.block_lt_of_cell? w _ hw649_8)).trans hw649_8), ((HB.out.cell (World.block_lt_of_cell? w _ hw649_9)).trans hw649_9), ((HB.out.cell (World.block_lt_of_cell? w _ hw649_10)).trans hw649_10), ((HB.out.cell (World.block_lt_of_cell? w _ hw649_11)).trans hw649_11)⟩ (fun hHeld => ?_); refine with_tabW spec_SynVoterOk.tab6 spec_SynVoterOk.bits6 (fun HT_ HW_ => ?_)
              generalize wr.drew = w26 at BK643 HB hx645_0 hx645_1 hx645_10 hx645_11 hx645_2 hx645_3 hx645_4 hx645_5 hx645_6 hx645_7 hx645_8 hx645_9 hx647_0 hx647_1 hx647_10 hx647_11 hx647_2 hx647_3 hx647_4 hx647_5 hx647_6 hx647_7 hx647_8 hx647_9 hx648_0 hx648_1 hx648_10 hx648_11 hx648_2 hx648_3 hx648_4 hx648_5 hx648_6 hx648_7 hx648_8 hx648_9 hx649_0 hx649_1 hx649_10 hx649_11 hx649_2 hx649_3 hx649_4 hx649_5 hx649_6 hx649_7 hx649_8 hx649_9 hHeld ⊢
              refine pure_ (i := 0) (N := some 21) (v := ?_) (a' := ?_) #[true, false, false, false, false, false, false, false, false, false, false, false, false, false, false, false, false, false, false, false, false, false, false, false, false, false, false, false, false, false, false, false, false, false, false, false, false, false] rfl rfl (any_of HT_.out (by kernel_rfl)) (fun _ _ _ h => h) (Or.inl ⟨by rfl, ?_⟩) ?_ ?_
              rotate_left
              ·intro w'
               go_simp
               with_reducible rfl
              rotate_left
              ·simp only [Act.put, List.setIfInBounds_toArray, List.set_cons_zero, List.set_cons_succ, i64_w, i32_w]
               rfl
              refine pure_ (i := 2) (N := some 23) (v := ?_) (a' := ?_) #[true, false, true, false, false, false, false, false, false, false, false, false, false, false, false, false, false, false, false, false, false, false, false, false, false, false, false, false, false, false, false, false, false, false, false, false, false, false] rfl rfl (any_of HT_.out (by kernel_rfl)) (fun _ _ _ h => h) (Or.inl ⟨by rfl, ?_⟩) ?_ ?_
              rotate_left
              ·intro w'
               go_simp
               with_reducible rfl
              rotate_left
              ·simp only [Act.put, List.setIfInBounds_toArray, List.set_cons_zero, List.set_cons_succ, i64_w, i32_w]
               rfl
              refine take_ (i := 1) (N := some 22) (v := ?_) (a' := ?_) #[true, true, true, false, false, false, false, false, false, false, false, false, false, false, false, false, false, false, false, false, false, false, false, false, false, false, false, false, false, false, false, false, false, false, false, false, false, false] rfl rfl (take_ofW HT_.out HW_.out (by kernel_rfl)) (fun _ _ _ h => h) (Or.inl ⟨by rfl, ?_⟩) hHeld ?_ ?_
              rotate_left
              ·rintro w' ⟨s0, s1, s2, s3, s4, s5, s6, s7, s8, s9, s10, s11, s12, s13, s14, s15, s16, s17, s18, s19, s20, s21, s22, s23, s24, s25, s26, s27, s28, s29, s30, s31, s32, s33, s34, s35, s36, s37, s38, s39, s40, s41, s42, s43, s44, s45, s46, s47, s48, s49⟩
               go_simp
               with_reducible rfl
              rotate_left
              ·simp only [Act.put, List.setIfInBounds_toArray, List.set_cons_zero, List.set_cons_succ, i64_w, i32_w]
               rfl
              refine pure_ (i := 3) (N := some 24) (v := ?_) (a' := ?_) #[true, true, true, true, false, false, false, false, false, false, false, false, false, false, false, false, false, false, false, false, false, false, false, false, false, false, false, false, false, false, false, false, false, false, false, false, false, false] rfl rfl (any_of HT_.out (by kernel_rfl)) (fun _ _ _ h => h) (Or.inl ⟨by rfl, ?_⟩) ?_ ?_
              rotate_left
              ·intro w'
               go_simp
               with_reducible rfl
              rotate_left
              ·simp only [Act.put, List.setIfInBounds_toArray, List.set_cons_zero, List.set_cons_succ, i64_w, i32_w]
               rfl
              refine take_ (i := 4) (N := some 25) (v := ?_) (a' := ?_) #[true, true, true, true, true, false, false, false, false, false, false, false, false, false, false, false, false, false, false, false, false, false, false, false, false, false, false, false, false, false, false, false, false, false, false, false, false, false] rfl rfl (take_ofW HT_.out HW_.out (by kernel_rfl)) (fun _ _ _ h => h) (Or.inl ⟨by rfl, ?_⟩) hHeld ?_ ?_
              rotate_left
              ·rintro w' ⟨s0, s1, s2, s3, s4, s5, s6, s7, s8, s9, s10, s11, s12, s13, s14, s15, s16, s17, s18, s19, s20, s21, s22, s23, s24, s25, s26, s27, s28, s29, s30, s31, s32, s33, s34, s35, s36, s37, s38, s39, s40, s41, s42, s43, s44, s45, s46, s47, s48, s49⟩
               go_simp
               with_reducible rfl
              rotate_left
              ·simp only [Act.put, List.setIfInBounds_toArray, List.set_cons_zero, List.set_cons_succ, i64_w, i32_w]
               rfl
              refine one_ (i := 5) (N := some 26) #[true, true, true, true, true, true, false, false, false, false, false, false, false, false, false, false, false, false, false, false, false, false, false, false, false, false, false, false, false, false, false, false, false, false, false, false, false, false] rfl rfl (one_of HT_.out (by kernel_rfl)) (by decide) (fun K hK => ?_)
              refine goes_ Try.func86 (by kernel_rfl) rfl #[.agg #[.int .i64 ((rd_T64 l0_1 x3_2).f0), .int .i64 ((rd_T64 l0_1 x3_2).f1), .int .i64 ((rd_T64 l0_1 x3_2).f2.f0), .int .i64 ((rd_T64 l0_1 x3_2).f2.f1), .int .i64 ((rd_T64 l0_1 x3_2).f2.f2), .int .i64 ((rd_T64 l0_1 x3_2).f2.f3), .int .i64 ((rd_T64 l0_1 x3_2).f2.f4), .int .i64 ((rd_T64 l0_1 x3_2).f2.f5), .int .i64 ((rd_T64 l0_1 x3_2).f2.f6), .int .i64 ((rd_T64 l0_1 x3_2).f2.f7), .int .i64 ((rd_T64 l0_1 x3_2).f2.f8), .int .i64 ((rd_T64 l0_1 x3_2).f2.f9)]] (by rfl) rfl rfl bM ?_
              with_reducible refine (spec_l21PaperOk.calls ((rd_T64 l0_1 x3_2).f0) ((rd_T64 l0_1 x3_2).f1) ((rd_T64 l0_1 x3_2).f2.f0) ((rd_T64 l0_1 x3_2).f2.f1) ((rd_T64 l0_1 x3_2).f2.f2) ((rd_T64 l0_1 x3_2).f2.f3) ((rd_T64 l0_1 x3_2).f2.f4) ((rd_T64 l0_1 x3_2).f2.f5) ((rd_T64 l0_1 x3_2).f2.f6) ((rd_T64 l0_1 x3_2).f2.f7) ((rd_T64 l0_1 x3_2).f2.f8) ((rd_T64 l0_1 x3_2).f2.f9) true _ A11.out).mono ?_
              rintro e w27 ⟨rfl, hb⟩
              refine ⟨_, rfl, ?_⟩
              have n0_ := Aside0.mk (blk_below (pK BK643.out) hb)
              have n1_ := Aside0.mk (below_step (pS HB.out) hb)
              clear BK643
              clear HB
              have BK643 := n0_
              have HB := n1_
              clear n0_ n1_
              (try clear hb)
              (try clear hb2)
              (try clear hk)
              (try clear hi)
              refine hK.out _ _ ⟨(blk_cell BK643.out 0).trans rfl, (blk_cell BK643.out 1).trans rfl, ((HB.out.cell (World.block_lt_of_cell? w _ hw645_0)).trans hw645_0), ((HB.out.cell (World.block_lt_of_cell? w _ hw645_1)).trans hw645_1), ((HB.out.cell (World.block_lt_of_cell? w _ hw645_2)).trans hw645_2), ((HB.out.cell (World.block_lt_of_cell? w _ hw645_3)).trans hw645_3), ((HB.out.cell (World.block_lt_of_cell? w _ hw645_4)).trans hw645_4), ((HB.out.cell (World.block_lt_of_cell? w _ hw645_5)).trans hw645_5), ((HB.out.cell (World.block_lt_of_cell? w _ hw645_6)).trans hw645_6), ((HB.out.cell (World.block_lt_of_cell? w _ hw645_7)).trans hw645_7), ((HB.out.cell (World.block_lt_of_cell? w _ hw645_8)).trans hw645_8), ((HB.out.cell (World.block_lt_of_cell? w _ hw645_9)).trans hw645_9), ((HB.out.cell (World.block_lt_of_cell? w _ hw645_10)).trans hw645_10), ((HB.out.cell (World.block_lt_of_cell? w _ hw645_11)).trans hw645_11), ((HB.out.cell (World.block_lt_of_cell? w _ hw647_0)).trans hw647_0), ((HB.out.cell (World.block_lt_of_cell? w _ hw647_1)).trans hw647_1), ((HB.out.cell (World.block_lt_of_cell? w _ hw647_2)).trans hw647_2), ((HB.out.cell (World.block_lt_of_cell? w _ hw647_3)).trans hw647_3), ((HB.out.cell (World.block_lt_of_cell? w _ hw647_4)).trans hw647_4), ((HB.out.cell (World.block_lt_of_cell? w _ hw647_5)).trans hw647_5), ((HB.out.cell (World.block_lt_of_cell? w _ hw647_6)).trans hw647_6), ((HB.out.cell (World.block_lt_of_cell? w _ hw647_7)).trans hw647_7), ((HB.out.cell (World.block_lt_of_cell? w _ hw647_8)).trans hw647_8), ((HB.out.cell (World.block_lt_of_cell? w _ hw647_9)).trans hw647_9), ((HB.out.cell (World.block_lt_of_cell? w _ hw647_10)).trans hw647_10), ((HB.out.cell (World.block_lt_of_cell? w _ hw647_11)).trans hw647_11), ((HB.out.cell (World.block_lt_of_cell? w _ hw648_0)).trans hw648_0), ((HB.out.cell (World.block_lt_of_cell? w _ hw648_1)).trans hw648_1), ((HB.out.cell (World.block_lt_of_cell? w _ hw648_2)).trans hw648_2), ((HB.out.cell (World.block_lt_of_cell? w _ hw648_3)).trans hw648_3), ((HB.out.cell (World.block_lt_of_cell? w _ hw648_4)).trans hw648_4), ((HB.out.cell (World.block_lt_of_cell? w _ hw648_5)).trans hw648_5), ((HB.out.cell (World.block_lt_of_cell? w _ hw648_6)).trans hw648_6), ((HB.out.cell (World.block_lt_of_cell? w _ hw648_7)).trans hw648_7), ((HB.out.cell (World.block_lt_of_cell? w _ hw648_8)).trans hw648_8), ((HB.out.cell (World.block_lt_of_cell? w _ hw648_9)).trans hw648_9), ((HB.out.cell (World.block_lt_of_cell? w _ hw648_10)).trans hw648_10), ((HB.out.cell (World.block_lt_of_cell? w _ hw648_11)).trans hw648_11), ((HB.out.cell (World.block_lt_of_cell? w _ hw649_0)).trans hw649_0), ((HB.out.cell (World.block_lt_of_cell? w _ hw649_1)).trans hw649_1), ((HB.out.cell (World.block_lt_of_cell? w _ hw649_2)).trans hw649_2), ((HB.out.cell (World.block_lt_of_cell? w _ hw649_3)).trans hw649_3), ((HB.out.cell (World.block_lt_of_cell? w _ hw649_4)).trans hw649_4), ((HB.out.cell (World.block_lt_of_cell? w _ hw649_5)).trans hw649_5), ((HB.out.cell (World.block_lt_of_cell? w _ hw649_6)).trans hw649_6), ((HB.out.cell (World.block_lt_of_cell? w _ hw649_7)).trans hw649_7), ((HB.out.cell (World.block_lt_of_cell? w _ hw649_8)).trans hw649_8), ((HB.out.cell (World.block_lt_of_cell? w _ hw649_9)).trans hw649_9), ((HB.out.cell (World.block_lt_of_cell? w _ hw649_10)).trans hw649_10), ((HB.out.cell (World.block_lt_of_cell? w _ hw649_11)).trans hw649_11)⟩ (fun hHeld => ?_)
              clear hK K
              refine norm_ (a' := ?_) ?_ ?_
              rotate_left
              ·show Act.put _ (some 26) _ = _
               simp only [Act.put, List.setIfInBounds_toArray, List.set_cons_zero, List.set_cons_succ, i64_w, i32_w]
               rfl
              refine pure_ (i := 6) (N := some 27) (v := ?_) (a' := ?_) #[true, true, true, true, true, true, true, false, false, false, false, false, false, false, false, false, false, false, false, false, false, false, false, false, false, false, false, false, false, false, false, false, false, false, false, false, false, false] rfl rfl (any_of HT_.out (by kernel_rfl)) (fun _ _ _ h => h) (Or.inl ⟨by rfl, ?_⟩) ?_ ?_
              rotate_left
              ·intro w'
               go_simp
               with_reducible rfl
              rotate_left
              ·simp only [Act.put, List.setIfInBounds_toArray, List.set_cons_zero, List.set_cons_succ, i64_w, i32_w]
               rfl
              refine pure_ (i := 7) (N := some 28) (v := ?_) (a' := ?_) #[true, true, true, true, true, true, true, true, false, false, false, false, false, false, false, false, false, false, false, false, false, false, false, false, false, false, false, false, false, false, false, false, false, false, false, false, false, false] rfl rfl (any_of HT_.out (by kernel_rfl)) (fun _ _ _ h => h) (Or.inl ⟨by rfl, ?_⟩) ?_ ?_
              rotate_left
              ·intro w'
               go_simp
               with_reducible rfl
              rotate_left
              ·simp only [Act.put, List.setIfInBounds_toArray, List.set_cons_zero, List.set_cons_succ, i64_w, i32_w]
               rfl
              refine pure_ (i := 8) (N := some 29) (v := ?_) (a' := ?_) #[true, true, true, true, true, true, true, true, true, false, false, false, false, false, false, false, false, false, false, false, false, false, false, false, false, false, false, false, false, false, false, false, false, false, false, false, false, false] rfl rfl (any_of HT_.out (by kernel_rfl)) (fun _ _ _ h => h) (Or.inl ⟨by rfl, ?_⟩) ?_ ?_
              rotate_left
              ·intro w'
               go_simp
               with_reducible rfl
              rotate_left
              ·simp only [Act.put, List.setIfInBounds_toArray, List.set_cons_zero, List.set_cons_succ, i64_w, i32_w]
               rfl
              refine pure_ (i := 10) (N := some 31) (v := ?_) (a' := ?_) #[true, true, true, true, true, true, true, true, true, false, true, false, false, false, false, false, false, false, false, false, false, false, false, false, false, false, false, false, false, false, false, false, false, false, false, false, false, false] rfl rfl (any_of HT_.out (by kernel_rfl)) (fun _ _ _ h => h) (Or.inl ⟨by rfl, ?_⟩) ?_ ?_
              rotate_left
              ·intro w'
               go_simp
               with_reducible rfl
              rotate_left
              ·simp only [Act.put, List.setIfInBounds_toArray, List.set_cons_zero, List.set_cons_succ, i64_w, i32_w]
               rfl
              refine pure_ (i := 14) (N := some 35) (v := ?_) (a' := ?_) #[true, true, true, true, true, true, true, true, true, false, true, false, false, false, true, false, false, false, false, false, false, false, false, false, false, false, false, false, false, false, false, false, false, false, false, false, false, false] rfl rfl (any_of HT_.out (by kernel_rfl)) (fun _ _ _ h => h) (Or.inl ⟨by rfl, ?_⟩) ?_ ?_
              rotate_left
              ·intro w'
               go_simp
               with_reducible rfl
              rotate_left
              ·simp only [Act.put, List.setIfInBounds_toArray, List.set_cons_zero, List.set_cons_succ, i64_w, i32_w]
               rfl
              refine take_ (i := 9) (N := some 30) (v := ?_) (a' := ?_) #[true, true, true, true, true, true, true, true, true, true, true, false, false, false, true, false, false, false, false, false, false, false, false, false, false, false, false, false, false, false, false, false, false, false, false, false, false, false] rfl rfl (take_ofW HT_.out HW_.out (by kernel_rfl)) (fun _ _ _ h => h) (Or.inl ⟨by rfl, ?_⟩) hHeld ?_ ?_
              rotate_left
              ·rintro w' ⟨s0, s1, s2, s3, s4, s5, s6, s7, s8, s9, s10, s11, s12, s13, s14, s15, s16, s17, s18, s19, s20, s21, s22, s23, s24, s25, s26, s27, s28, s29, s30, s31, s32, s33, s34, s35, s36, s37, s38, s39, s40, s41, s42, s43, s44, s45, s46, s47, s48, s49⟩
               go_simp
               with_reducible rfl
              rotate_left
              ·simp only [Act.put, List.setIfInBounds_toArray, List.set_cons_zero, List.set_cons_succ, i64_w, i32_w]
               rfl
              refine pure_ (i := 11) (N := some 32) (v := ?_) (a' := ?_) #[true, true, true, true, true, true, true, true, true, true, true, true, false, false, true, false, false, false, false, false, false, false, false, false, false, false, false, false, false, false, false, false, false, false, false, false, false, false] rfl rfl (any_of HT_.out (by kernel_rfl)) (fun _ _ _ h => h) (Or.inl ⟨by rfl, ?_⟩) ?_ ?_
              rotate_left
              ·intro w'
               go_simp
               with_reducible rfl
              rotate_left
              ·simp only [Act.put, List.setIfInBounds_toArray, List.set_cons_zero, List.set_cons_succ, i64_w, i32_w]
               rfl
              refine pure_ (i := 12) (N := some 33) (v := ?_) (a' := ?_) #[true, true, true, true, true, true, true, true, true, true, true, true, true, false, true, false, false, false, false, false, false, false, false, false, false, false, false, false, false, false, false, false, false, false, false, false, false, false] rfl rfl (any_of HT_.out (by kernel_rfl)) (fun _ _ _ h => h) (Or.inl ⟨by rfl, ?_⟩) ?_ ?_
              rotate_left
              ·intro w'
               go_simp
               with_reducible rfl
              rotate_left
              ·simp only [Act.put, List.setIfInBounds_toArray, List.set_cons_zero, List.set_cons_succ, i64_w, i32_w]
               rfl
              refine take_ (i := 13) (N := some 34) (v := ?_) (a' := ?_) #[true, true, true, true, true, true, true, true, true, true, true, true, true, true, true, false, false, false, false, false, false, false, false, false, false, false, false, false, false, false, false, false, false, false, false, false, false, false] rfl rfl (take_ofW HT_.out HW_.out (by kernel_rfl)) (fun _ _ _ h => h) (Or.inl ⟨by rfl, ?_⟩) hHeld ?_ ?_
              rotate_left
              ·rintro w' ⟨s0, s1, s2, s3, s4, s5, s6, s7, s8, s9, s10, s11, s12, s13, s14, s15, s16, s17, s18, s19, s20, s21, s22, s23, s24, s25, s26, s27, s28, s29, s30, s31, s32, s33, s34, s35, s36, s37, s38, s39, s40, s41, s42, s43, s44, s45, s46, s47, s48, s49⟩
               go_simp
               with_reducible rfl
              rotate_left
              ·simp only [Act.put, List.setIfInBounds_toArray, List.set_cons_zero, List.set_cons_succ, i64_w, i32_w]
               rfl
              refine take_ (i := 15) (N := some 36) (v := ?_) (a' := ?_) #[true, true, true, true, true, true, true, true, true, true, true, true, true, true, true, true, false, false, false, false, false, false, false, false, false, false, false, false, false, false, false, false, false, false, false, false, false, false] rfl rfl (take_ofW HT_.out HW_.out (by kernel_rfl)) (fun _ _ _ h => h) (Or.inl ⟨by rfl, ?_⟩) hHeld ?_ ?_
              rotate_left
              ·rintro w' ⟨s0, s1, s2, s3, s4, s5, s6, s7, s8, s9, s10, s11, s12, s13, s14, s15, s16, s17, s18, s19, s20, s21, s22, s23, s24, s25, s26, s27, s28, s29, s30, s31, s32, s33, s34, s35, s36, s37, s38, s39, s40, s41, s42, s43, s44, s45, s46, s47, s48, s49⟩
               go_simp
               with_reducible rfl
              rotate_left
              ·simp only [Act.put, List.setIfInBounds_toArray, List.set_cons_zero, List.set_cons_succ, i64_w, i32_w]
               rfl
              refine pure_ (i := 16) (N := some 37) (v := ?_) (a' := ?_) #[true, true, true, true, true, true, true, true, true, true, true, true, true, true, true, true, true, false, false, false, false, false, false, false, false, false, false, false, false, false, false, false, false, false, false, false, false, false] rfl rfl (any_of HT_.out (by kernel_rfl)) (fun _ _ _ h => h) (Or.inl ⟨by rfl, ?_⟩) ?_ ?_
              rotate_left
              ·intro w'
               go_simp
               with_reducible rfl
              rotate_left
              ·simp only [Act.put, List.setIfInBounds_toArray, List.set_cons_zero, List.set_cons_succ, i64_w, i32_w]
               rfl
              refine pure_ (i := 17) (N := some 38) (v := ?_) (a' := ?_) #[true, true, true, true, true, true, true, true, true, true, true, true, true, true, true, true, true, true, false, false, false, false, false, false, false, false, false, false, false, false, false, false, false, false, false, false, false, false] rfl rfl (any_of HT_.out (by kernel_rfl)) (fun _ _ _ h => h) (Or.inl ⟨by rfl, ?_⟩) ?_ ?_
              rotate_left
              ·intro w'
               go_simp
               with_reducible rfl
              rotate_left
              ·simp only [Act.put, List.setIfInBounds_toArray, List.set_cons_zero, List.set_cons_succ, i64_w, i32_w]
               rfl
              refine pure_ (i := 18) (N := some 39) (v := ?_) (a' := ?_) #[true, true, true, true, true, true, true, true, true, true, true, true, true, true, true, true, true, true, true, false, false, false, false, false, false, false, false, false, false, false, false, false, false, false, false, false, false, false] rfl rfl (any_of HT_.out (by kernel_rfl)) (fun _ _ _ h => h) (Or.inl ⟨by rfl, ?_⟩) ?_ ?_
              rotate_left
              ·intro w'
               go_simp
               with_reducible rfl
              rotate_left
              ·simp only [Act.put, List.setIfInBounds_toArray, List.set_cons_zero, List.set_cons_succ, i64_w, i32_w]
               rfl
              refine pure_ (i := 19) (N := some 40) (v := ?_) (a' := ?_) #[true, true, true, true, true, true, true, true, true, true, true, true, true, true, true, true, true, true, true, true, false, false, false, false, false, false, false, false, false, false, false, false, false, false, false, false, false, false] rfl rfl (any_of HT_.out (by kernel_rfl)) (fun _ _ _ h => h) (Or.inl ⟨by rfl, ?_⟩) ?_ ?_
              rotate_left
              ·intro w'
               go_simp
               with_reducible rfl
              rotate_left
              ·simp only [Act.put, List.setIfInBounds_toArray, List.set_cons_zero, List.set_cons_succ, i64_w, i32_w]
               rfl
              refine pure_ (i := 20) (N := some 41) (v := ?_) (a' := ?_) #[true, true, true, true, true, true, true, true, true, true, true, true, true, true, true, true, true, true, true, true, true, false, false, false, false, false, false, false, false, false, false, false, false, false, false, false, false, false] rfl rfl (any_of HT_.out (by kernel_rfl)) (fun _ _ _ h => h) (Or.inl ⟨by rfl, ?_⟩) ?_ ?_
              rotate_left
              ·intro w'
               go_simp
               with_reducible rfl
              rotate_left
              ·simp only [Act.put, List.setIfInBounds_toArray, List.set_cons_zero, List.set_cons_succ, i64_w, i32_w]
               rfl
              refine pure_ (i := 21) (N := some 42) (v := ?_) (a' := ?_) #[true, true, true, true, true, true, true, true, true, true, true, true, true, true, true, true, true, true, true, true, true, true, false, false, false, false, false, false, false, false, false, false, false, false, false, false, false, false] rfl rfl (any_of HT_.out (by kernel_rfl)) (fun _ _ _ h => h) (Or.inl ⟨by rfl, ?_⟩) ?_ ?_
              rotate_left
              ·intro w'
               go_simp
               with_reducible rfl
              rotate_left
              ·simp only [Act.put, List.setIfInBounds_toArray, List.set_cons_zero, List.set_cons_succ, i64_w, i32_w]
               rfl
              refine pure_ (i := 22) (N := some 43) (v := ?_) (a' := ?_) #[true, true, true, true, true, true, true, true, true, true, true, true, true, true, true, true, true, true, true, true, true, true, true, false, false, false, false, false, false, false, false, false, false, false, false, false, false, false] rfl rfl (any_of HT_.out (by kernel_rfl)) (fun _ _ _ h => h) (Or.inl ⟨by rfl, ?_⟩) ?_ ?_
              rotate_left
              ·intro w'
               go_simp
               with_reducible rfl
              rotate_left
              ·simp only [Act.put, List.setIfInBounds_toArray, List.set_cons_zero, List.set_cons_succ, i64_w, i32_w]
               rfl
              refine pure_ (i := 24) (N := some 45) (v := ?_) (a' := ?_) #[true, true, true, true, true, true, true, true, true, true, true, true, true, true, true, true, true, true, true, true, true, true, true, false, true, false, false, false, false, false, false, false, false, false, false, false, false, false] rfl rfl (any_of HT_.out (by kernel_rfl)) (fun _ _ _ h => h) (Or.inl ⟨by rfl, ?_⟩) ?_ ?_
              rotate_left
              ·intro w'
               go_simp
               with_reducible rfl
              rotate_left
              ·simp only [Act.put, List.setIfInBounds_toArray, List.set_cons_zero, List.set_cons_succ, i64_w, i32_w]
               rfl
              refine pure_ (i := 25) (N := some 46) (v := ?_) (a' := ?_) #[true, true, true, true, true, true, true, true, true, true, true, true, true, true, true, true, true, true, true, true, true, true, true, false, true, true, false, false, false, false, false, false, false, false, false, false, false, false] rfl rfl (any_of HT_.out (by kernel_rfl)) (fun _ _ _ h => h) (Or.inl ⟨by rfl, ?_⟩) ?_ ?_
              rotate_left
              ·intro w'
               go_simp
               with_reducible rfl
              rotate_left
              ·simp only [Act.put, List.setIfInBounds_toArray, List.set_cons_zero, List.set_cons_succ, i64_w, i32_w]
               rfl
              refine pure_ (i := 29) (N := some 50) (v := ?_) (a' := ?_) #[true, true, true, true, true, true, true, true, true, true, true, true, true, true, true, true, true, true, true, true, true, true, true, false, true, true, false, false, false, true, false, false, false, false, false, false, false, false] rfl rfl (any_of HT_.out (by kernel_rfl)) (fun _ _ _ h => h) (Or.inl ⟨by rfl, ?_⟩) ?_ ?_
              rotate_left
              ·intro w'
               go_simp
               with_reducible rfl
              rotate_left
              ·simp only [Act.put, List.setIfInBounds_toArray, List.set_cons_zero, List.set_cons_succ, i64_w, i32_w]
               rfl
              refine pure_ (i := 31) (N := some 52) (v := ?_) (a' := ?_) #[true, true, true, true, true, true, true, true, true, true, true, true, true, true, true, true, true, true, true, true, true, true, true, false, true, true, false, false, false, true, false, true, false, false, false, false, false, false] rfl rfl (any_of HT_.out (by kernel_rfl)) (fun _ _ _ h => h) (Or.inl ⟨by rfl, ?_⟩) ?_ ?_
              rotate_left
              ·intro w'
               go_simp
               with_reducible rfl
              rotate_left
              ·simp only [Act.put, List.setIfInBounds_toArray, List.set_cons_zero, List.set_cons_succ, i64_w, i32_w]
               rfl
              refine take_ (i := 23) (N := some 44) (v := ?_) (a' := ?_) #[true, true, true, true, true, true, true, true, true, true, true, true, true, true, true, true, true, true, true, true, true, true, true, true, true, true, false, false, false, true, false, true, false, false, false, false, false, false] rfl rfl (take_ofW HT_.out HW_.out (by kernel_rfl)) (fun _ _ _ h => h) (Or.inl ⟨by rfl, ?_⟩) hHeld ?_ ?_
              rotate_left
              ·rintro w' ⟨s0, s1, s2, s3, s4, s5, s6, s7, s8, s9, s10, s11, s12, s13, s14, s15, s16, s17, s18, s19, s20, s21, s22, s23, s24, s25, s26, s27, s28, s29, s30, s31, s32, s33, s34, s35, s36, s37, s38, s39, s40, s41, s42, s43, s44, s45, s46, s47, s48, s49⟩
               go_simp
               with_reducible rfl
              rotate_left
              ·simp only [Act.put, List.setIfInBounds_toArray, List.set_cons_zero, List.set_cons_succ, i64_w, i32_w]
               rfl
              refine pure_ (i := 26) (N := some 47) (v := ?_) (a' := ?_) #[true, true, true, true, true, true, true, true, true, true, true, true, true, true, true, true, true, true, true, true, true, true, true, true, true, true, true, false, false, true, false, true, false, false, false, false, false, false] rfl rfl (any_of HT_.out (by kernel_rfl)) (fun _ _ _ h => h) (Or.inl ⟨by rfl, ?_⟩) ?_ ?_
              rotate_left
              ·intro w'
               go_simp
               with_reducible rfl
              rotate_left
              ·simp only [Act.put, List.setIfInBounds_toArray, List.set_cons_zero, List.set_cons_succ, i64_w, i32_w]
               rfl
              refine pure_ (i := 27) (N := some 48) (v := ?_) (a' := ?_) #[true, true, true, true, true, true, true, true, true, true, true, true, true, true, true, true, true, true, true, true, true, true, true, true, true, true, true, true, false, true, false, true, false, false, false, false, false, false] rfl rfl (any_of HT_.out (by kernel_rfl)) (fun _ _ _ h => h) (Or.inl ⟨by rfl, ?_⟩) ?_ ?_
              rotate_left
              ·intro w'
               go_simp
               with_reducible rfl
              rotate_left
              ·simp only [Act.put, List.setIfInBounds_toArray, List.set_cons_zero, List.set_cons_succ, i64_w, i32_w]
               rfl
              refine take_ (i := 28) (N := some 49) (v := ?_) (a' := ?_) #[true, true, true, true, true, true, true, true, true, true, true, true, true, true, true, true, true, true, true, true, true, true, true, true, true, true, true, true, true, true, false, true, false, false, false, false, false, false] rfl rfl (take_ofW HT_.out HW_.out (by kernel_rfl)) (fun _ _ _ h => h) (Or.inl ⟨by rfl, ?_⟩) hHeld ?_ ?_
              rotate_left
              ·rintro w' ⟨s0, s1, s2, s3, s4, s5, s6, s7, s8, s9, s10, s11, s12, s13, s14, s15, s16, s17, s18, s19, s20, s21, s22, s23, s24, s25, s26, s27, s28, s29, s30, s31, s32, s33, s34, s35, s36, s37, s38, s39, s40, s41, s42, s43, s44, s45, s46, s47, s48, s49⟩
               go_simp
               with_reducible rfl
              rotate_left
              ·simp only [Act.put, List.setIfInBounds_toArray, List.set_cons_zero, List.set_cons_succ, i64_w, i32_w]
               rfl
              refine take_ (i := 30) (N := some 51) (v := ?_) (a' := ?_) #[true, true, true, true, true, true, true, true, true, true, true, true, true, true, true, true, true, true, true, true, true, true, true, true, true, true, true, true, true, true, true, true, false, false, false, false, false, false] rfl rfl (take_ofW HT_.out HW_.out (by kernel_rfl)) (fun _ _ _ h => h) (Or.inl ⟨by rfl, ?_⟩) hHeld ?_ ?_
              rotate_left
              ·rintro w' ⟨s0, s1, s2, s3, s4, s5, s6, s7, s8, s9, s10, s11, s12, s13, s14, s15, s16, s17, s18, s19, s20, s21, s22, s23, s24, s25, s26, s27, s28, s29, s30, s31, s32, s33, s34, s35, s36, s37, s38, s39, s40, s41, s42, s43, s44, s45, s46, s47, s48, s49⟩
               go_simp
               with_reducible rfl
              rotate_left
              ·simp only [Act.put, List.setIfInBounds_toArray, List.set_cons_zero, List.set_cons_succ, i64_w, i32_w]
               rfl
              refine pure_ (i := 32) (N := some 53) (v := ?_) (a' := ?_) #[true, true, true, true, true, true, true, true, true, true, true, true, true, true, true, true, true, true, true, true, true, true, true, true, true, true, true, true, true, true, true, true, true, false, false, false, false, false] rfl rfl (any_of HT_.out (by kernel_rfl)) (fun _ _ _ h => h) (Or.inl ⟨by rfl, ?_⟩) ?_ ?_
              rotate_left
              ·intro w'
               go_simp
               with_reducible rfl
              rotate_left
              ·simp only [Act.put, List.setIfInBounds_toArray, List.set_cons_zero, List.set_cons_succ, i64_w, i32_w]
               rfl
              refine pure_ (i := 33) (N := some 54) (v := ?_) (a' := ?_) #[true, true, true, true, true, true, true, true, true, true, true, true, true, true, true, true, true, true, true, true, true, true, true, true, true, true, true, true, true, true, true, true, true, true, false, false, false, false] rfl rfl (any_of HT_.out (by kernel_rfl)) (fun _ _ _ h => h) (Or.inl ⟨by rfl, ?_⟩) ?_ ?_
              rotate_left
              ·intro w'
               go_simp
               with_reducible rfl
              rotate_left
              ·simp only [Act.put, List.setIfInBounds_toArray, List.set_cons_zero, List.set_cons_succ, i64_w, i32_w]
               rfl
              refine take_ (i := 34) (N := some 55) (v := ?_) (a' := ?_) #[true, true, true, true, true, true, true, true, true, true, true, true, true, true, true, true, true, true, true, true, true, true, true, true, true, true, true, true, true, true, true, true, true, true, true, false, false, false] rfl rfl (take_ofW HT_.out HW_.out (by kernel_rfl)) (fun _ _ _ h => h) (Or.inl ⟨by rfl, ?_⟩) hHeld ?_ ?_
              rotate_left
              ·rintro w' ⟨s0, s1, s2, s3, s4, s5, s6, s7, s8, s9, s10, s11, s12, s13, s14, s15, s16, s17, s18, s19, s20, s21, s22, s23, s24, s25, s26, s27, s28, s29, s30, s31, s32, s33, s34, s35, s36, s37, s38, s39, s40, s41, s42, s43, s44, s45, s46, s47, s48, s49⟩
               go_simp
               with_reducible rfl
              rotate_left
              ·simp only [Act.put, List.setIfInBounds_toArray, List.set_cons_zero, List.set_cons_succ, i64_w, i32_w]
               rfl
              refine pure_ (i := 35) (N := some 56) (v := ?_) (a' := ?_) #[true, true, true, true, true, true, true, true, true, true, true, true, true, true, true, true, true, true, true, true, true, true, true, true, true, true, true, true, true, true, true, true, true, true, true, true, false, false] rfl rfl (any_of HT_.out (by kernel_rfl)) (fun _ _ _ h => h) (Or.inl ⟨by rfl, ?_⟩) ?_ ?_
              rotate_left
              ·intro w'
               go_simp
               with_reducible rfl
              rotate_left
              ·simp only [Act.put, List.setIfInBounds_toArray, List.set_cons_zero, List.set_cons_succ, i64_w, i32_w]
               rfl
              refine pure_ (i := 36) (N := some 57) (v := ?_) (a' := ?_) #[true, true, true, true, true, true, true, true, true, true, true, true, true, true, true, true, true, true, true, true, true, true, true, true, true, true, true, true, true, true, true, true, true, true, true, true, true, false] rfl rfl (any_of HT_.out (by kernel_rfl)) (fun _ _ _ h => h) (Or.inl ⟨by rfl, ?_⟩) ?_ ?_
              rotate_left
              ·intro w'
               go_simp
               with_reducible rfl
              rotate_left
              ·simp only [Act.put, List.setIfInBounds_toArray, List.set_cons_zero, List.set_cons_succ, i64_w, i32_w]
               rfl
              refine pure_ (i := 37) (N := some 58) (v := ?_) (a' := ?_) #[true, true, true, true, true, true, true, true, true, true, true, true, true, true, true, true, true, true, true, true, true, true, true, true, true, true, true, true, true, true, true, true, true, true, true, true, true, true] rfl rfl (any_of HT_.out (by kernel_rfl)) (fun _ _ _ h => h) (Or.inl ⟨by rfl, ?_⟩) ?_ ?_
              rotate_left
              ·intro w'
               go_simp
               with_reducible rfl
              rotate_left
              ·simp only [Act.put, List.setIfInBounds_toArray, List.set_cons_zero, List.set_cons_succ, i64_w, i32_w]
               rfl
              refine done_ (done_of HT_.out (by kernel_rfl)) ?_
              try go_wp2
              go_roundg k2
              case measure => have := HJ1.out; have := HK2.out; omega
              case rel => exact ⟨(wrap64 (x3_2 + 1)), (by first | rfl | (simp; done) | (simp [*]; done)), H', ⟨by have := HJ1.out; have := HK2.out; omega⟩, ⟨pK BK643.out⟩, ⟨pS HB.out⟩⟩
            ·rw [if_neg c20] at H
             exact absurd H (by simp)
           ·rw [if_neg c19] at H
            exact absurd H (by simp)
          ·rw [if_neg c17] at H
           have c17b0 : decide (0 < x3_2) = false := decide_eq_false c17
           clear c17
           have H' := Aside0.mk H
           clear H
           have hcz28_0 : wr.cell? ⟨gb643, 0, none⟩ = some (.int .i64 a0_0) := (blk_cell BK643.out 0).trans rfl
           have hcz28_1 : wr.cell? ⟨gb643, 1, none⟩ = some (.slice A0_1 l0_1.length c0_1) := (blk_cell BK643.out 1).trans rfl
           have hfz28_0 := blk_frozen BK643.out 0
           have hfz28_1 := blk_frozen BK643.out 1
           try go_wp2
           have n0_ := Aside0.mk (blk_drew BK643.out)
           have n1_ := Aside0.mk (below_drew1 HB.out)
           clear BK643
           clear HB
           have BK643 := n0_
           have HB := n1_
           clear n0_ n1_
           have p645 : 0 ≤ (x3_2 : Int) := of_decide_eq_true bA
           have q645 : x3_2 < (l0_1.length : Int) := of_decide_eq_true bA
           obtain ⟨ad645, e645, hx645_0, hx645_1, hx645_2, hx645_3, hx645_4, hx645_5, hx645_6, hx645_7, hx645_8, hx645_9, hx645_10, hx645_11⟩ := at_T64 HR0_1.out x3_2 p645 q645
           have hw645_11 := hx645_11
           have hw645_10 := hx645_10
           have hw645_9 := hx645_9
           have hw645_8 := hx645_8
           have hw645_7 := hx645_7
           have hw645_6 := hx645_6
           have hw645_5 := hx645_5
           have hw645_4 := hx645_4
           have hw645_3 := hx645_3
           have hw645_2 := hx645_2
           have hw645_1 := hx645_1
           have hw645_0 := hx645_0
           cases e645
           replace hx645_0 := (HB.out.cell (World.block_lt_of_cell? w _ hx645_0)).trans hx645_0
           replace hx645_1 := (HB.out.cell (World.block_lt_of_cell? w _ hx645_1)).trans hx645_1
           replace hx645_2 := (HB.out.cell (World.block_lt_of_cell? w _ hx645_2)).trans hx645_2
           replace hx645_3 := (HB.out.cell (World.block_lt_of_cell? w _ hx645_3)).trans hx645_3
           replace hx645_4 := (HB.out.cell (World.block_lt_of_cell? w _ hx645_4)).trans hx645_4
           replace hx645_5 := (HB.out.cell (World.block_lt_of_cell? w _ hx645_5)).trans hx645_5
           replace hx645_6 := (HB.out.cell (World.block_lt_of_cell? w _ hx645_6)).trans hx645_6
           replace hx645_7 := (HB.out.cell (World.block_lt_of_cell? w _ hx645_7)).trans hx645_7
           replace hx645_8 := (HB.out.cell (World.block_lt_of_cell? w _ hx645_8)).trans hx645_8
           replace hx645_9 := (HB.out.cell (World.block_lt_of_cell? w _ hx645_9)).trans hx645_9
           replace hx645_10 := (HB.out.cell (World.block_lt_of_cell? w _ hx645_10)).trans hx645_10
           replace hx645_11 := (HB.out.cell (World.block_lt_of_cell? w _ hx645_11)).trans hx645_11
           replace p645 := eq_true p645
           replace q645 := eq_true q645
           have p647 : 0 ≤ (x3_2 : Int) := of_decide_eq_true bA
           have q647 : x3_2 < (l0_1.length : Int) := of_decide_eq_true bA
           obtain ⟨ad647, e647, hx647_0, hx647_1, hx647_2, hx647_3, hx647_4, hx647_5, hx647_6, hx647_7, hx647_8, hx647_9, hx647_10, hx647_11⟩ := at_T64 HR0_1.out x3_2 p647 q647
           have hw647_11 := hx647_11
           have hw647_10 := hx647_10
           have hw647_9 := hx647_9
           have hw647_8 := hx647_8
           have hw647_7 := hx647_7
           have hw647_6 := hx647_6
           have hw647_5 := hx647_5
           have hw647_4 := hx647_4
           have hw647_3 := hx647_3
           have hw647_2 := hx647_2
           have hw647_1 := hx647_1
           have hw647_0 := hx647_0
           obtain rfl : ad645 = ad647 := (by injection e647)
           replace hx647_0 := (HB.out.cell (World.block_lt_of_cell? w _ hx647_0)).trans hx647_0
           replace hx647_1 := (HB.out.cell (World.block_lt_of_cell? w _ hx647_1)).trans hx647_1
           replace hx647_2 := (HB.out.cell (World.block_lt_of_cell? w _ hx647_2)).trans hx647_2
           replace hx647_3 := (HB.out.cell (World.block_lt_of_cell? w _ hx647_3)).trans hx647_3
           replace hx647_4 := (HB.out.cell (World.block_lt_of_cell? w _ hx647_4)).trans hx647_4
           replace hx647_5 := (HB.out.cell (World.block_lt_of_cell? w _ hx647_5)).trans hx647_5
           replace hx647_6 := (HB.out.cell (World.block_lt_of_cell? w _ hx647_6)).trans hx647_6
           replace hx647_7 := (HB.out.cell (World.block_lt_of_cell? w _ hx647_7)).trans hx647_7
           replace hx647_8 := (HB.out.cell (World.block_lt_of_cell? w _ hx647_8)).trans hx647_8
           replace hx647_9 := (HB.out.cell (World.block_lt_of_cell? w _ hx647_9)).trans hx647_9
           replace hx647_10 := (HB.out.cell (World.block_lt_of_cell? w _ hx647_10)).trans hx647_10
           replace hx647_11 := (HB.out.cell (World.block_lt_of_cell? w _ hx647_11)).trans hx647_11
           replace p647 := eq_true p647
           replace q647 := eq_true q647
           refine start_ (n := 38) (S := fun w' => w'.cell? ⟨gb643, 0, none⟩ = some (.int .i64 a0_0) ∧ w'.cell? ⟨gb643, 1, none⟩ = some (.slice (some ad645) l0_1.length c0_1) ∧ w'.cell? (ad645.add ((x3_2).toNat * 12)) = some (.int .i64 ((rd_T64 l0_1 x3_2).f0)) ∧ w'.cell? ⟨(ad645.add ((x3_2).toNat * 12)).block, (ad645.add ((x3_2).toNat * 12)).off + 1, none⟩ = some (.int .i64 ((rd_T64 l0_1 x3_2).f1)) ∧ w'.cell? ⟨(ad645.add ((x3_2).toNat * 12)).block, (ad645.add ((x3_2).toNat * 12)).off + 2, none⟩ = some (.int .i64 ((rd_T64 l0_1 x3_2).f2.f0)) ∧ w'.cell? ⟨(ad645.add ((x3_2).toNat * 12)).block, (ad645.add ((x3_2).toNat * 12)).off + 3, none⟩ = some (.int .i64 ((rd_T64 l0_1 x3_2).f2.f1)) ∧ w'.cell? ⟨(ad645.add ((x3_2).toNat * 12)).block, (ad645.add ((x3_2).toNat * 12)).off + 4, none⟩ = some (.int .i64 ((rd_T64 l0_1 x3_2).f2.f2)) ∧ w'.cell? ⟨(ad645.add ((x3_2).toNat * 12)).block, (ad645.add ((x3_2).toNat * 12)).off + 5, none⟩ = some (.int .i64 ((rd_T64 l0_1 x3_2).f2.f3)) ∧ w'.cell? ⟨(ad645.add ((x3_2).toNat * 12)).block, (ad645.add ((x3_2).toNat * 12)).off + 6, none⟩ = some (.int .i64 ((rd_T64 l0_1 x3_2).f2.f4)) ∧ w'.cell? ⟨(ad645.add ((x3_2).toNat * 12)).block, (ad645.add ((x3_2).toNat * 12)).off + 7, none⟩ = some (.int .i64 ((rd_T64 l0_1 x3_2).f2.f5)) ∧ w'.cell? ⟨(ad645.add ((x3_2).toNat * 12)).block, (ad645.add ((x3_2).toNat * 12)).off + 8, none⟩ = some (.int .i64 ((rd_T64 l0_1 x3_2).f2.f6)) ∧ w'.cell? ⟨(ad645.add ((x3_2).toNat * 12)).block, (ad645.add ((x3_2).toNat * 12)).off + 9, none⟩ = some (.int .i64 ((rd_T64 l0_1 x3_2).f2.f7)) ∧ w'.cell? ⟨(ad645.add ((x3_2).toNat * 12)).block, (ad645.add ((x3_2).toNat * 12)).off + 10, none⟩ = some (.int .i64 ((rd_T64 l0_1 x3_2).f2.f8)) ∧ w'.cell? ⟨(ad645.add ((x3_2).toNat * 12)).block, (ad645.add ((x3_2).toNat * 12)).off + 11, none⟩ = some (.int .i64 ((rd_T64 l0_1 x3_2).f2.f9)) ∧ w'.cell? (ad645.add ((x3_2).toNat * 12)) = some (.int .i64 ((rd_T64 l0_1 x3_2).f0)) ∧ w'.cell? ⟨(ad645.add ((x3_2).toNat * 12)).block, (ad645.add ((x3_2).toNat * 12)).off + 1, none⟩ = some (.int .i64 ((rd_T64 l0_1 x3_2).f1)) ∧ w'.cell? ⟨(ad645.add ((x3_2).toNat * 12)).block, (ad645.add ((x3_2).toNat * 12)).off + 2, none⟩ = some (.int .i64 ((rd_T64 l0_1 x3_2).f2.f0)) ∧ w'.cell? ⟨(ad645.add ((x3_2).toNat * 12)).block, (ad645.add ((x3_2).toNat * 12)).off + 3, none⟩ = some (.int .i64 ((rd_T64 l0_1 x3_2).f2.f1)) ∧ w'.cell? ⟨(ad645.add ((x3_2).toNat * 12)).block, (ad645.add ((x3_2).toNat * 12)).off + 4, none⟩ = some (.int .i64 ((rd_T64 l0_1 x3_2).f2.f2)) ∧ w'.cell? ⟨(ad645.add ((x3_2).toNat * 12)).block, (ad645.add ((x3_2).toNat * 12)).off + 5, none⟩ = some (.int .i64 ((rd_T64 l0_1 x3_2).f2.f3)) ∧ w'.cell? ⟨(ad645.add ((x3_2).toNat * 12)).block, (ad645.add ((x3_2).toNat * 12)).off + 6, none⟩ = some (.int .i64 ((rd_T64 l0_1 x3_2).f2.f4)) ∧ w'.cell? ⟨(ad645.add ((x3_2).toNat * 12)).block, (ad645.add ((x3_2).toNat * 12)).off + 7, none⟩ = some (.int .i64 ((rd_T64 l0_1 x3_2).f2.f5)) ∧ w'.cell? ⟨(ad645.add ((x3_2).toNat * 12)).block, (ad645.add ((x3_2).toNat * 12)).off + 8, none⟩ = some (.int .i64 ((rd_T64 l0_1 x3_2).f2.f6)) ∧ w'.cell? ⟨(ad645.add ((x3_2).toNat * 12)).block, (ad645.add ((x3_2).toNat * 12)).off + 9, none⟩ = some (.int .i64 ((rd_T64 l0_1 x3_2).f2.f7)) ∧ w'.cell? ⟨(ad645.add ((x3_2).toNat * 12)).block, (ad645.add ((x3_2).toNat * 12)).off + 10, none⟩ = some (.int .i64 ((rd_T64 l0_1 x3_2).f2.f8)) ∧ w'.cell? ⟨(ad645.add ((x3_2).toNat * 12)).block, (ad645.add ((x3_2).toNat * 12)).off + 11, none⟩ = some (.int .i64 ((rd_T64 l0_1 x3_2).f2.f9))) (ds := []) #[false, false, false, false, false, false, false, false, false, false, false, false, false, false, false, false, false, false, false, false, false, false, false, false, false, false, false, false, false, false, false, false, false, false, false, false, false, false] (by kernel_rfl) rfl rfl ⟨(blk_cell BK643.out 0).trans rfl, (blk_cell BK643.out 1).trans rfl, ((HB.out.cell (World.block_lt_of_cell? w _ hw645_0)).trans hw645_0), ((HB.out.cell (World.block_lt_of_cell? w _ hw645_1)).trans hw645_1), ((HB.out.cell (World.block_lt_of_cell? w _ hw645_2)).trans hw645_2), ((HB.out.cell (World.block_lt_of_cell? w _ hw645_3)).trans hw645_3), ((HB.out.cell (World.block_lt_of_cell? w _ hw645_4)).trans hw645_4), ((HB.out.cell (World.block_lt_of_cell? w _ hw645_5)).trans hw645_5), ((HB.out.cell (World.block_lt_of_cell? w _ hw645_6)).trans hw645_6), ((HB.out.cell (World.block_lt_of_cell? w _ hw645_7)).trans hw645_7), ((HB.out.cell (World.block_lt_of_cell? w _ hw645_8)).trans hw645_8), ((HB.out.cell (World.block_lt_of_cell? w _ hw645_9)).trans hw645_9), ((HB.out.cell (World.block_lt_of_cell? w _ hw645_10)).trans hw645_10), ((HB.out.cell (World.block_lt_of_cell? w _ hw645_11)).trans hw645_11), ((HB.out.cell (World.block_lt_of_cell? w _ hw647_0)).trans hw647_0), ((HB.out.cell (World.block_lt_of_cell? w _ hw647_1)).trans hw647_1), ((HB.out.cell (World.block_lt_of_cell? w _ hw647_2)).trans hw647_2), ((HB.out.cell (World.block_lt_of_cell? w _ hw647_3)).trans hw647_3), ((HB.out.cell (World.block_lt_of_cell? w _ hw647_4)).trans hw647_4), ((HB.out.cell (World.block_lt_of_cell? w _ hw647_5)).trans hw647_5), ((HB.out.cell (World.block_lt_of_cell? w _ hw647_6)).trans hw647_6), ((HB.out.cell (World.block_lt_of_cell? w _ hw647_7)).trans hw647_7), ((HB.out.cell (World.block_lt_of_cell? w _ hw647_8)).trans hw647_8), ((HB.out.cell (World.block_lt_of_cell? w _ hw647_9)).trans hw647_9), ((HB.out.cell (World.block_lt_of_cell? w _ hw647_10)).trans hw647_10), ((HB.out.cell (World.block_lt_of_cell? w _ hw647_11)).trans hw647_11)⟩ (fun hHeld => ?_); refine with_tabW spec_SynVoterOk.tab6 spec_SynVoterOk.bits6 (fun HT_ HW_ => ?_)
           generalize wr.drew = w29 at BK643 HB hx645_0 hx645_1 hx645_10 hx645_11 hx645_2 hx645_3 hx645_4 hx645_5 hx645_6 hx645_7 hx645_8 hx645_9 hx647_0 hx647_1 hx647_10 hx647_11 hx647_2 hx647_3 hx647_4 hx647_5 hx647_6 hx647_7 hx647_8 hx647_9 hHeld ⊢
           refine pure_ (i := 0) (N := some 21) (v := ?_) (a' := ?_) #[true, false, false, false, false, false, false, false, false, false, false, false, false, false, false, false, false, false, false, false, false, false, false, false, false, false, false, false, false, false, false, false, false, false, false, false, false, false] rfl rfl (any_of HT_.out (by kernel_rfl)) (fun _ _ _ h => h) (Or.inl ⟨by rfl, ?_⟩) ?_ ?_
           rotate_left
           ·intro w'
            go_simp
            with_reducible rfl
           rotate_left
           ·simp only [Act.put, List.setIfInBounds_toArray, List.set_cons_zero, List.set_cons_succ, i64_w, i32_w]
            rfl
           refine pure_ (i := 2) (N := some 23) (v := ?_) (a' := ?_) #[true, false, true, false, false, false, false, false, false, false, false, false, false, false, false, false, false, false, false, false, false, false, false, false, false, false, false, false, false, false, false, false, false, false, false, false, false, false] rfl rfl (any_of HT_.out (by kernel_rfl)) (fun _ _ _ h => h) (Or.inl ⟨by rfl, ?_⟩) ?_ ?_
           rotate_left
           ·intro w'
            go_simp
            with_reducible rfl
           rotate_left
           ·simp only [Act.put, List.setIfInBounds_toArray, List.set_cons_zero, List.set_cons_succ, i64_w, i32_w]
            rfl
           refine take_ (i := 1) (N := some 22) (v := ?_) (a' := ?_) #[true, true, true, false, false, false, false, false, false, false, false, false, false, false, false, false, false, false, false, false, false, false, false, false, false, false, false, false, false, false, false, false, false, false, false, false, false, false] rfl rfl (take_ofW HT_.out HW_.out (by kernel_rfl)) (fun _ _ _ h => h) (Or.inl ⟨by rfl, ?_⟩) hHeld ?_ ?_
           rotate_left
           ·rintro w' ⟨s0, s1, s2, s3, s4, s5, s6, s7, s8, s9, s10, s11, s12, s13, s14, s15, s16, s17, s18, s19, s20, s21, s22, s23, s24, s25⟩
            go_simp
            with_reducible rfl
           rotate_left
           ·simp only [Act.put, List.setIfInBounds_toArray, List.set_cons_zero, List.set_cons_succ, i64_w, i32_w]
            rfl
           refine pure_ (i := 3) (N := some 24) (v := ?_) (a' := ?_) #[true, true, true, true, false, false, false, false, false, false, false, false, false, false, false, false, false, false, false, false, false, false, false, false, false, false, false, false, false, false, false, false, false, false, false, false, false, false] rfl rfl (any_of HT_.out (by kernel_rfl)) (fun _ _ _ h => h) (Or.inl ⟨by rfl, ?_⟩) ?_ ?_
           rotate_left
           ·intro w'
            go_simp
            with_reducible rfl
           rotate_left
           ·simp only [Act.put, List.setIfInBounds_toArray, List.set_cons_zero, List.set_cons_succ, i64_w, i32_w]
            rfl
           refine take_ (i := 4) (N := some 25) (v := ?_) (a' := ?_) #[true, true, true, true, true, false, false, false, false, false, false, false, false, false, false, false, false, false, false, false, false, false, false, false, false, false, false, false, false, false, false, false, false, false, false, false, false, false] rfl rfl (take_ofW HT_.out HW_.out (by kernel_rfl)) (fun _ _ _ h => h) (Or.inl ⟨by rfl, ?_⟩) hHeld ?_ ?_
           rotate_left
           ·rintro w' ⟨s0, s1, s2, s3, s4, s5, s6, s7, s8, s9, s10, s11, s12, s13, s14, s15, s16, s17, s18, s19, s20, s21, s22, s23, s24, s25⟩
            go_simp
            with_reducible rfl
           rotate_left
           ·simp only [Act.put, List.setIfInBounds_toArray, List.set_cons_zero, List.set_cons_succ, i64_w, i32_w]
            rfl
           refine one_ (i := 5) (N := some 26) #[true, true, true, true, true, true, false, false, false, false, false, false, false, false, false, false, false, false, false, false, false, false, false, false, false, false, false, false, false, false, false, false, false, false, false, false, false, false] rfl rfl (one_of HT_.out (by kernel_rfl)) (by decide) (fun K hK => ?_)
           refine goes_ Try.func86 (by kernel_rfl) rfl #[.agg #[.int .i64 ((rd_T64 l0_1 x3_2).f0), .int .i64 ((rd_T64 l0_1 x3_2).f1), .int .i64 ((rd_T64 l0_1 x3_2).f2.f0), .int .i64 ((rd_T64 l0_1 x3_2).f2.f1), .int .i64 ((rd_T64 l0_1 x3_2).f2.f2), .int .i64 ((rd_T64 l0_1 x3_2).f2.f3), .int .i64 ((rd_T64 l0_1 x3_2).f2.f4), .int .i64 ((rd_T64 l0_1 x3_2).f2.f5), .int .i64 ((rd_T64 l0_1 x3_2).f2.f6), .int .i64 ((rd_T64 l0_1 x3_2).f2.f7), .int .i64 ((rd_T64 l0_1 x3_2).f2.f8), .int .i64 ((rd_T64 l0_1 x3_2).f2.f9)]] (by rfl) rfl rfl bM ?_
           with_reducible refine (spec_l21PaperOk.calls ((rd_T64 l0_1 x3_2).f0) ((rd_T64 l0_1 x3_2).f1) ((rd_T64 l0_1 x3_2).f2.f0) ((rd_T64 l0_1 x3_2).f2.f1) ((rd_T64 l0_1 x3_2).f2.f2) ((rd_T64 l0_1 x3_2).f2.f3) ((rd_T64 l0_1 x3_2).f2.f4) ((rd_T64 l0_1 x3_2).f2.f5) ((rd_T64 l0_1 x3_2).f2.f6) ((rd_T64 l0_1 x3_2).f2.f7) ((rd_T64 l0_1 x3_2).f2.f8) ((rd_T64 l0_1 x3_2).f2.f9) true _ A11.out).mono ?_
           rintro e w30 ⟨rfl, hb⟩
           refine ⟨_, rfl, ?_⟩
           have n0_ := Aside0.mk (blk_below (pK BK643.out) hb)
           have n1_ := Aside0.mk (below_step (pS HB.out) hb)
           clear BK643
           clear HB
           have BK643 := n0_
           have HB := n1_
           clear n0_ n1_
           (try clear hb)
           (try clear hb2)
           (try clear hk)
           (try clear hi)
           refine hK.out _ _ ⟨(blk_cell BK643.out 0).trans rfl, (blk_cell BK643.out 1).trans rfl, ((HB.out.cell (World.block_lt_of_cell? w _ hw645_0)).trans hw645_0), ((HB.out.cell (World.block_lt_of_cell? w _ hw645_1)).trans hw645_1), ((HB.out.cell (World.block_lt_of_cell? w _ hw645_2)).trans hw645_2), ((HB.out.cell (World.block_lt_of_cell? w _ hw645_3)).trans hw645_3), ((HB.out.cell (World.block_lt_of_cell? w _ hw645_4)).trans hw645_4), ((HB.out.cell (World.block_lt_of_cell? w _ hw645_5)).trans hw645_5), ((HB.out.cell (World.block_lt_of_cell? w _ hw645_6)).trans hw645_6), ((HB.out.cell (World.block_lt_of_cell? w _ hw645_7)).trans hw645_7), ((HB.out.cell (World.block_lt_of_cell? w _ hw645_8)).trans hw645_8), ((HB.out.cell (World.block_lt_of_cell? w _ hw645_9)).trans hw645_9), ((HB.out.cell (World.block_lt_of_cell? w _ hw645_10)).trans hw645_10), ((HB.out.cell (World.block_lt_of_cell? w _ hw645_11)).trans hw645_11), ((HB.out.cell (World.block_lt_of_cell? w _ hw647_0)).trans hw647_0), ((HB.out.cell (World.block_lt_of_cell? w _ hw647_1)).trans hw647_1), ((HB.out.cell (World.block_lt_of_cell? w _ hw647_2)).trans hw647_2), ((HB.out.cell (World.block_lt_of_cell? w _ hw647_3)).trans hw647_3), ((HB.out.cell (World.block_lt_of_cell? w _ hw647_4)).trans hw647_4), ((HB.out.cell (World.block_lt_of_cell? w _ hw647_5)).trans hw647_5), ((HB.out.cell (World.block_lt_of_cell? w _ hw647_6)).trans hw647_6), ((HB.out.cell (World.block_lt_of_cell? w _ hw647_7)).trans hw647_7), ((HB.out.cell (World.block_lt_of_cell? w _ hw647_8)).trans hw647_8), ((HB.out.cell (World.block_lt_of_cell? w _ hw647_9)).trans hw647_9), ((HB.out.cell (World.block_lt_of_cell? w _ hw647_10)).trans hw647_10), ((HB.out.cell (World.block_lt_of_cell? w _ hw647_11)).trans hw647_11)⟩ (fun hHeld => ?_)
           clear hK K
           refine norm_ (a' := ?_) ?_ ?_
           rotate_left
           ·show Act.put _ (some 26) _ = _
            simp only [Act.put, List.setIfInBounds_toArray, List.set_cons_zero, List.set_cons_succ, i64_w, i32_w]
            rfl
           refine pure_ (i := 6) (N := some 27) (v := ?_) (a' := ?_) #[true, true, true, true, true, true, true, false, false, false, false, false, false, false, false, false, false, false, false, false, false, false, false, false, false, false, false, false, false, false, false, false, false, false, false, false, false, false] rfl rfl (any_of HT_.out (by kernel_rfl)) (fun _ _ _ h => h) (Or.inl ⟨by rfl, ?_⟩) ?_ ?_
           rotate_left
           ·intro w'
            go_simp
            with_reducible rfl
           rotate_left
           ·simp only [Act.put, List.setIfInBounds_toArray, List.set_cons_zero, List.set_cons_succ, i64_w, i32_w]
            rfl
           refine pure_ (i := 7) (N := some 28) (v := ?_) (a' := ?_) #[true, true, true, true, true, true, true, true, false, false, false, false, false, false, false, false, false, false, false, false, false, false, false, false, false, false, false, false, false, false, false, false, false, false, false, false, false, false] rfl rfl (any_of HT_.out (by kernel_rfl)) (fun _ _ _ h => h) (Or.inl ⟨by rfl, ?_⟩) ?_ ?_
           rotate_left
           ·intro w'
            go_simp
            with_reducible rfl
           rotate_left
           ·simp only [Act.put, List.setIfInBounds_toArray, List.set_cons_zero, List.set_cons_succ, i64_w, i32_w]
            rfl
           refine pure_ (i := 8) (N := some 29) (v := ?_) (a' := ?_) #[true, true, true, true, true, true, true, true, true, false, false, false, false, false, false, false, false, false, false, false, false, false, false, false, false, false, false, false, false, false, false, false, false, false, false, false, false, false] rfl rfl (any_of HT_.out (by kernel_rfl)) (fun _ _ _ h => h) (Or.inl ⟨by rfl, ?_⟩) ?_ ?_
           rotate_left
           ·intro w'
            go_simp
            with_reducible rfl
           rotate_left
           ·simp only [Act.put, List.setIfInBounds_toArray, List.set_cons_zero, List.set_cons_succ, i64_w, i32_w]
            rfl
           refine pure_ (i := 10) (N := some 31) (v := ?_) (a' := ?_) #[true, true, true, true, true, true, true, true, true, false, true, false, false, false, false, false, false, false, false, false, false, false, false, false, false, false, false, false, false, false, false, false, false, false, false, false, false, false] rfl rfl (any_of HT_.out (by kernel_rfl)) (fun _ _ _ h => h) (Or.inl ⟨by rfl, ?_⟩) ?_ ?_
           rotate_left
           ·intro w'
            go_simp
            with_reducible rfl
           rotate_left
           ·simp only [Act.put, List.setIfInBounds_toArray, List.set_cons_zero, List.set_cons_succ, i64_w, i32_w]
            rfl
           refine pure_ (i := 14) (N := some 35) (v := ?_) (a' := ?_) #[true, true, true, true, true, true, true, true, true, false, true, false, false, false, true, false, false, false, false, false, false, false, false, false, false, false, false, false, false, false, false, false, false, false, false, false, false, false] rfl rfl (any_of HT_.out (by kernel_rfl)) (fun _ _ _ h => h) (Or.inl ⟨by rfl, ?_⟩) ?_ ?_
           rotate_left
           ·intro w'
            go_simp
            with_reducible rfl
           rotate_left
           ·simp only [Act.put, List.setIfInBounds_toArray, List.set_cons_zero, List.set_cons_succ, i64_w, i32_w]
            rfl
           refine take_ (i := 9) (N := some 30) (v := ?_) (a' := ?_) #[true, true, true, true, true, true, true, true, true, true, true, false, false, false, true, false, false, false, false, false, false, false, false, false, false, false, false, false, false, false, false, false, false, false, false, false, false, false] rfl rfl (take_ofW HT_.out HW_.out (by kernel_rfl)) (fun _ _ _ h => h) (Or.inl ⟨by rfl, ?_⟩) hHeld ?_ ?_
           rotate_left
           ·rintro w' ⟨s0, s1, s2, s3, s4, s5, s6, s7, s8, s9, s10, s11, s12, s13, s14, s15, s16, s17, s18, s19, s20, s21, s22, s23, s24, s25⟩
            go_simp
            with_reducible rfl
           rotate_left
           ·simp only [Act.put, List.setIfInBounds_toArray, List.set_cons_zero, List.set_cons_succ, i64_w, i32_w]
            rfl
           refine pure_ (i := 11) (N := some 32) (v := ?_) (a' := ?_) #[true, true, true, true, true, true, true, true, true, true, true, true, false, false, true, false, false, false, false, false, false, false, false, false, false, false, false, false, false, false, false, false, false, false, false, false, false, false] rfl rfl (any_of HT_.out (by kernel_rfl)) (fun _ _ _ h => h) (Or.inl ⟨by rfl, ?_⟩) ?_ ?_
           rotate_left
           ·intro w'
            go_simp
            with_reducible rfl
           rotate_left
           ·simp only [Act.put, List.setIfInBounds_toArray, List.set_cons_zero, List.set_cons_succ, i64_w, i32_w]
            rfl
           refine pure_ (i := 12) (N := some 33) (v := ?_) (a' := ?_) #[true, true, true, true, true, true, true, true, true, true, true, true, true, false, true, false, false, false, false, false, false, false, false, false, false, false, false, false, false, false, false, false, false, false, false, false, false, false] rfl rfl (any_of HT_.out (by kernel_rfl)) (fun _ _ _ h => h) (Or.inl ⟨by rfl, ?_⟩) ?_ ?_
           rotate_left
           ·intro w'
            go_simp
            with_reducible rfl
           rotate_left
           ·simp only [Act.put, List.setIfInBounds_toArray, List.set_cons_zero, List.set_cons_succ, i64_w, i32_w]
            rfl
           refine take_ (i := 13) (N := some 34) (v := ?_) (a' := ?_) #[true, true, true, true, true, true, true, true, true, true, true, true, true, true, true, false, false, false, false, false, false, false, false, false, false, false, false, false, false, false, false, false, false, false, false, false, false, false] rfl rfl (take_ofW HT_.out HW_.out (by kernel_rfl)) (fun _ _ _ h => h) (Or.inl ⟨by rfl, ?_⟩) hHeld ?_ ?_
           rotate_left
           ·rintro w' ⟨s0, s1, s2, s3, s4, s5, s6, s7, s8, s9, s10, s11, s12, s13, s14, s15, s16, s17, s18, s19, s20, s21, s22, s23, s24, s25⟩
            go_simp
            with_reducible rfl
           rotate_left
           ·simp only [Act.put, List.setIfInBounds_toArray, List.set_cons_zero, List.set_cons_succ, i64_w, i32_w]
            rfl
           refine take_ (i := 15) (N := some 36) (v := ?_) (a' := ?_) #[true, true, true, true, true, true, true, true, true, true, true, true, true, true, true, true, false, false, false, false, false, false, false, false, false, false, false, false, false, false, false, false, false, false, false, false, false, false] rfl rfl (take_ofW HT_.out HW_.out (by kernel_rfl)) (fun _ _ _ h => h) (Or.inl ⟨by rfl, ?_⟩) hHeld ?_ ?_
           rotate_left
           ·rintro w' ⟨s0, s1, s2, s3, s4, s5, s6, s7, s8, s9, s10, s11, s12, s13, s14, s15, s16, s17, s18, s19, s20, s21, s22, s23, s24, s25⟩
            go_simp
            with_reducible rfl
           rotate_left
           ·simp only [Act.put, List.setIfInBounds_toArray, List.set_cons_zero, List.set_cons_succ, i64_w, i32_w]
            rfl
           refine pure_ (i := 16) (N := some 37) (v := ?_) (a' := ?_) #[true, true, true, true, true, true, true, true, true, true, true, true, true, true, true, true, true, false, false, false, false, false, false, false, false, false, false, false, false, false, false, false, false, false, false, false, false, false] rfl rfl (any_of HT_.out (by kernel_rfl)) (fun _ _ _ h => h) (Or.inl ⟨by rfl, ?_⟩) ?_ ?_
           rotate_left
           ·intro w'
            go_simp
            with_reducible rfl
           rotate_left
           ·simp only [Act.put, List.setIfInBounds_toArray, List.set_cons_zero, List.set_cons_succ, i64_w, i32_w]
            rfl
           refine pure_ (i := 17) (N := some 38) (v := ?_) (a' := ?_) #[true, true, true, true, true, true, true, true, true, true, true, true, true, true, true, true, true, true, false, false, false, false, false, false, false, false, false, false, false, false, false, false, false, false, false, false, false, false] rfl rfl (any_of HT_.out (by kernel_rfl)) (fun _ _ _ h => h) (Or.inl ⟨by rfl, ?_⟩) ?_ ?_
           rotate_left
           ·intro w'
            go_simp
            with_reducible rfl
           rotate_left
           ·simp only [Act.put, List.setIfInBounds_toArray, List.set_cons_zero, List.set_cons_succ, i64_w, i32_w]
            rfl
           refine pure_ (i := 18) (N := some 39) (v := ?_) (a' := ?_) #[true, true, true, true, true, true, true, true, true, true, true, true, true, true, true, true, true, true, true, false, false, false, false, false, false, false, false, false, false, false, false, false, false, false, false, false, false, false] rfl rfl (any_of HT_.out (by kernel_rfl)) (fun _ _ _ h => h) (Or.inl ⟨by rfl, ?_⟩) ?_ ?_
           rotate_left
           ·intro w'
            go_simp
            with_reducible rfl
           rotate_left
           ·simp only [Act.put, List.setIfInBounds_toArray, List.set_cons_zero, List.set_cons_succ, i64_w, i32_w]
            rfl
           refine pure_ (i := 19) (N := some 40) (v := ?_) (a' := ?_) #[true, true, true, true, true, true, true, true, true, true, true, true, true, true, true, true, true, true, true, true, false, false, false, false, false, false, false, false, false, false, false, false, false, false, false, false, false, false] rfl rfl (any_of HT_.out (by kernel_rfl)) (fun _ _ _ h => h) (Or.inl ⟨by rfl, ?_⟩) ?_ ?_
           rotate_left
           ·intro w'
            go_simp
            with_reducible rfl
           rotate_left
           ·simp only [Act.put, List.setIfInBounds_toArray, List.set_cons_zero, List.set_cons_succ, i64_w, i32_w]
            rfl
           refine pure_ (i := 20) (N := some 41) (v := ?_) (a' := ?_) #[true, true, true, true, true, true, true, true, true, true, true, true, true, true, true, true, true, true, true, true, true, false, false, false, false, false, false, false, false, false, false, false, false, false, false, false, false, false] rfl rfl (any_of HT_.out (by kernel_rfl)) (fun _ _ _ h => h) (Or.inl ⟨by rfl, ?_⟩) ?_ ?_
           rotate_left
           ·intro w'
            go_simp
            with_reducible rfl
           rotate_left
           ·simp only [Act.put, List.setIfInBounds_toArray, List.set_cons_zero, List.set_cons_succ, i64_w, i32_w]
            rfl
           refine pure_ (i := 21) (N := some 42) (v := ?_) (a' := ?_) #[true, true, true, true, true, true, true, true, true, true, true, true, true, true, true, true, true, true, true, true, true, true, false, false, false, false, false, false, false, false, false, false, false, false, false, false, false, false] rfl rfl (any_of HT_.out (by kernel_rfl)) (fun _ _ _ h => h) (Or.inl ⟨by rfl, ?_⟩) ?_ ?_
           rotate_left
           ·intro w'
            go_simp
            with_reducible rfl
           rotate_left
           ·simp only [Act.put, List.setIfInBounds_toArray, List.set_cons_zero, List.set_cons_succ, i64_w, i32_w]
            rfl
           refine pure_ (i := 22) (N := some 43) (v := undef) (a' := ?_) #[true, true, true, true, true, true, true, true, true, true, true, true, true, true, true, true, true, true, true, true, true, true, true, false, false, false, false, false, false, false, false, false, false, false, false, false, false, false] rfl rfl (any_of HT_.out (by kernel_rfl)) (fun _ _ _ h => h) (Or.inr ⟨by rfl, rfl⟩) ?_ ?_
           rotate_left
           ·simp only [Act.put, List.setIfInBounds_toArray, List.set_cons_zero, List.set_cons_succ, i64_w, i32_w]
            rfl
           refine pure_ (i := 23) (N := some 44) (v := undef) (a' := ?_) #[true, true, true, true, true, true, true, true, true, true, true, true, true, true, true, true, true, true, true, true, true, true, true, true, false, false, false, false, false, false, false, false, false, false, false, false, false, false] rfl rfl (any_of HT_.out (by kernel_rfl)) (fun _ _ _ h => h) (Or.inr ⟨by rfl, rfl⟩) ?_ ?_
           rotate_left
           ·simp only [Act.put, List.setIfInBounds_toArray, List.set_cons_zero, List.set_cons_succ, i64_w, i32_w]
            rfl
           refine pure_ (i := 24) (N := some 45) (v := undef) (a' := ?_) #[true, true, true, true, true, true, true, true, true, true, true, true, true, true, true, true, true, true, true, true, true, true, true, true, true, false, false, false, false, false, false, false, false, false, false, false, false, false] rfl rfl (any_of HT_.out (by kernel_rfl)) (fun _ _ _ h => h) (Or.inr ⟨by rfl, rfl⟩) ?_ ?_
           rotate_left
           ·simp only [Act.put, List.setIfInBounds_toArray, List.set_cons_zero, List.set_cons_succ, i64_w, i32_w]
            rfl
           refine pure_ (i := 25) (N := some 46) (v := undef) (a' := ?_) #[true, true, true, true, true, true, true, true, true, true, true, true, true, true, true, true, true, true, true, true, true, true, true, true, true, true, false, false, false, false, false, false, false, false, false, false, false, false] rfl rfl (any_of HT_.out (by kernel_rfl)) (fun _ _ _ h => h) (Or.inr ⟨by rfl, rfl⟩) ?_ ?_
           rotate_left
           ·simp only [Act.put, List.setIfInBounds_toArray, List.set_cons_zero, List.set_cons_succ, i64_w, i32_w]
            rfl
           refine pure_ (i := 26) (N := some 47) (v := undef) (a' := ?_) #[true, true, true, true, true, true, true, true, true, true, true, true, true, true, true, true, true, true, true, true, true, true, true, true, true, true, true, false, false, false, false, false, false, false, false, false, false, false] rfl rfl (any_of HT_.out (by kernel_rfl)) (fun _ _ _ h => h) (Or.inr ⟨by rfl, rfl⟩) ?_ ?_
           rotate_left
           ·simp only [Act.put, List.setIfInBounds_toArray, List.set_cons_zero, List.set_cons_succ, i64_w, i32_w]
            rfl
           refine pure_ (i := 27) (N := some 48) (v := undef) (a' := ?_) #[true, true, true, true, true, true, true, true, true, true, true, true, true, true, true, true, true, true, true, true, true, true, true, true, true, true, true, true, false, false, false, false, false, false, false, false, false, false] rfl rfl (any_of HT_.out (by kernel_rfl)) (fun _ _ _ h => h) (Or.inr ⟨by rfl, rfl⟩) ?_ ?_
           rotate_left
           ·simp only [Act.put, List.setIfInBounds_toArray, List.set_cons_zero, List.set_cons_succ, i64_w, i32_w]
            rfl
           refine pure_ (i := 28) (N := some 49) (v := undef) (a' := ?_) #[true, true, true, true, true, true, true, true, true, true, true, true, true, true, true, true, true, true, true, true, true, true, true, true, true, true, true, true, true, false, false, false, false, false, false, false, false, false] rfl rfl (any_of HT_.out (by kernel_rfl)) (fun _ _ _ h => h) (Or.inr ⟨by rfl, rfl⟩) ?_ ?_
           rotate_left
           ·simp only [Act.put, List.setIfInBounds_toArray, List.set_cons_zero, List.set_cons_succ, i64_w, i32_w]
            rfl
           refine pure_ (i := 29) (N := some 50) (v := undef) (a' := ?_) #[true, true, true, true, true, true, true, true, true, true, true, true, true, true, true, true, true, true, true, true, true, true, true, true, true, true, true, true, true, true, false, false, false, false, false, false, false, false] rfl rfl (any_of HT_.out (by kernel_rfl)) (fun _ _ _ h => h) (Or.inr ⟨by rfl, rfl⟩) ?_ ?_
           rotate_left
           ·simp only [Act.put, List.setIfInBounds_toArray, List.set_cons_zero, List.set_cons_succ, i64_w, i32_w]
            rfl
           refine pure_ (i := 30) (N := some 51) (v := undef) (a' := ?_) #[true, true, true, true, true, true, true, true, true, true, true, true, true, true, true, true, true, true, true, true, true, true, true, true, true, true, true, true, true, true, true, false, false, false, false, false, false, false] rfl rfl (any_of HT_.out (by kernel_rfl)) (fun _ _ _ h => h) (Or.inr ⟨by rfl, rfl⟩) ?_ ?_
           rotate_left
           ·simp only [Act.put, List.setIfInBounds_toArray, List.set_cons_zero, List.set_cons_succ, i64_w, i32_w]
            rfl
           refine pure_ (i := 31) (N := some 52) (v := undef) (a' := ?_) #[true, true, true, true, true, true, true, true, true, true, true, true, true, true, true, true, true, true, true, true, true, true, true, true, true, true, true, true, true, true, true, true, false, false, false, false, false, false] rfl rfl (any_of HT_.out (by kernel_rfl)) (fun _ _ _ h => h) (Or.inr ⟨by rfl, rfl⟩) ?_ ?_
           rotate_left
           ·simp only [Act.put, List.setIfInBounds_toArray, List.set_cons_zero, List.set_cons_succ, i64_w, i32_w]
            rfl
           refine pure_ (i := 32) (N := some 53) (v := undef) (a' := ?_) #[true, true, true, true, true, true, true, true, true, true, true, true, true, true, true, true, true, true, true, true, true, true, true, true, true, true, true, true, true, true, true, true, true, false, false, false, false, false] rfl rfl (any_of HT_.out (by kernel_rfl)) (fun _ _ _ h => h) (Or.inr ⟨by rfl, rfl⟩) ?_ ?_
           rotate_left
           ·simp only [Act.put, List.setIfInBounds_toArray, List.set_cons_zero, List.set_cons_succ, i64_w, i32_w]
            rfl
           refine pure_ (i := 33) (N := some 54) (v := undef) (a' := ?_) #[true, true, true, true, true, true, true, true, true, true, true, true, true, true, true, true, true, true, true, true, true, true, true, true, true, true, true, true, true, true, true, true, true, true, false, false, false, false] rfl rfl (any_of HT_.out (by kernel_rfl)) (fun _ _ _ h => h) (Or.inr ⟨by rfl, rfl⟩) ?_ ?_
           rotate_left
           ·simp only [Act.put, List.setIfInBounds_toArray, List.set_cons_zero, List.set_cons_succ, i64_w, i32_w]
            rfl
           refine pure_ (i := 34) (N := some 55) (v := undef) (a' := ?_) #[true, true, true, true, true, true, true, true, true, true, true, true, true, true, true, true, true, true, true, true, true, true, true, true, true, true, true, true, true, true, true, true, true, true, true, false, false, false] rfl rfl (any_of HT_.out (by kernel_rfl)) (fun _ _ _ h => h) (Or.inr ⟨by rfl, rfl⟩) ?_ ?_
           rotate_left
           ·simp only [Act.put, List.setIfInBounds_toArray, List.set_cons_zero, List.set_cons_succ, i64_w, i32_w]
            rfl
           refine pure_ (i := 35) (N := some 56) (v := undef) (a' := ?_) #[true, true, true, true, true, true, true, true, true, true, true, true, true, true, true, true, true, true, true, true, true, true, true, true, true, true, true, true, true, true, true, true, true, true, true, true, false, false] rfl rfl (any_of HT_.out (by kernel_rfl)) (fun _ _ _ h => h) (Or.inr ⟨by rfl, rfl⟩) ?_ ?_
           rotate_left
           ·simp only [Act.put, List.setIfInBounds_toArray, List.set_cons_zero, List.set_cons_succ, i64_w, i32_w]
            rfl
           refine pure_ (i := 36) (N := some 57) (v := ?_) (a' := ?_) #[true, true, true, true, true, true, true, true, true, true, true, true, true, true, true, true, true, true, true, true, true, true, true, true, true, true, true, true, true, true, true, true, true, true, true, true, true, false] rfl rfl (any_of HT_.out (by kernel_rfl)) (fun _ _ _ h => h) (Or.inl ⟨by rfl, ?_⟩) ?_ ?_
           rotate_left
           ·intro w'
            go_simp
            with_reducible rfl
           rotate_left
           ·simp only [Act.put, List.setIfInBounds_toArray, List.set_cons_zero, List.set_cons_succ, i64_w, i32_w]
            rfl
           refine pure_ (i := 37) (N := some 58) (v := ?_) (a' := ?_) #[true, true, true, true, true, true, true, true, true, true, true, true, true, true, true, true, true, true, true, true, true, true, true, true, true, true, true, true, true, true, true, true, true, true, true, true, true, true] rfl rfl (any_of HT_.out (by kernel_rfl)) (fun _ _ _ h => h) (Or.inl ⟨by rfl, ?_⟩) ?_ ?_
           rotate_left
           ·intro w'
            go_simp
            with_reducible rfl
           rotate_left
           ·simp only [Act.put, List.setIfInBounds_toArray, List.set_cons_zero, List.set_cons_succ, i64_w, i32_w]
            rfl
           refine done_ (done_of HT_.out (by kernel_rfl)) ?_
           try go_wp2
           go_roundg k2
           case measure => have := HJ1.out; have := HK2.out; omega
           case rel => exact ⟨(wrap64 (x3_2 + 1)), (by first | rfl | (simp; done) | (simp [*]; done)), H', ⟨by have := HJ1.out; have := HK2.out; omega⟩, ⟨pK BK643.out⟩, ⟨pS HB.out⟩⟩
        ·replace c12 := Bool.eq_false_iff.mpr c12
         subst c12
         have H1 : (some false) = some r := by rw [if_neg (show ¬ (false = true) by decide)] at H; exact H
         clear H
         have H := H1
         clear H1
         obtain rfl := Option.some.inj H
         have hcz31_0 : wr.cell? ⟨gb643, 0, none⟩ = some (.int .i64 a0_0) := (blk_cell BK643.out 0).trans rfl
         have hcz31_1 : wr.cell? ⟨gb643, 1, none⟩ = some (.slice A0_1 l0_1.length c0_1) := (blk_cell BK643.out 1).trans rfl
         have hfz31_0 := blk_frozen BK643.out 0
         have hfz31_1 := blk_frozen BK643.out 1
         try go_wp2
         have n0_ := Aside0.mk (blk_drew BK643.out)
         have n1_ := Aside0.mk (below_drew1 HB.out)
         clear BK643
         clear HB
         have BK643 := n0_
         have HB := n1_
         clear n0_ n1_
         have p645 : 0 ≤ (x3_2 : Int) := of_decide_eq_true bA
         have q645 : x3_2 < (l0_1.length : Int) := of_decide_eq_true bA
         obtain ⟨ad645, e645, hx645_0, hx645_1, hx645_2, hx645_3, hx645_4, hx645_5, hx645_6, hx645_7, hx645_8, hx645_9, hx645_10, hx645_11⟩ := at_T64 HR0_1.out x3_2 p645 q645
         have hw645_11 := hx645_11
         have hw645_10 := hx645_10
         have hw645_9 := hx645_9
         have hw645_8 := hx645_8
         have hw645_7 := hx645_7
         have hw645_6 := hx645_6
         have hw645_5 := hx645_5
         have hw645_4 := hx645_4
         have hw645_3 := hx645_3
         have hw645_2 := hx645_2
         have hw645_1 := hx645_1
         have hw645_0 := hx645_0
         cases e645
         replace hx645_0 := (HB.out.cell (World.block_lt_of_cell? w _ hx645_0)).trans hx645_0
         replace hx645_1 := (HB.out.cell (World.block_lt_of_cell? w _ hx645_1)).trans hx645_1
         replace hx645_2 := (HB.out.cell (World.block_lt_of_cell? w _ hx645_2)).trans hx645_2
         replace hx645_3 := (HB.out.cell (World.block_lt_of_cell? w _ hx645_3)).trans hx645_3
         replace hx645_4 := (HB.out.cell (World.block_lt_of_cell? w _ hx645_4)).trans hx645_4
         replace hx645_5 := (HB.out.cell (World.block_lt_of_cell? w _ hx645_5)).trans hx645_5
         replace hx645_6 := (HB.out.cell (World.block_lt_of_cell? w _ hx645_6)).trans hx645_6
         replace hx645_7 := (HB.out.cell (World.block_lt_of_cell? w _ hx645_7)).trans hx645_7
         replace hx645_8 := (HB.out.cell (World.block_lt_of_cell? w _ hx645_8)).trans hx645_8
         replace hx645_9 := (HB.out.cell (World.block_lt_of_cell? w _ hx645_9)).trans hx645_9
         replace hx645_10 := (HB.out.cell (World.block_lt_of_cell? w _ hx645_10)).trans hx645_10
         replace hx645_11 := (HB.out.cell (World.block_lt_of_cell? w _ hx645_11)).trans hx645_11
         replace p645 := eq_true p645
         replace q645 := eq_true q645
         refine start_ (n := 38) (S := fun w' => w'.cell? ⟨gb643, 0, none⟩ = some (.int .i64 a0_0) ∧ w'.cell? ⟨gb643, 1, none⟩ = some (.slice (some ad645) l0_1.length c0_1) ∧ w'.cell? (ad645.add ((x3_2).toNat * 12)) = some (.int .i64 ((rd_T64 l0_1 x3_2).f0)) ∧ w'.cell? ⟨(ad645.add ((x3_2).toNat * 12)).block, (ad645.add ((x3_2).toNat * 12)).off + 1, none⟩ = some (.int .i64 ((rd_T64 l0_1 x3_2).f1)) ∧ w'.cell? ⟨(ad645.add ((x3_2).toNat * 12)).block, (ad645.add ((x3_2).toNat * 12)).off + 2, none⟩ = some (.int .i64 ((rd_T64 l0_1 x3_2).f2.f0)) ∧ w'.cell? ⟨(ad645.add ((x3_2).toNat * 12)).block, (ad645.add ((x3_2).toNat * 12)).off + 3, none⟩ = some (.int .i64 ((rd_T64 l0_1 x3_2).f2.f1)) ∧ w'.cell? ⟨(ad645.add ((x3_2).toNat * 12)).block, (ad645.add ((x3_2).toNat * 12)).off + 4, none⟩ = some (.int .i64 ((rd_T64 l0_1 x3_2).f2.f2)) ∧ w'.cell? ⟨(ad645.add ((x3_2).toNat * 12)).block, (ad645.add ((x3_2).toNat * 12)).off + 5, none⟩ = some (.int .i64 ((rd_T64 l0_1 x3_2).f2.f3)) ∧ w'.cell? ⟨(ad645.add ((x3_2).toNat * 12)).block, (ad645.add ((x3_2).toNat * 12)).off + 6, none⟩ = some (.int .i64 ((rd_T64 l0_1 x3_2).f2.f4)) ∧ w'.cell? ⟨(ad645.add ((x3_2).toNat * 12)).block, (ad645.add ((x3_2).toNat * 12)).off + 7, none⟩ = some (.int .i64 ((rd_T64 l0_1 x3_2).f2.f5)) ∧ w'.cell? ⟨(ad645.add ((x3_2).toNat * 12)).block, (ad645.add ((x3_2).toNat * 12)).off + 8, none⟩ = some (.int .i64 ((rd_T64 l0_1 x3_2).f2.f6)) ∧ w'.cell? ⟨(ad645.add ((x3_2).toNat * 12)).block, (ad645.add ((x3_2).toNat * 12)).off + 9, none⟩ = some (.int .i64 ((rd_T64 l0_1 x3_2).f2.f7)) ∧ w'.cell? ⟨(ad645.add ((x3_2).toNat * 12)).block, (ad645.add ((x3_2).toNat * 12)).off + 10, none⟩ = some (.int .i64 ((rd_T64 l0_1 x3_2).f2.f8)) ∧ w'.cell? ⟨(ad645.add ((x3_2).toNat * 12)).block, (ad645.add ((x3_2).toNat * 12)).off + 11, none⟩ = some (.int .i64 ((rd_T64 l0_1 x3_2).f2.f9))) (ds := []) #[false, false, false, false, false, false, false, false, false, false, false, false, false, false, false, false, false, false, false, false, false, false, false, false, false, false, false, false, false, false, false, false, false, false, false, false, false, false] (by kernel_rfl) rfl rfl ⟨(blk_cell BK643.out 0).trans rfl, (blk_cell BK643.out 1).trans rfl, ((HB.out.cell (World.block_lt_of_cell? w _ hw645_0)).trans hw645_0), ((HB.out.cell (World.block_lt_of_cell? w _ hw645_1)).trans hw645_1), ((HB.out.cell (World.block_lt_of_cell? w _ hw645_2)).trans hw645_2), ((HB.out.cell (World.block_lt_of_cell? w _ hw645_3)).trans hw645_3), ((HB.out.cell (World.block_lt_of_cell? w _ hw645_4)).trans hw645_4), ((HB.out.cell (World.block_lt_of_cell? w _ hw645_5)).trans hw645_5), ((HB.out.cell (World.block_lt_of_cell? w _ hw645_6)).trans hw645_6), ((HB.out.cell (World.block_lt_of_cell? w _ hw645_7)).trans hw645_7), ((HB.out.cell (World.block_lt_of_cell? w _ hw645_8)).trans hw645_8), ((HB.out.cell (World.block_lt_of_cell? w _ hw645_9)).trans hw645_9), ((HB.out.cell (World.block_lt_of_cell? w _ hw645_10)).trans hw645_10), ((HB.out.cell (World.block_lt_of_cell? w _ hw645_11)).trans hw645_11)⟩ (fun hHeld => ?_); refine with_tabW spec_SynVoterOk.tab6 spec_SynVoterOk.bits6 (fun HT_ HW_ => ?_)
         generalize wr.drew = w32 at BK643 HB hx645_0 hx645_1 hx645_10 hx645_11 hx645_2 hx645_3 hx645_4 hx645_5 hx645_6 hx645_7 hx645_8 hx645_9 hHeld ⊢
         refine pure_ (i := 0) (N := some 21) (v := ?_) (a' := ?_) #[true, false, false, false, false, false, false, false, false, false, false, false, false, false, false, false, false, false, false, false, false, false, false, false, false, false, false, false, false, false, false, false, false, false, false, false, false, false] rfl rfl (any_of HT_.out (by kernel_rfl)) (fun _ _ _ h => h) (Or.inl ⟨by rfl, ?_⟩) ?_ ?_
         rotate_left
         ·intro w'
          go_simp
          with_reducible rfl
         rotate_left
         ·simp only [Act.put, List.setIfInBounds_toArray, List.set_cons_zero, List.set_cons_succ, i64_w, i32_w]
          rfl
         refine pure_ (i := 2) (N := some 23) (v := ?_) (a' := ?_) #[true, false, true, false, false, false, false, false, false, false, false, false, false, false, false, false, false, false, false, false, false, false, false, false, false, false, false, false, false, false, false, false, false, false, false, false, false, false] rfl rfl (any_of HT_.out (by kernel_rfl)) (fun _ _ _ h => h) (Or.inl ⟨by rfl, ?_⟩) ?_ ?_
         rotate_left
         ·intro w'
          go_simp
          with_reducible rfl
         rotate_left
         ·simp only [Act.put, List.setIfInBounds_toArray, List.set_cons_zero, List.set_cons_succ, i64_w, i32_w]
          rfl
         refine take_ (i := 1) (N := some 22) (v := ?_) (a' := ?_) #[true, true, true, false, false, false, false, false, false, false, false, false, false, false, false, false, false, false, false, false, false, false, false, false, false, false, false, false, false, false, false, false, false, false, false, false, false, false] rfl rfl (take_ofW HT_.out HW_.out (by kernel_rfl)) (fun _ _ _ h => h) (Or.inl ⟨by rfl, ?_⟩) hHeld ?_ ?_
         rotate_left
         ·rintro w' ⟨s0, s1, s2, s3, s4, s5, s6, s7, s8, s9, s10, s11, s12, s13⟩
          go_simp
          with_reducible rfl
         rotate_left
         ·simp only [Act.put, List.setIfInBounds_toArray, List.set_cons_zero, List.set_cons_succ, i64_w, i32_w]
          rfl
         refine pure_ (i := 3) (N := some 24) (v := ?_) (a' := ?_) #[true, true, true, true, false, false, false, false, false, false, false, false, false, false, false, false, false, false, false, false, false, false, false, false, false, false, false, false, false, false, false, false, false, false, false, false, false, false] rfl rfl (any_of HT_.out (by kernel_rfl)) (fun _ _ _ h => h) (Or.inl ⟨by rfl, ?_⟩) ?_ ?_
         rotate_left
         ·intro w'
          go_simp
          with_reducible rfl
         rotate_left
         ·simp only [Act.put, List.setIfInBounds_toArray, List.set_cons_zero, List.set_cons_succ, i64_w, i32_w]
          rfl
         refine take_ (i := 4) (N := some 25) (v := ?_) (a' := ?_) #[true, true, true, true, true, false, false, false, false, false, false, false, false, false, false, false, false, false, false, false, false, false, false, false, false, false, false, false, false, false, false, false, false, false, false, false, false, false] rfl rfl (take_ofW HT_.out HW_.out (by kernel_rfl)) (fun _ _ _ h => h) (Or.inl ⟨by rfl, ?_⟩) hHeld ?_ ?_
         rotate_left
         ·rintro w' ⟨s0, s1, s2, s3, s4, s5, s6, s7, s8, s9, s10, s11, s12, s13⟩
          go_simp
          with_reducible rfl
         rotate_left
         ·simp only [Act.put, List.setIfInBounds_toArray, List.set_cons_zero, List.set_cons_succ, i64_w, i32_w]
          rfl
         refine one_ (i := 5) (N := some 26) #[true, true, true, true, true, true, false, false, false, false, false, false, false, false, false, false, false, false, false, false, false, false, false, false, false, false, false, false, false, false, false, false, false, false, false, false, false, false] rfl rfl (one_of HT_.out (by kernel_rfl)) (by decide) (fun K hK => ?_)
         refine goes_ Try.func86 (by kernel_rfl) rfl #[.agg #[.int .i64 ((rd_T64 l0_1 x3_2).f0), .int .i64 ((rd_T64 l0_1 x3_2).f1), .int .i64 ((rd_T64 l0_1 x3_2).f2.f0), .int .i64 ((rd_T64 l0_1 x3_2).f2.f1), .int .i64 ((rd_T64 l0_1 x3_2).f2.f2), .int .i64 ((rd_T64 l0_1 x3_2).f2.f3), .int .i64 ((rd_T64 l0_1 x3_2).f2.f4), .int .i64 ((rd_T64 l0_1 x3_2).f2.f5), .int .i64 ((rd_T64 l0_1 x3_2).f2.f6), .int .i64 ((rd_T64 l0_1 x3_2).f2.f7), .int .i64 ((rd_T64 l0_1 x3_2).f2.f8), .int .i64 ((rd_T64 l0_1 x3_2).f2.f9)]] (by rfl) rfl rfl bM ?_
         with_reducible refine (spec_l21PaperOk.calls ((rd_T64 l0_1 x3_2).f0) ((rd_T64 l0_1 x3_2).f1) ((rd_T64 l0_1 x3_2).f2.f0) ((rd_T64 l0_1 x3_2).f2.f1) ((rd_T64 l0_1 x3_2).f2.f2) ((rd_T64 l0_1 x3_2).f2.f3) ((rd_T64 l0_1 x3_2).f2.f4) ((rd_T64 l0_1 x3_2).f2.f5) ((rd_T64 l0_1 x3_2).f2.f6) ((rd_T64 l0_1 x3_2).f2.f7) ((rd_T64 l0_1 x3_2).f2.f8) ((rd_T64 l0_1 x3_2).f2.f9) false _ A11.out).mono ?_
         rintro e w33 ⟨rfl, hb⟩
         refine ⟨_, rfl, ?_⟩
         have n0_ := Aside0.mk (blk_below (pK BK643.out) hb)
         have n1_ := Aside0.mk (below_step (pS HB.out) hb)
         clear BK643
         clear HB
         have BK643 := n0_
         have HB := n1_
         clear n0_ n1_
         (try clear hb)
         (try clear hb2)
         (try clear hk)
         (try clear hi)
         refine hK.out _ _ ⟨(blk_cell BK643.out 0).trans rfl, (blk_cell BK643.out 1).trans rfl, ((HB.out.cell (World.block_lt_of_cell? w _ hw645_0)).trans hw645_0), ((HB.out.cell (World.block_lt_of_cell? w _ hw645_1)).trans hw645_1), ((HB.out.cell (World.block_lt_of_cell? w _ hw645_2)).trans hw645_2), ((HB.out.cell (World.block_lt_of_cell? w _ hw645_3)).trans hw645_3), ((HB.out.cell (World.block_lt_of_cell? w _ hw645_4)).trans hw645_4), ((HB.out.cell (World.block_lt_of_cell? w _ hw645_5)).trans hw645_5), ((HB.out.cell (World.block_lt_of_cell? w _ hw645_6)).trans hw645_6), ((HB.out.cell (World.block_lt_of_cell? w _ hw645_7)).trans hw645_7), ((HB.out.cell (World.block_lt_of_cell? w _ hw645_8)).trans hw645_8), ((HB.out.cell (World.block_lt_of_cell? w _ hw645_9)).trans hw645_9), ((HB.out.cell (World.block_lt_of_cell? w _ hw645_10)).trans hw645_10), ((HB.out.cell (World.block_lt_of_cell? w _ hw645_11)).trans hw645_11)⟩ (fun hHeld => ?_)
         clear hK K
         refine norm_ (a' := ?_) ?_ ?_
         rotate_left
         ·show Act.put _ (some 26) _ = _
          simp only [Act.put, List.setIfInBounds_toArray, List.set_cons_zero, List.set_cons_succ, i64_w, i32_w]
          rfl
         refine pure_ (i := 6) (N := some 27) (v := ?_) (a' := ?_) #[true, true, true, true, true, true, true, false, false, false, false, false, false, false, false, false, false, false, false, false, false, false, false, false, false, false, false, false, false, false, false, false, false, false, false, false, false, false] rfl rfl (any_of HT_.out (by kernel_rfl)) (fun _ _ _ h => h) (Or.inl ⟨by rfl, ?_⟩) ?_ ?_
         rotate_left
         ·intro w'
          go_simp
          with_reducible rfl
         rotate_left
         ·simp only [Act.put, List.setIfInBounds_toArray, List.set_cons_zero, List.set_cons_succ, i64_w, i32_w]
          rfl
         refine pure_ (i := 7) (N := some 28) (v := ?_) (a' := ?_) #[true, true, true, true, true, true, true, true, false, false, false, false, false, false, false, false, false, false, false, false, false, false, false, false, false, false, false, false, false, false, false, false, false, false, false, false, false, false] rfl rfl (any_of HT_.out (by kernel_rfl)) (fun _ _ _ h => h) (Or.inl ⟨by rfl, ?_⟩) ?_ ?_
         rotate_left
         ·intro w'
          go_simp
          with_reducible rfl
         rotate_left
         ·simp only [Act.put, List.setIfInBounds_toArray, List.set_cons_zero, List.set_cons_succ, i64_w, i32_w]
          rfl
         refine pure_ (i := 8) (N := some 29) (v := undef) (a' := ?_) #[true, true, true, true, true, true, true, true, true, false, false, false, false, false, false, false, false, false, false, false, false, false, false, false, false, false, false, false, false, false, false, false, false, false, false, false, false, false] rfl rfl (any_of HT_.out (by kernel_rfl)) (fun _ _ _ h => h) (Or.inr ⟨by rfl, rfl⟩) ?_ ?_
         rotate_left
         ·simp only [Act.put, List.setIfInBounds_toArray, List.set_cons_zero, List.set_cons_succ, i64_w, i32_w]
          rfl
         refine pure_ (i := 9) (N := some 30) (v := undef) (a' := ?_) #[true, true, true, true, true, true, true, true, true, true, false, false, false, false, false, false, false, false, false, false, false, false, false, false, false, false, false, false, false, false, false, false, false, false, false, false, false, false] rfl rfl (any_of HT_.out (by kernel_rfl)) (fun _ _ _ h => h) (Or.inr ⟨by rfl, rfl⟩) ?_ ?_
         rotate_left
         ·simp only [Act.put, List.setIfInBounds_toArray, List.set_cons_zero, List.set_cons_succ, i64_w, i32_w]
          rfl
         refine pure_ (i := 10) (N := some 31) (v := undef) (a' := ?_) #[true, true, true, true, true, true, true, true, true, true, true, false, false, false, false, false, false, false, false, false, false, false, false, false, false, false, false, false, false, false, false, false, false, false, false, false, false, false] rfl rfl (any_of HT_.out (by kernel_rfl)) (fun _ _ _ h => h) (Or.inr ⟨by rfl, rfl⟩) ?_ ?_
         rotate_left
         ·simp only [Act.put, List.setIfInBounds_toArray, List.set_cons_zero, List.set_cons_succ, i64_w, i32_w]
          rfl
         refine pure_ (i := 11) (N := some 32) (v := undef) (a' := ?_) #[true, true, true, true, true, true, true, true, true, true, true, true, false, false, false, false, false, false, false, false, false, false, false, false, false, false, false, false, false, false, false, false, false, false, false, false, false, false] rfl rfl (any_of HT_.out (by kernel_rfl)) (fun _ _ _ h => h) (Or.inr ⟨by rfl, rfl⟩) ?_ ?_
         rotate_left
         ·simp only [Act.put, List.setIfInBounds_toArray, List.set_cons_zero, List.set_cons_succ, i64_w, i32_w]
          rfl
         refine pure_ (i := 12) (N := some 33) (v := undef) (a' := ?_) #[true, true, true, true, true, true, true, true, true, true, true, true, true, false, false, false, false, false, false, false, false, false, false, false, false, false, false, false, false, false, false, false, false, false, false, false, false, false] rfl rfl (any_of HT_.out (by kernel_rfl)) (fun _ _ _ h => h) (Or.inr ⟨by rfl, rfl⟩) ?_ ?_
         rotate_left
         ·simp only [Act.put, List.setIfInBounds_toArray, List.set_cons_zero, List.set_cons_succ, i64_w, i32_w]
          rfl
         refine pure_ (i := 13) (N := some 34) (v := undef) (a' := ?_) #[true, true, true, true, true, true, true, true, true, true, true, true, true, true, false, false, false, false, false, false, false, false, false, false, false, false, false, false, false, false, false, false, false, false, false, false, false, false] rfl rfl (any_of HT_.out (by kernel_rfl)) (fun _ _ _ h => h) (Or.inr ⟨by rfl, rfl⟩) ?_ ?_
         rotate_left
         ·simp only [Act.put, List.setIfInBounds_toArray, List.set_cons_zero, List.set_cons_succ, i64_w, i32_w]
          rfl
         refine pure_ (i := 14) (N := some 35) (v := undef) (a' := ?_) #[true, true, true, true, true, true, true, true, true, true, true, true, true, true, true, false, false, false, false, false, false, false, false, false, false, false, false, false, false, false, false, false, false, false, false, false, false, false] rfl rfl (any_of HT_.out (by kernel_rfl)) (fun _ _ _ h => h) (Or.inr ⟨by rfl, rfl⟩) ?_ ?_
         rotate_left
         ·simp only [Act.put, List.setIfInBounds_toArray, List.set_cons_zero, List.set_cons_succ, i64_w, i32_w]
          rfl
         refine pure_ (i := 15) (N := some 36) (v := undef) (a' := ?_) #[true, true, true, true, true, true, true, true, true, true, true, true, true, true, true, true, false, false, false, false, false, false, false, false, false, false, false, false, false, false, false, false, false, false, false, false, false, false] rfl rfl (any_of HT_.out (by kernel_rfl)) (fun _ _ _ h => h) (Or.inr ⟨by rfl, rfl⟩) ?_ ?_
         rotate_left
         ·simp only [Act.put, List.setIfInBounds_toArray, List.set_cons_zero, List.set_cons_succ, i64_w, i32_w]
          rfl
         refine pure_ (i := 16) (N := some 37) (v := undef) (a' := ?_) #[true, true, true, true, true, true, true, true, true, true, true, true, true, true, true, true, true, false, false, false, false, false, false, false, false, false, false, false, false, false, false, false, false, false, false, false, false, false] rfl rfl (any_of HT_.out (by kernel_rfl)) (fun _ _ _ h => h) (Or.inr ⟨by rfl, rfl⟩) ?_ ?_
         rotate_left
         ·simp only [Act.put, List.setIfInBounds_toArray, List.set_cons_zero, List.set_cons_succ, i64_w, i32_w]
          rfl
         refine pure_ (i := 17) (N := some 38) (v := ?_) (a' := ?_) #[true, true, true, true, true, true, true, true, true, true, true, true, true, true, true, true, true, true, false, false, false, false, false, false, false, false, false, false, false, false, false, false, false, false, false, false, false, false] rfl rfl (any_of HT_.out (by kernel_rfl)) (fun _ _ _ h => h) (Or.inl ⟨by rfl, ?_⟩) ?_ ?_
         rotate_left
         ·intro w'
          go_simp
          with_reducible rfl
         rotate_left
         ·simp only [Act.put, List.setIfInBounds_toArray, List.set_cons_zero, List.set_cons_succ, i64_w, i32_w]
          rfl
         refine pure_ (i := 18) (N := some 39) (v := ?_) (a' := ?_) #[true, true, true, true, true, true, true, true, true, true, true, true, true, true, true, true, true, true, true, false, false, false, false, false, false, false, false, false, false, false, false, false, false, false, false, false, false, false] rfl rfl (any_of HT_.out (by kernel_rfl)) (fun _ _ _ h => h) (Or.inl ⟨by rfl, ?_⟩) ?_ ?_
         rotate_left
         ·intro w'
          go_simp
          with_reducible rfl
         rotate_left
         ·simp only [Act.put, List.setIfInBounds_toArray, List.set_cons_zero, List.set_cons_succ, i64_w, i32_w]
          rfl
         refine pure_ (i := 19) (N := some 40) (v := undef) (a' := ?_) #[true, true, true, true, true, true, true, true, true, true, true, true, true, true, true, true, true, true, true, true, false, false, false, false, false, false, false, false, false, false, false, false, false, false, false, false, false, false] rfl rfl (any_of HT_.out (by kernel_rfl)) (fun _ _ _ h => h) (Or.inr ⟨by rfl, rfl⟩) ?_ ?_
         rotate_left
         ·simp only [Act.put, List.setIfInBounds_toArray, List.set_cons_zero, List.set_cons_succ, i64_w, i32_w]
          rfl
         refine pure_ (i := 20) (N := some 41) (v := undef) (a' := ?_) #[true, true, true, true, true, true, true, true, true, true, true, true, true, true, true, true, true, true, true, true, true, false, false, false, false, false, false, false, false, false, false, false, false, false, false, false, false, false] rfl rfl (any_of HT_.out (by kernel_rfl)) (fun _ _ _ h => h) (Or.inr ⟨by rfl, rfl⟩) ?_ ?_
         rotate_left
         ·simp only [Act.put, List.setIfInBounds_toArray, List.set_cons_zero, List.set_cons_succ, i64_w, i32_w]
          rfl
         refine pure_ (i := 21) (N := some 42) (v := undef) (a' := ?_) #[true, true, true, true, true, true, true, true, true, true, true, true, true, true, true, true, true, true, true, true, true, true, false, false, false, false, false, false, false, false, false, false, false, false, false, false, false, false] rfl rfl (any_of HT_.out (by kernel_rfl)) (fun _ _ _ h => h) (Or.inr ⟨by rfl, rfl⟩) ?_ ?_
         rotate_left
         ·simp only [Act.put, List.setIfInBounds_toArray, List.set_cons_zero, List.set_cons_succ, i64_w, i32_w]
          rfl
         refine pure_ (i := 22) (N := some 43) (v := undef) (a' := ?_) #[true, true, true, true, true, true, true, true, true, true, true, true, true, true, true, true, true, true, true, true, true, true, true, false, false, false, false, false, false, false, false, false, false, false, false, false, false, false] rfl rfl (any_of HT_.out (by kernel_rfl)) (fun _ _ _ h => h) (Or.inr ⟨by rfl, rfl⟩) ?_ ?_
         rotate_left
         ·simp only [Act.put, List.setIfInBounds_toArray, List.set_cons_zero, List.set_cons_succ, i64_w, i32_w]
          rfl
         refine pure_ (i := 23) (N := some 44) (v := undef) (a' := ?_) #[true, true, true, true, true, true, true, true, true, true, true, true, true, true, true, true, true, true, true, true, true, true, true, true, false, false, false, false, false, false, false, false, false, false, false, false, false, false] rfl rfl (any_of HT_.out (by kernel_rfl)) (fun _ _ _ h => h) (Or.inr ⟨by rfl, rfl⟩) ?_ ?_
         rotate_left
         ·simp only [Act.put, List.setIfInBounds_toArray, List.set_cons_zero, List.set_cons_succ, i64_w, i32_w]
          rfl
         refine pure_ (i := 24) (N := some 45) (v := undef) (a' := ?_) #[true, true, true, true, true, true, true, true, true, true, true, true, true, true, true, true, true, true, true, true, true, true, true, true, true, false, false, false, false, false, false, false, false, false, false, false, false, false] rfl rfl (any_of HT_.out (by kernel_rfl)) (fun _ _ _ h => h) (Or.inr ⟨by rfl, rfl⟩) ?_ ?_
         rotate_left
         ·simp only [Act.put, List.setIfInBounds_toArray, List.set_cons_zero, List.set_cons_succ, i64_w, i32_w]
          rfl
         refine pure_ (i := 25) (N := some 46) (v := undef) (a' := ?_) #[true, true, true, true, true, true, true, true, true, true, true, true, true, true, true, true, true, true, true, true, true, true, true, true, true, true, false, false, false, false, false, false, false, false, false, false, false, false] rfl rfl (any_of HT_.out (by kernel_rfl)) (fun _ _ _ h => h) (Or.inr ⟨by rfl, rfl⟩) ?_ ?_
         rotate_left
         ·simp only [Act.put, List.setIfInBounds_toArray, List.set_cons_zero, List.set_cons_succ, i64_w, i32_w]
          rfl
         refine pure_ (i := 26) (N := some 47) (v := undef) (a' := ?_) #[true, true, true, true, true, true, true, true, true, true, true, true, true, true, true, true, true, true, true, true, true, true, true, true, true, true, true, false, false, false, false, false, false, false, false, false, false, false] rfl rfl (any_of HT_.out (by kernel_rfl)) (fun _ _ _ h => h) (Or.inr ⟨by rfl, rfl⟩) ?_ ?_
         rotate_left
         ·simp only [Act.put, List.setIfInBounds_toArray, List.set_cons_zero, List.set_cons_succ, i64_w, i32_w]
          rfl
         refine pure_ (i := 27) (N := some 48) (v := undef) (a' := ?_) #[true, true, true, true, true, true, true, true, true, true, true, true, true, true, true, true, true, true, true, true, true, true, true, true, true, true, true, true, false, false, false, false, false, false, false, false, false, false] rfl rfl (any_of HT_.out (by kernel_rfl)) (fun _ _ _ h => h) (Or.inr ⟨by rfl, rfl⟩) ?_ ?_
         rotate_left
         ·simp only [Act.put, List.setIfInBounds_toArray, List.set_cons_zero, List.set_cons_succ, i64_w, i32_w]
          rfl
         refine pure_ (i := 28) (N := some 49) (v := undef) (a' := ?_) #[true, true, true, true, true, true, true, true, true, true, true, true, true, true, true, true, true, true, true, true, true, true, true, true, true, true, true, true, true, false, false, false, false, false, false, false, false, false] rfl rfl (any_of HT_.out (by kernel_rfl)) (fun _ _ _ h => h) (Or.inr ⟨by rfl, rfl⟩) ?_ ?_
         rotate_left
         ·simp only [Act.put, List.setIfInBounds_toArray, List.set_cons_zero, List.set_cons_succ, i64_w, i32_w]
          rfl
         refine pure_ (i := 29) (N := some 50) (v := undef) (a' := ?_) #[true, true, true, true, true, true, true, true, true, true, true, true, true, true, true, true, true, true, true, true, true, true, true, true, true, true, true, true, true, true, false, false, false, false, false, false, false, false] rfl rfl (any_of HT_.out (by kernel_rfl)) (fun _ _ _ h => h) (Or.inr ⟨by rfl, rfl⟩) ?_ ?_
         rotate_left
         ·simp only [Act.put, List.setIfInBounds_toArray, List.set_cons_zero, List.set_cons_succ, i64_w, i32_w]
          rfl
         refine pure_ (i := 30) (N := some 51) (v := undef) (a' := ?_) #[true, true, true, true, true, true, true, true, true, true, true, true, true, true, true, true, true, true, true, true, true, true, true, true, true, true, true, true, true, true, true, false, false, false, false, false, false, false] rfl rfl (any_of HT_.out (by kernel_rfl)) (fun _ _ _ h => h) (Or.inr ⟨by rfl, rfl⟩) ?_ ?_
         rotate_left
         ·simp only [Act.put, List.setIfInBounds_toArray, List.set_cons_zero, List.set_cons_succ, i64_w, i32_w]
          rfl
         refine pure_ (i := 31) (N := some 52) (v := undef) (a' := ?_) #[true, true, true, true, true, true, true, true, true, true, true, true, true, true, true, true, true, true, true, true, true, true, true, true, true, true, true, true, true, true, true, true, false, false, false, false, false, false] rfl rfl (any_of HT_.out (by kernel_rfl)) (fun _ _ _ h => h) (Or.inr ⟨by rfl, rfl⟩) ?_ ?_
         rotate_left
         ·simp only [Act.put, List.setIfInBounds_toArray, List.set_cons_zero, List.set_cons_succ, i64_w, i32_w]
          rfl
         refine pure_ (i := 32) (N := some 53) (v := undef) (a' := ?_) #[true, true, true, true, true, true, true, true, true, true, true, true, true, true, true, true, true, true, true, true, true, true, true, true, true, true, true, true, true, true, true, true, true, false, false, false, false, false] rfl rfl (any_of HT_.out (by kernel_rfl)) (fun _ _ _ h => h) (Or.inr ⟨by rfl, rfl⟩) ?_ ?_
         rotate_left
         ·simp only [Act.put, List.setIfInBounds_toArray, List.set_cons_zero, List.set_cons_succ, i64_w, i32_w]
          rfl
         refine pure_ (i := 33) (N := some 54) (v := undef) (a' := ?_) #[true, true, true, true, true, true, true, true, true, true, true, true, true, true, true, true, true, true, true, true, true, true, true, true, true, true, true, true, true, true, true, true, true, true, false, false, false, false] rfl rfl (any_of HT_.out (by kernel_rfl)) (fun _ _ _ h => h) (Or.inr ⟨by rfl, rfl⟩) ?_ ?_
         rotate_left
         ·simp only [Act.put, List.setIfInBounds_toArray, List.set_cons_zero, List.set_cons_succ, i64_w, i32_w]
          rfl
         refine pure_ (i := 34) (N := some 55) (v := undef) (a' := ?_) #[true, true, true, true, true, true, true, true, true, true, true, true, true, true, true, true, true, true, true, true, true, true, true, true, true, true, true, true, true, true, true, true, true, true, true, false, false, false] rfl rfl (any_of HT_.out (by kernel_rfl)) (fun _ _ _ h => h) (Or.inr ⟨by rfl, rfl⟩) ?_ ?_
         rotate_left
         ·simp only [Act.put, List.setIfInBounds_toArray, List.set_cons_zero, List.set_cons_succ, i64_w, i32_w]
          rfl
         refine pure_ (i := 35) (N := some 56) (v := undef) (a' := ?_) #[true, true, true, true, true, true, true, true, true, true, true, true, true, true, true, true, true, true, true, true, true, true, true, true, true, true, true, true, true, true, true, true, true, true, true, true, false, false] rfl rfl (any_of HT_.out (by kernel_rfl)) (fun _ _ _ h => h) (Or.inr ⟨by rfl, rfl⟩) ?_ ?_
         rotate_left
         ·simp only [Act.put, List.setIfInBounds_toArray, List.set_cons_zero, List.set_cons_succ, i64_w, i32_w]
          rfl
         refine pure_ (i := 36) (N := some 57) (v := undef) (a' := ?_) #[true, true, true, true, true, true, true, true, true, true, true, true, true, true, true, true, true, true, true, true, true, true, true, true, true, true, true, true, true, true, true, true, true, true, true, true, true, false] rfl rfl (any_of HT_.out (by kernel_rfl)) (fun _ _ _ h => h) (Or.inr ⟨by rfl, rfl⟩) ?_ ?_
         rotate_left
         ·simp only [Act.put, List.setIfInBounds_toArray, List.set_cons_zero, List.set_cons_succ, i64_w, i32_w]
          rfl
         refine pure_ (i := 37) (N := some 58) (v := ?_) (a' := ?_) #[true, true, true, true, true, true, true, true, true, true, true, true, true, true, true, true, true, true, true, true, true, true, true, true, true, true, true, true, true, true, true, true, true, true, true, true, true, true] rfl rfl (any_of HT_.out (by kernel_rfl)) (fun _ _ _ h => h) (Or.inl ⟨by rfl, ?_⟩) ?_ ?_
         rotate_left
         ·intro w'
          go_simp
          with_reducible rfl
         rotate_left
         ·simp only [Act.put, List.setIfInBounds_toArray, List.set_cons_zero, List.set_cons_succ, i64_w, i32_w]
          rfl
         refine done_ (done_of HT_.out (by kernel_rfl)) ?_
         try go_wp2
         go_ret
         exact ⟨by first | rfl | (simp [errW_none, errW_some] <;> rfl) | (simp [*, errW_none, errW_some] <;> rfl), pS HB.out⟩
       ·rw [if_neg c10] at H
        exact absurd H (by simp)
      ·rw [if_neg c9] at H
       have c9b0 : decide (x3_2 < (l0_1.length : Int)) = false := decide_eq_false c9
       clear c9
       obtain rfl := Option.some.inj H
       have hcz34_0 : wr.cell? ⟨gb643, 0, none⟩ = some (.int .i64 a0_0) := (blk_cell BK643.out 0).trans rfl
       have hcz34_1 : wr.cell? ⟨gb643, 1, none⟩ = some (.slice A0_1 l0_1.length c0_1) := (blk_cell BK643.out 1).trans rfl
       have hfz34_0 := blk_frozen BK643.out 0
       have hfz34_1 := blk_frozen BK643.out 1
       go_wp2
       go_ret
       exact ⟨by first | rfl | (simp [errW_none, errW_some] <;> rfl) | (simp [*, errW_none, errW_some] <;> rfl), pS HB.out⟩

end Go.Proofs.Ytoieojmfkkidnaa.P
