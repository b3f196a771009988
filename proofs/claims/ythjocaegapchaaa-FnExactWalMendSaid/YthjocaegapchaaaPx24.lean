-- printed by pprint.py (this session's program over the kit's printer) out of the translation. Lean checks it.
import Derived.Test.YthjocaegapchaaaPx0
import Derived.Test.YthjocaegapchaaaPx10
import Derived.Test.YthjocaegapchaaaPx11
import Derived.Test.YthjocaegapchaaaPx17
import Derived.Test.YthjocaegapchaaaPx18
import Derived.Test.YthjocaegapchaaaPx21
import Derived.Test.YthjocaegapchaaaPx22
namespace Go.Proofs.Ythjocaegapchaaa.P
open Go.RowKit Go.Proofs.YthjocaegapchaaaX Go.Proofs.YthjocaegapchaaaW.PrintWords Go.Proofs.YthjocaegapchaaaW.PrintLast Go.Proofs.YthjocaegapchaaaW.PrintMore
attribute [local go_sem] max2_int min2_int max_two min_two max_three min_three max_four min_four   -- for this text's walks alone
set_option linter.unusedVariables false
set_option linter.unusedSimpArgs false

/-! ### laws_FnExactWalMend: function 4 -/
mutual
def laws_FnExactWalMend.j0 : Nat → List (S61) → Bool → List (S61) → Bool → Bool → List ByteArray → List (S105) → List ByteArray → List (S75) → Option (Bool)
 | 0, _, _, _, _, _, _, _, _, _ => none
 | k + 1, x4, x5, x7, x8, x40, x412000, x412001, x430000, x430001 => if x40 = true then (some false) else ((laws_toSecDisk.f k x412000 x412001).bind fun bt435 => ((laws_eqSecDisk.f k x430000 x430001 bt435.1 bt435.2).bind fun t441 => (if t441 = true then ((laws_markSecDisk.f k x430000 x430001 1).bind fun bt442 => (if bt442.1 < 0 then (laws_FnExactWalMend.j1 k x4 x5 x7 true x412000 x412001) else ((laws_eqSecStepS.f k x7 x4).bind fun t445 => (if t445 = true then (laws_FnExactWalMend.j1 k x4 x5 x7 (x8 != x5) x412000 x412001) else (laws_FnExactWalMend.j1 k x4 x5 x7 true x412000 x412001))))) else (some false))))
def laws_FnExactWalMend.j1 : Nat → List (S61) → Bool → List (S61) → Bool → List ByteArray → List (S105) → Option (Bool)
 | 0, _, _, _, _, _, _ => none
 | k + 1, x4, x5, x7, x61, x412000, x412001 => if x61 = true then (some false) else ((laws_markSecStepS.f k x7 1).bind fun bt446 => ((laws_heldSecStepS.f k bt446.2 1).bind fun t448 => (if t448 < 0 then (some false) else (if t448 = bt446.1 then ((laws_toSecDisk.f k x412000 x412001).bind fun bt449 => ((impl_WalMend.f k bt449.1 bt449.2).bind fun bt455 => ((laws_eqSecStepS.f k bt455.1 x4).bind fun t459 => (if t459 = true then (laws_FnExactWalMend.j2 k bt446.2 bt446.1 (bt455.2 != x5)) else (laws_FnExactWalMend.j2 k bt446.2 bt446.1 true))))) else (some false)))))
def laws_FnExactWalMend.j2 : Nat → List (S61) → Int → Bool → Option (Bool)
 | 0, _, _, _ => none
 | k + 1, x7, x10, x87 => if x87 = true then (some false) else ((laws_heldSecStepS.f k x7 1).bind fun t460 => (if t460 < 0 then (some false) else (if t460 = x10 then (some true) else (some false))))
end
def laws_FnExactWalMend.f (k : Nat) (l0_0 : List ByteArray) (l0_1 : List (S105)) : Option (Bool) := (laws_szSecDisk.f k l0_0 l0_1 1048576).bind fun t412 => (if t412 < 0 then (some true) else ((laws_toSecDisk.f k l0_0 l0_1).bind fun bt413 => ((spec_WalMend.f k bt413.1 bt413.2).bind fun bt419 => ((laws_toSecDisk.f k l0_0 l0_1).bind fun bt423 => ((impl_WalMend.f k bt423.1 bt423.2).bind fun bt430 => ((laws_eqSecStepS.f k bt430.1 bt419.1).bind fun t434 => (if t434 = true then (laws_FnExactWalMend.j0 k bt419.1 bt419.2 bt430.1 bt430.2 (bt430.2 != bt419.2) l0_0 l0_1 bt423.1 bt423.2) else (laws_FnExactWalMend.j0 k bt419.1 bt419.2 bt430.1 bt430.2 true l0_0 l0_1 bt423.1 bt423.2))))))))
theorem laws_FnExactWalMend.mono_l : ∀ k, (∀ y0 y1 y2 y3 y4 y5 y6 y7 y8, LeO (laws_FnExactWalMend.j0 k y0 y1 y2 y3 y4 y5 y6 y7 y8) (laws_FnExactWalMend.j0 (k + 1) y0 y1 y2 y3 y4 y5 y6 y7 y8)) ∧ (∀ y0 y1 y2 y3 y4 y5, LeO (laws_FnExactWalMend.j1 k y0 y1 y2 y3 y4 y5) (laws_FnExactWalMend.j1 (k + 1) y0 y1 y2 y3 y4 y5)) ∧ (∀ y0 y1 y2, LeO (laws_FnExactWalMend.j2 k y0 y1 y2) (laws_FnExactWalMend.j2 (k + 1) y0 y1 y2))
 | 0 => ⟨fun _ _ _ _ _ _ _ _ _ r h => by simp [laws_FnExactWalMend.j0] at h, fun _ _ _ _ _ _ r h => by simp [laws_FnExactWalMend.j1] at h, fun _ _ _ r h => by simp [laws_FnExactWalMend.j2] at h⟩
 | k + 1 => by
  obtain ⟨ih0, ih1, ih2⟩ := laws_FnExactWalMend.mono_l k
  refine ⟨?_, ?_, ?_⟩
  ·intro y0 y1 y2 y3 y4 y5 y6 y7 y8
   unfold laws_FnExactWalMend.j0
   repeat' first
   | (with_reducible exact ih0 _ _ _ _ _ _ _ _ _)
   | (with_reducible exact ih1 _ _ _ _ _ _)
   | (with_reducible exact ih2 _ _ _)
   | (with_reducible exact impl_WalMend.mono _ _ _)
   | (with_reducible exact laws_eqSecDisk.mono _ _ _ _ _)
   | (with_reducible exact laws_eqSecStepS.mono _ _ _)
   | (with_reducible exact laws_heldSecStepS.mono _ _ _)
   | (with_reducible exact laws_markSecDisk.mono _ _ _ _)
   | (with_reducible exact laws_markSecStepS.mono _ _ _)
   | (with_reducible exact laws_szSecDisk.mono _ _ _ _)
   | (with_reducible exact laws_toSecDisk.mono _ _ _)
   | (with_reducible exact spec_WalMend.mono _ _ _)
   | (with_reducible exact LeO.refl _)
   | (with_reducible exact LeO.none _)
   | (with_reducible refine LeO.ite ?_ ?_)
   | (with_reducible refine LeO.bind ?_ (fun _ => ?_))
   | exact ih0 _ _ _ _ _ _ _ _ _
   | exact ih1 _ _ _ _ _ _
   | exact ih2 _ _ _
   | exact impl_WalMend.mono _ _ _
   | exact laws_eqSecDisk.mono _ _ _ _ _
   | exact laws_eqSecStepS.mono _ _ _
   | exact laws_heldSecStepS.mono _ _ _
   | exact laws_markSecDisk.mono _ _ _ _
   | exact laws_markSecStepS.mono _ _ _
   | exact laws_szSecDisk.mono _ _ _ _
   | exact laws_toSecDisk.mono _ _ _
   | exact spec_WalMend.mono _ _ _
   | exact LeO.none _
   | refine LeO.ite ?_ ?_
   | refine LeO.bind ?_ (fun _ => ?_)
  ·intro y0 y1 y2 y3 y4 y5
   unfold laws_FnExactWalMend.j1
   repeat' first
   | (with_reducible exact ih0 _ _ _ _ _ _ _ _ _)
   | (with_reducible exact ih1 _ _ _ _ _ _)
   | (with_reducible exact ih2 _ _ _)
   | (with_reducible exact impl_WalMend.mono _ _ _)
   | (with_reducible exact laws_eqSecDisk.mono _ _ _ _ _)
   | (with_reducible exact laws_eqSecStepS.mono _ _ _)
   | (with_reducible exact laws_heldSecStepS.mono _ _ _)
   | (with_reducible exact laws_markSecDisk.mono _ _ _ _)
   | (with_reducible exact laws_markSecStepS.mono _ _ _)
   | (with_reducible exact laws_szSecDisk.mono _ _ _ _)
   | (with_reducible exact laws_toSecDisk.mono _ _ _)
   | (with_reducible exact spec_WalMend.mono _ _ _)
   | (with_reducible exact LeO.refl _)
   | (with_reducible exact LeO.none _)
   | (with_reducible refine LeO.ite ?_ ?_)
   | (with_reducible refine LeO.bind ?_ (fun _ => ?_))
   | exact ih0 _ _ _ _ _ _ _ _ _
   | exact ih1 _ _ _ _ _ _
   | exact ih2 _ _ _
   | exact impl_WalMend.mono _ _ _
   | exact laws_eqSecDisk.mono _ _ _ _ _
   | exact laws_eqSecStepS.mono _ _ _
   | exact laws_heldSecStepS.mono _ _ _
   | exact laws_markSecDisk.mono _ _ _ _
   | exact laws_markSecStepS.mono _ _ _
   | exact laws_szSecDisk.mono _ _ _ _
   | exact laws_toSecDisk.mono _ _ _
   | exact spec_WalMend.mono _ _ _
   | exact LeO.none _
   | refine LeO.ite ?_ ?_
   | refine LeO.bind ?_ (fun _ => ?_)
  ·intro y0 y1 y2
   unfold laws_FnExactWalMend.j2
   repeat' first
   | (with_reducible exact ih0 _ _ _ _ _ _ _ _ _)
   | (with_reducible exact ih1 _ _ _ _ _ _)
   | (with_reducible exact ih2 _ _ _)
   | (with_reducible exact impl_WalMend.mono _ _ _)
   | (with_reducible exact laws_eqSecDisk.mono _ _ _ _ _)
   | (with_reducible exact laws_eqSecStepS.mono _ _ _)
   | (with_reducible exact laws_heldSecStepS.mono _ _ _)
   | (with_reducible exact laws_markSecDisk.mono _ _ _ _)
   | (with_reducible exact laws_markSecStepS.mono _ _ _)
   | (with_reducible exact laws_szSecDisk.mono _ _ _ _)
   | (with_reducible exact laws_toSecDisk.mono _ _ _)
   | (with_reducible exact spec_WalMend.mono _ _ _)
   | (with_reducible exact LeO.refl _)
   | (with_reducible exact LeO.none _)
   | (with_reducible refine LeO.ite ?_ ?_)
   | (with_reducible refine LeO.bind ?_ (fun _ => ?_))
   | exact ih0 _ _ _ _ _ _ _ _ _
   | exact ih1 _ _ _ _ _ _
   | exact ih2 _ _ _
   | exact impl_WalMend.mono _ _ _
   | exact laws_eqSecDisk.mono _ _ _ _ _
   | exact laws_eqSecStepS.mono _ _ _
   | exact laws_heldSecStepS.mono _ _ _
   | exact laws_markSecDisk.mono _ _ _ _
   | exact laws_markSecStepS.mono _ _ _
   | exact laws_szSecDisk.mono _ _ _ _
   | exact laws_toSecDisk.mono _ _ _
   | exact spec_WalMend.mono _ _ _
   | exact LeO.none _
   | refine LeO.ite ?_ ?_
   | refine LeO.bind ?_ (fun _ => ?_)
theorem laws_FnExactWalMend.mono : ∀ a0 a1 k, LeO (laws_FnExactWalMend.f k a0 a1) (laws_FnExactWalMend.f (k + 1) a0 a1) := by
 intro a0 a1 k
 obtain ⟨ih0, ih1, ih2⟩ := laws_FnExactWalMend.mono_l k
 unfold laws_FnExactWalMend.f
 repeat' first
   | (with_reducible exact ih0 _ _ _ _ _ _ _ _ _)
   | (with_reducible exact ih1 _ _ _ _ _ _)
   | (with_reducible exact ih2 _ _ _)
   | (with_reducible exact impl_WalMend.mono _ _ _)
   | (with_reducible exact laws_eqSecDisk.mono _ _ _ _ _)
   | (with_reducible exact laws_eqSecStepS.mono _ _ _)
   | (with_reducible exact laws_heldSecStepS.mono _ _ _)
   | (with_reducible exact laws_markSecDisk.mono _ _ _ _)
   | (with_reducible exact laws_markSecStepS.mono _ _ _)
   | (with_reducible exact laws_szSecDisk.mono _ _ _ _)
   | (with_reducible exact laws_toSecDisk.mono _ _ _)
   | (with_reducible exact spec_WalMend.mono _ _ _)
   | (with_reducible exact LeO.refl _)
   | (with_reducible exact LeO.none _)
   | (with_reducible refine LeO.ite ?_ ?_)
   | (with_reducible refine LeO.bind ?_ (fun _ => ?_))
   | exact ih0 _ _ _ _ _ _ _ _ _
   | exact ih1 _ _ _ _ _ _
   | exact ih2 _ _ _
   | exact impl_WalMend.mono _ _ _
   | exact laws_eqSecDisk.mono _ _ _ _ _
   | exact laws_eqSecStepS.mono _ _ _
   | exact laws_heldSecStepS.mono _ _ _
   | exact laws_markSecDisk.mono _ _ _ _
   | exact laws_markSecStepS.mono _ _ _
   | exact laws_szSecDisk.mono _ _ _ _
   | exact laws_toSecDisk.mono _ _ _
   | exact spec_WalMend.mono _ _ _
   | exact LeO.none _
   | refine LeO.ite ?_ ?_
   | refine LeO.bind ?_ (fun _ => ?_)
set_option maxHeartbeats 8000000 in
set_option maxRecDepth 100000 in
theorem laws_FnExactWalMend.calls (k : Nat) (A0_0 : Option Addr) (c0_0 : Nat) (l0_0 : List ByteArray) (A0_1 : Option Addr) (c0_1 : Nat) (l0_1 : List (S105)) (r : Bool) (w : World) (hr0_0 : Kd.C Kd.string w A0_0 l0_0.length l0_0) (hc0_0 : l0_0.length ≤ c0_0) (hr0_1 : Kd.C k105 w A0_1 l0_1.length l0_1) (hc0_1 : l0_1.length ≤ c0_1) (h : laws_FnExactWalMend.f k l0_0 l0_1 = some r) :
  Calls Try.prog 4 #[.agg #[.slice A0_0 l0_0.length c0_0, .slice A0_1 l0_1.length c0_1]] w fun e w' => e = .returned (.bool r) ∧ Below w.heap.size w w' := by
 have hu25 := Try.underlying25
 have hu31 := Try.underlying31
 have HR0_0 := Aside0.mk hr0_0
 have HC0_0 := Aside0.mk hc0_0
 clear hr0_0 hc0_0
 have HR0_1 := Aside0.mk hr0_1
 have HC0_1 := Aside0.mk hc0_1
 clear hr0_1 hc0_1
 have HB := Aside0.mk (Below.refl w.heap.size w)
 have H : ((laws_szSecDisk.f k l0_0 l0_1 1048576).bind fun t412 => (if t412 < 0 then (some true) else ((laws_toSecDisk.f k l0_0 l0_1).bind fun bt413 => ((spec_WalMend.f k bt413.1 bt413.2).bind fun bt419 => ((laws_toSecDisk.f k l0_0 l0_1).bind fun bt423 => ((impl_WalMend.f k bt423.1 bt423.2).bind fun bt430 => ((laws_eqSecStepS.f k bt430.1 bt419.1).bind fun t434 => (if t434 = true then (laws_FnExactWalMend.j0 k bt419.1 bt419.2 bt430.1 bt430.2 (bt430.2 != bt419.2) l0_0 l0_1 bt423.1 bt423.2) else (laws_FnExactWalMend.j0 k bt419.1 bt419.2 bt430.1 bt430.2 true l0_0 l0_1 bt423.1 bt423.2))))))))) = some r := h
 clear h
 replace H := Option.bind_eq_some_iff.mp H
 obtain ⟨t412, A20, H⟩ := H
 replace H : (if t412 < 0 then (some true) else ((laws_toSecDisk.f k l0_0 l0_1).bind fun bt413 => ((spec_WalMend.f k bt413.1 bt413.2).bind fun bt419 => ((laws_toSecDisk.f k l0_0 l0_1).bind fun bt423 => ((impl_WalMend.f k bt423.1 bt423.2).bind fun bt430 => ((laws_eqSecStepS.f k bt430.1 bt419.1).bind fun t434 => (if t434 = true then (laws_FnExactWalMend.j0 k bt419.1 bt419.2 bt430.1 bt430.2 (bt430.2 != bt419.2) l0_0 l0_1 bt423.1 bt423.2) else (laws_FnExactWalMend.j0 k bt419.1 bt419.2 bt430.1 bt430.2 true l0_0 l0_1 bt423.1 bt423.2)))))))) = some r := H
 have A2 := Aside0.mk A20
 clear A20
 by_cases c3 : t412 < 0
 ·rw [if_pos c3] at H
  have c3b0 : decide (t412 < 0) = true := decide_eq_true c3
  clear c3
  obtain rfl := Option.some.inj H
  go_enter Try.func4, Try.ntmps4
  go_wp2_with (first | ((with_reducible refine gate_dst (N := 1) rfl ?_); refine box_event ?hg (N := 1) ?hd (cs := #[.slice A0_0 l0_0.length c0_0, .slice A0_1 l0_1.length c0_1]) (t := 25) ?hr ?_; (case hd => rfl); (case hg => rfl); (case hr => first | (go_simp; done) | (go_simp; rfl)); intro gb411 hg w4 hbox hb; have n0_ := Aside0.mk (below_step (pB HB.out) hb); have n1_ := Aside0.mk (hbox); have n2_ := Aside0.mk ((by rw [hg]; exact (below_size (pB HB.out)) : w.heap.size ≤ gb411)); have n3_ := Aside0.mk ((by rw [hg]; exact (below_size (pB HB.out)) : w.heap.size ≤ gb411)); clear HB; have HB := n0_; have BK411 := n1_; have GW411 := n2_; have GE411 := n3_; clear n0_ n1_ n2_ n3_; clear hb hbox hg; have hcz5_0 : w4.cell? ⟨gb411, 0, none⟩ = some (.slice A0_0 l0_0.length c0_0) := (blk_cell BK411.out 0).trans rfl; have hcz5_1 : w4.cell? ⟨gb411, 1, none⟩ = some (.slice A0_1 l0_1.length c0_1) := (blk_cell BK411.out 1).trans rfl; have hfz5_0 := blk_frozen BK411.out 0; have hfz5_1 := blk_frozen BK411.out 1) | ((with_reducible refine gate_callee (f := 11) rfl ?_); refine goesL_ (some 16) rfl rfl Try.func11 (by kernel_rfl) rfl #[.agg #[.slice A0_0 l0_0.length c0_0, .slice A0_1 l0_1.length c0_1], .int .i64 1048576] rfl bM ?_; (with_reducible refine (laws_szSecDisk.calls k _ _ l0_0 _ _ l0_1 1048576 t412 _ ?side1 ?side2 ?side3 ?side4 A2.out).mono ?_); (case side1 => exact pC (Kd.C_below HR0_0.out HB.out)); (case side2 => exact HC0_0.out); (case side3 => exact pC (Kd.C_below HR0_1.out HB.out)); (case side4 => exact HC0_1.out); rintro e w6 ⟨rfl, hb⟩; refine ⟨_, rfl, ?_⟩; have n0_ := Aside0.mk (blk_below (pK BK411.out) hb); have n1_ := Aside0.mk (below_step (pS HB.out) hb); clear BK411; clear HB; have BK411 := n0_; have HB := n1_; clear n0_ n1_; (try clear hb); (try clear hb2); (try clear hk); (try clear hi)))
  go_ret
  exact ⟨by first | rfl | (simp [errW_none, errW_some] <;> rfl) | (simp [*, errW_none, errW_some] <;> rfl), pS HB.out⟩
 ·rw [if_neg c3] at H
  have c3b0 : decide (t412 < 0) = false := decide_eq_false c3
  clear c3
  replace H := Option.bind_eq_some_iff.mp H
  obtain ⟨⟨t413, t416⟩, A70, H⟩ := H
  replace H : ((spec_WalMend.f k t413 t416).bind fun bt419 => ((laws_toSecDisk.f k l0_0 l0_1).bind fun bt423 => ((impl_WalMend.f k bt423.1 bt423.2).bind fun bt430 => ((laws_eqSecStepS.f k bt430.1 bt419.1).bind fun t434 => (if t434 = true then (laws_FnExactWalMend.j0 k bt419.1 bt419.2 bt430.1 bt430.2 (bt430.2 != bt419.2) l0_0 l0_1 bt423.1 bt423.2) else (laws_FnExactWalMend.j0 k bt419.1 bt419.2 bt430.1 bt430.2 true l0_0 l0_1 bt423.1 bt423.2)))))) = some r := H
  have A7 := Aside0.mk A70
  clear A70
  replace H := Option.bind_eq_some_iff.mp H
  obtain ⟨⟨t419, t422⟩, A80, H⟩ := H
  replace H : ((laws_toSecDisk.f k l0_0 l0_1).bind fun bt423 => ((impl_WalMend.f k bt423.1 bt423.2).bind fun bt430 => ((laws_eqSecStepS.f k bt430.1 t419).bind fun t434 => (if t434 = true then (laws_FnExactWalMend.j0 k t419 t422 bt430.1 bt430.2 (bt430.2 != t422) l0_0 l0_1 bt423.1 bt423.2) else (laws_FnExactWalMend.j0 k t419 t422 bt430.1 bt430.2 true l0_0 l0_1 bt423.1 bt423.2))))) = some r := H
  have A8 := Aside0.mk A80
  clear A80
  replace H := Option.bind_eq_some_iff.mp H
  obtain ⟨⟨t423, t426⟩, A90, H⟩ := H
  replace H : ((impl_WalMend.f k t423 t426).bind fun bt430 => ((laws_eqSecStepS.f k bt430.1 t419).bind fun t434 => (if t434 = true then (laws_FnExactWalMend.j0 k t419 t422 bt430.1 bt430.2 (bt430.2 != t422) l0_0 l0_1 t423 t426) else (laws_FnExactWalMend.j0 k t419 t422 bt430.1 bt430.2 true l0_0 l0_1 t423 t426)))) = some r := H
  have A9 := Aside0.mk A90
  clear A90
  replace H := Option.bind_eq_some_iff.mp H
  obtain ⟨⟨t430, t433⟩, A100, H⟩ := H
  replace H : ((laws_eqSecStepS.f k t430 t419).bind fun t434 => (if t434 = true then (laws_FnExactWalMend.j0 k t419 t422 t430 t433 (t433 != t422) l0_0 l0_1 t423 t426) else (laws_FnExactWalMend.j0 k t419 t422 t430 t433 true l0_0 l0_1 t423 t426))) = some r := H
  have A10 := Aside0.mk A100
  clear A100
  have HC11 := Aside0.mk H
  clear H
  go_enter Try.func4, Try.ntmps4
  go_upto_region 8 with (first | ((with_reducible refine gate_dst (N := 1) rfl ?_); refine box_event ?hg (N := 1) ?hd (cs := #[.slice A0_0 l0_0.length c0_0, .slice A0_1 l0_1.length c0_1]) (t := 25) ?hr ?_; (case hd => rfl); (case hg => rfl); (case hr => first | (go_simp; done) | (go_simp; rfl)); intro gb411 hg w12 hbox hb; have n0_ := Aside0.mk (below_step (pB HB.out) hb); have n1_ := Aside0.mk (hbox); have n2_ := Aside0.mk ((by rw [hg]; exact (below_size (pB HB.out)) : w.heap.size ≤ gb411)); have n3_ := Aside0.mk ((by rw [hg]; exact (below_size (pB HB.out)) : w.heap.size ≤ gb411)); clear HB; have HB := n0_; have BK411 := n1_; have GW411 := n2_; have GE411 := n3_; clear n0_ n1_ n2_ n3_; clear hb hbox hg; have hcz13_0 : w12.cell? ⟨gb411, 0, none⟩ = some (.slice A0_0 l0_0.length c0_0) := (blk_cell BK411.out 0).trans rfl; have hcz13_1 : w12.cell? ⟨gb411, 1, none⟩ = some (.slice A0_1 l0_1.length c0_1) := (blk_cell BK411.out 1).trans rfl; have hfz13_0 := blk_frozen BK411.out 0; have hfz13_1 := blk_frozen BK411.out 1) | ((with_reducible refine gate_callee (f := 11) rfl ?_); refine goesL_ (some 16) rfl rfl Try.func11 (by kernel_rfl) rfl #[.agg #[.slice A0_0 l0_0.length c0_0, .slice A0_1 l0_1.length c0_1], .int .i64 1048576] rfl bM ?_; (with_reducible refine (laws_szSecDisk.calls k _ _ l0_0 _ _ l0_1 1048576 t412 _ ?side1 ?side2 ?side3 ?side4 A2.out).mono ?_); (case side1 => exact pC (Kd.C_below HR0_0.out HB.out)); (case side2 => exact HC0_0.out); (case side3 => exact pC (Kd.C_below HR0_1.out HB.out)); (case side4 => exact HC0_1.out); rintro e w14 ⟨rfl, hb⟩; refine ⟨_, rfl, ?_⟩; have n0_ := Aside0.mk (blk_below (pK BK411.out) hb); have n1_ := Aside0.mk (below_step (pS HB.out) hb); clear BK411; clear HB; have BK411 := n0_; have HB := n1_; clear n0_ n1_; (try clear hb); (try clear hb2); (try clear hk); (try clear hi); have hcz15_0 : w14.cell? ⟨gb411, 0, none⟩ = some (.slice A0_0 l0_0.length c0_0) := (blk_cell BK411.out 0).trans rfl; have hcz15_1 : w14.cell? ⟨gb411, 1, none⟩ = some (.slice A0_1 l0_1.length c0_1) := (blk_cell BK411.out 1).trans rfl; have hfz15_0 := blk_frozen BK411.out 0; have hfz15_1 := blk_frozen BK411.out 1) | ((with_reducible refine gate_callee (f := 13) rfl ?_); refine goesL_ (some 21) rfl rfl Try.func13 (by kernel_rfl) rfl #[.agg #[.slice A0_0 l0_0.length c0_0, .slice A0_1 l0_1.length c0_1]] rfl bM ?_; (with_reducible refine (laws_toSecDisk.calls k _ _ l0_0 _ _ l0_1 t413 t416 _ ?side1 ?side2 ?side3 ?side4 A7.out).mono ?_); (case side1 => exact pC (Kd.C_below HR0_0.out HB.out)); (case side2 => exact HC0_0.out); (case side3 => exact pC (Kd.C_below HR0_1.out HB.out)); (case side4 => exact HC0_1.out); rintro e w16 ⟨v414, v417, rfl, ho0, ho1, hb⟩; refine ⟨_, rfl, ?_⟩; have n0_ := Aside0.mk (Kd.R_lower ho0 (below_size (pS HB.out))); have n1_ := Aside0.mk (Kd.R_lower ho1 (below_size (pS HB.out))); have n2_ := Aside0.mk (blk_below (pK BK411.out) hb); have n3_ := Aside0.mk (below_step (pS HB.out) hb); clear BK411; clear HB; have HO415 := n0_; have HO418 := n1_; have BK411 := n2_; have HB := n3_; clear n0_ n1_ n2_ n3_; (try clear hb); (try clear hb2); (try clear hk); (try clear hi); (try clear ho0); (try clear ho1); obtain ⟨Ao17, co17, eo17⟩ := Kd.R_slice HO415.out; subst eo17; obtain ⟨Ao18, co18, eo18⟩ := Kd.R_slice HO418.out; subst eo18) | ((with_reducible refine gate_callee (f := 20) rfl ?_); refine goesL_ (some 22) rfl rfl Try.func20 (by kernel_rfl) rfl #[.agg #[.slice Ao17 t413.length co17, .slice Ao18 t416.length co18]] rfl bM ?_; (with_reducible refine (spec_WalMend.calls k _ _ t413 _ _ t416 t419 t422 _ ?side1 ?side2 ?side3 ?side4 A8.out).mono ?_); (case side1 => exact pC (Kd.R_reads' HO415.out).2.2); (case side2 => exact (Kd.R_reads' HO415.out).2.1); (case side3 => exact pC (Kd.R_reads' HO418.out).2.2); (case side4 => exact (Kd.R_reads' HO418.out).2.1); rintro e w19 ⟨v420, rfl, ho0, hb⟩; refine ⟨_, rfl, ?_⟩; have n0_ := Aside0.mk (Kd.R_below (pR HO415.out) hb); have n1_ := Aside0.mk (Kd.R_below (pR HO418.out) hb); have n2_ := Aside0.mk (Kd.R_lower ho0 (below_size (pS HB.out))); have n3_ := Aside0.mk (blk_below (pK BK411.out) hb); have n4_ := Aside0.mk (below_step (pS HB.out) hb); clear HO415; clear HO418; clear BK411; clear HB; have HO415 := n0_; have HO418 := n1_; have HO421 := n2_; have BK411 := n3_; have HB := n4_; clear n0_ n1_ n2_ n3_ n4_; (try clear hb); (try clear hb2); (try clear hk); (try clear hi); (try clear ho0); have hcz20_0 : w19.cell? ⟨gb411, 0, none⟩ = some (.slice A0_0 l0_0.length c0_0) := (blk_cell BK411.out 0).trans rfl; have hcz20_1 : w19.cell? ⟨gb411, 1, none⟩ = some (.slice A0_1 l0_1.length c0_1) := (blk_cell BK411.out 1).trans rfl; have hfz20_0 := blk_frozen BK411.out 0; have hfz20_1 := blk_frozen BK411.out 1) | ((with_reducible refine gate_callee (f := 13) rfl ?_); refine goesL_ (some 26) rfl rfl Try.func13 (by kernel_rfl) rfl #[.agg #[.slice A0_0 l0_0.length c0_0, .slice A0_1 l0_1.length c0_1]] rfl bM ?_; (with_reducible refine (laws_toSecDisk.calls k _ _ l0_0 _ _ l0_1 t423 t426 _ ?side1 ?side2 ?side3 ?side4 A9.out).mono ?_); (case side1 => exact pC (Kd.C_below HR0_0.out HB.out)); (case side2 => exact HC0_0.out); (case side3 => exact pC (Kd.C_below HR0_1.out HB.out)); (case side4 => exact HC0_1.out); rintro e w21 ⟨v424, v427, rfl, ho0, ho1, hb⟩; refine ⟨_, rfl, ?_⟩; have n0_ := Aside0.mk (Kd.R_elder' (pR HO415.out) (Kd.R_base ho0) hb); have n1_ := Aside0.mk (Kd.R_elder' (pR HO418.out) (Kd.R_base ho1) hb); have n2_ := Aside0.mk (Kd.R_below (pR HO421.out) hb); have n3_ := Aside0.mk (Kd.R_lower (Kd.R_new' ho0 (Kd.R_lt (pR HO415.out))) (below_size (pS HB.out))); have n4_ := Aside0.mk (Kd.R_lower (Kd.R_new' ho1 (Kd.R_lt (pR HO418.out))) (below_size (pS HB.out))); have n5_ := Aside0.mk (blk_below (pK BK411.out) hb); have n6_ := Aside0.mk (below_step (pS HB.out) hb); clear HO415; clear HO418; clear HO421; clear BK411; clear HB; have HO415 := n0_; have HO418 := n1_; have HO421 := n2_; have HO425 := n3_; have HO428 := n4_; have BK411 := n5_; have HB := n6_; clear n0_ n1_ n2_ n3_ n4_ n5_ n6_; (try clear hb); (try clear hb2); (try clear hk); (try clear hi); (try clear ho0); (try clear ho1)) | ((with_reducible refine gate_dst (N := 6) rfl ?_); refine box_event ?hg (N := 6) ?hd (cs := #[.slice none 0 0, .slice none 0 0]) (t := 31) ?hr ?_; (case hd => rfl); (case hg => rfl); (case hr => first | (go_simp; done) | (go_simp; rfl)); intro gb429 hg w22 hbox hb; have n0_ := Aside0.mk (Kd.R_below (pR HO415.out) hb); have n1_ := Aside0.mk (Kd.R_below (pR HO418.out) hb); have n2_ := Aside0.mk (Kd.R_below (pR HO421.out) hb); have n3_ := Aside0.mk (Kd.R_below (pR HO425.out) hb); have n4_ := Aside0.mk (Kd.R_below (pR HO428.out) hb); have n5_ := Aside0.mk (blk_below (pK BK411.out) hb); have n6_ := Aside0.mk (below_step (pS HB.out) hb); have n7_ := Aside0.mk (hbox); have n8_ := Aside0.mk ((by rw [hg]; exact (below_size (pS HB.out)) : w.heap.size ≤ gb429)); have n9_ := Aside0.mk ((by rw [hg]; exact (below_size (pS HB.out)) : w.heap.size ≤ gb429)); have n10_ := Aside0.mk ((by rw [hg]; exact Nat.ne_of_lt (blk_lt (pK BK411.out)) : gb411 ≠ gb429)); have n11_ := Aside0.mk ((by rw [hg]; exact Nat.ne_of_gt (blk_lt (pK BK411.out)) : gb429 ≠ gb411)); clear HO415; clear HO418; clear HO421; clear HO425; clear HO428; clear BK411; clear HB; have HO415 := n0_; have HO418 := n1_; have HO421 := n2_; have HO425 := n3_; have HO428 := n4_; have BK411 := n5_; have HB := n6_; have BK429 := n7_; have GW429 := n8_; have GE429 := n9_; have NB411_429 := n10_; have NB429_411 := n11_; clear n0_ n1_ n2_ n3_ n4_ n5_ n6_ n7_ n8_ n9_ n10_ n11_; clear hb hbox hg; obtain ⟨Ao23, co23, eo23⟩ := Kd.R_slice HO425.out; subst eo23; have hnb24 := NB429_411.out; have hnc24 := NB411_429.out; have hcz25_0 : w22.cell? ⟨gb429, 0, none⟩ = some (.slice none 0 0) := (blk_cell BK429.out 0).trans rfl; have hcz25_1 : w22.cell? ⟨gb429, 1, none⟩ = some (.slice none 0 0) := (blk_cell BK429.out 1).trans rfl; have hfz25_0 := blk_frozen BK429.out 0; have hfz25_1 := blk_frozen BK429.out 1; obtain ⟨Ao26, co26, eo26⟩ := Kd.R_slice HO428.out; subst eo26) | ((with_reducible refine gate_callee (f := 21) rfl ?_); refine goesL_ (some 29) rfl rfl Try.func21 (by kernel_rfl) rfl #[.agg #[.slice Ao23 t423.length co23, .slice Ao26 t426.length co26]] rfl bM ?_; (with_reducible refine (impl_WalMend.calls k _ _ t423 _ _ t426 t430 t433 _ ?side1 ?side2 ?side3 ?side4 A10.out).mono ?_); (case side1 => refine (Kd.R_reads' (e := 9) (base := w.heap.size) (ok := fun k_ => (True ∧ some k_ ≠ (.slice Ao17 t413.length co17 : Value).ownBlock)) (n := t423.length) (c := co23) ?_).2.2; exact (pR (Kd.R_mono (Kd.R_far (p := ⟨gb429, 1, none⟩) (Kd.R_far (p := ⟨gb429, 0, none⟩) (Kd.R_types HO425.out BK429.out (by decide)) (fun _ hk => hk.2) (.slice Ao23 t423.length co23)) (fun _ hk => hk.2) (.slice Ao26 t426.length co26)) (fun _ h_ => h_.1)))); (case side2 => exact (Kd.R_reads' HO425.out).2.1); (case side3 => refine (Kd.R_reads' (e := 75) (base := w.heap.size) (ok := fun k_ => (True ∧ some k_ ≠ (.slice Ao18 t416.length co18 : Value).ownBlock)) (n := t426.length) (c := co26) ?_).2.2; exact (pR (Kd.R_mono (Kd.R_far (p := ⟨gb429, 1, none⟩) (Kd.R_far (p := ⟨gb429, 0, none⟩) (Kd.R_types HO428.out BK429.out (by decide)) (fun _ hk => hk.2) (.slice Ao23 t423.length co23)) (fun _ hk => hk.2) (.slice Ao26 t426.length co26)) (fun _ h_ => h_.1)))); (case side4 => exact (Kd.R_reads' HO428.out).2.1); rintro e w27 ⟨v431, rfl, ho0, hb⟩; refine ⟨_, rfl, ?_⟩; have n0_ := Aside0.mk (Kd.R_below (pR (Kd.R_mono (Kd.R_far (p := ⟨gb429, 1, none⟩) (Kd.R_far (p := ⟨gb429, 0, none⟩) (Kd.R_types HO415.out BK429.out (by decide)) (fun _ hk => hk.2) (.slice Ao23 t423.length co23)) (fun _ hk => hk.2) (.slice Ao26 t426.length co26)) (fun _ h_ => h_.1))) hb); have n1_ := Aside0.mk (Kd.R_below (pR (Kd.R_mono (Kd.R_far (p := ⟨gb429, 1, none⟩) (Kd.R_far (p := ⟨gb429, 0, none⟩) (Kd.R_types HO418.out BK429.out (by decide)) (fun _ hk => hk.2) (.slice Ao23 t423.length co23)) (fun _ hk => hk.2) (.slice Ao26 t426.length co26)) (fun _ h_ => h_.1))) hb); have n2_ := Aside0.mk (Kd.R_elder' (pR (Kd.R_mono (Kd.R_far (p := ⟨gb429, 1, none⟩) (Kd.R_far (p := ⟨gb429, 0, none⟩) (Kd.R_types HO421.out BK429.out (by decide)) (fun _ hk => hk.2) (.slice Ao23 t423.length co23)) (fun _ hk => hk.2) (.slice Ao26 t426.length co26)) (fun _ h_ => h_.1))) (Kd.R_base ho0) hb); have n3_ := Aside0.mk (Kd.R_below (pR (Kd.R_mono (Kd.R_far (p := ⟨gb429, 1, none⟩) (Kd.R_far (p := ⟨gb429, 0, none⟩) (Kd.R_types HO425.out BK429.out (by decide)) (fun _ hk => hk.2) (.slice Ao23 t423.length co23)) (fun _ hk => hk.2) (.slice Ao26 t426.length co26)) (fun _ h_ => h_.1))) hb); have n4_ := Aside0.mk (Kd.R_below (pR (Kd.R_mono (Kd.R_far (p := ⟨gb429, 1, none⟩) (Kd.R_far (p := ⟨gb429, 0, none⟩) (Kd.R_types HO428.out BK429.out (by decide)) (fun _ hk => hk.2) (.slice Ao23 t423.length co23)) (fun _ hk => hk.2) (.slice Ao26 t426.length co26)) (fun _ h_ => h_.1))) hb); have n5_ := Aside0.mk (Kd.R_lower (Kd.R_new' ho0 (Kd.R_lt (pR (Kd.R_mono (Kd.R_far (p := ⟨gb429, 1, none⟩) (Kd.R_far (p := ⟨gb429, 0, none⟩) (Kd.R_types HO421.out BK429.out (by decide)) (fun _ hk => hk.2) (.slice Ao23 t423.length co23)) (fun _ hk => hk.2) (.slice Ao26 t426.length co26)) (fun _ h_ => h_.1))))) (below_size (pS HB.out))); have n6_ := Aside0.mk (blk_below (g := gb411) (o := .cells #[.slice A0_0 l0_0.length c0_0, .slice A0_1 l0_1.length c0_1] 25 (0, 0)) (by (with_reducible repeat (first | refine blk_drewN ?_ _ | refine blk_drew ?_ | refine blk_alloc ?_ _)); refine blk_far ?_ NB411_429.out _; (with_reducible repeat (first | refine blk_drewN ?_ _ | refine blk_drew ?_ | refine blk_alloc ?_ _)); refine blk_far ?_ NB411_429.out _; (with_reducible repeat (first | refine blk_drewN ?_ _ | refine blk_drew ?_ | refine blk_alloc ?_ _)); exact BK411.out) hb); have n7_ := Aside0.mk (blk_below (g := gb429) (o := .cells #[.slice Ao23 t423.length co23, .slice Ao26 t426.length co26] 31 (0, 0)) (by (with_reducible repeat (first | refine blk_drewN ?_ _ | refine blk_drew ?_ | refine blk_alloc ?_ _)); refine blk_put (cs := #[.slice Ao23 t423.length co23, .slice none 0 0]) ?_ 1 _ rfl; (with_reducible repeat (first | refine blk_drewN ?_ _ | refine blk_drew ?_ | refine blk_alloc ?_ _)); refine blk_put (cs := #[.slice none 0 0, .slice none 0 0]) ?_ 0 _ rfl; (with_reducible repeat (first | refine blk_drewN ?_ _ | refine blk_drew ?_ | refine blk_alloc ?_ _)); exact BK429.out) hb); have n8_ := Aside0.mk (below_step (pS HB.out) hb); clear HO415; clear HO418; clear HO421; clear HO425; clear HO428; clear BK411; clear BK429; clear HB; have HO415 := n0_; have HO418 := n1_; have HO421 := n2_; have HO425 := n3_; have HO428 := n4_; have HO432 := n5_; have BK411 := n6_; have BK429 := n7_; have HB := n8_; clear n0_ n1_ n2_ n3_ n4_ n5_ n6_ n7_ n8_; (try clear hb); (try clear hb2); (try clear hk); (try clear hi); (try clear ho0)))
  (try simp only [Act.put, List.setIfInBounds_toArray, List.set_cons_zero, List.set_cons_succ])
  go_cut [40] (fun v40 wc => ∃ (kq : Nat) (x40_10 : Bool), v40 = .bool x40_10 ∧ Aside0 (laws_FnExactWalMend.j0 kq t419 t422 t430 t433 x40_10 l0_0 l0_1 t423 t426 = some r) ∧ Aside0 (kq ≤ k) ∧ Aside0 (Kd.R k61 61 wc w.heap.size (fun k_ => some k_ ≠ (v431 : Value).ownBlock) v420 t419) ∧ Aside0 (Kd.R k61 61 wc w.heap.size (fun k_ => some k_ ≠ (v420 : Value).ownBlock) v431 t430) ∧ Aside0 (Kd.R Kd.string 9 wc w.heap.size (fun _ => True) (.slice Ao23 t423.length co23) t423) ∧ Aside0 (Kd.R k75 75 wc w.heap.size (fun _ => True) (.slice Ao26 t426.length co26) t426) ∧ Aside0 (wc.heap[gb411]? = some (.cells #[(.slice A0_0 l0_0.length c0_0), (.slice A0_1 l0_1.length c0_1)] 25 (0, 0))) ∧ Aside0 (wc.heap[gb429]? = some (.cells #[(.slice Ao23 t423.length co23), (.slice Ao26 t426.length co26)] 31 (0, 0))) ∧ Aside0 (Below w.heap.size w wc))
  case first =>
   have H := HC11.out
   clear HC11
   replace H := Option.bind_eq_some_iff.mp H
   obtain ⟨t434, A280, H⟩ := H
   replace H : (if t434 = true then (laws_FnExactWalMend.j0 k t419 t422 t430 t433 (t433 != t422) l0_0 l0_1 t423 t426) else (laws_FnExactWalMend.j0 k t419 t422 t430 t433 true l0_0 l0_1 t423 t426)) = some r := H
   have A28 := Aside0.mk A280
   clear A280
   by_cases c29 : t434 = true
   ·subst c29
    have H1 : (laws_FnExactWalMend.j0 k t419 t422 t430 t433 (t433 != t422) l0_0 l0_1 t423 t426) = some r := by rw [if_pos rfl] at H; exact H
    clear H
    have H := H1
    clear H1
    have H' := Aside0.mk H
    clear H
    obtain ⟨Ao30, co30, eo30⟩ := Kd.R_slice HO432.out
    subst eo30
    obtain ⟨Ao31, co31, eo31⟩ := Kd.R_slice HO421.out
    subst eo31
    go_wp2_with (first | ((with_reducible refine gate_callee (f := 22) rfl ?_); refine goesL_ (some 34) rfl rfl Try.func22 (by kernel_rfl) rfl #[.slice Ao30 t430.length co30, .slice Ao31 t419.length co31] rfl bM ?_; (with_reducible refine (laws_eqSecStepS.calls k _ _ t430 _ _ t419 true _ ?side1 ?side2 ?side3 ?side4 A28.out).mono ?_); (case side1 => exact pC (Kd.R_reads' HO432.out).2.2); (case side2 => exact (Kd.R_reads' HO432.out).2.1); (case side3 => exact pC (Kd.R_reads' HO421.out).2.2); (case side4 => exact (Kd.R_reads' HO421.out).2.1); rintro e w32 ⟨rfl, hb⟩; refine ⟨_, rfl, ?_⟩; have n0_ := Aside0.mk (Kd.R_below (pR HO415.out) hb); have n1_ := Aside0.mk (Kd.R_below (pR HO418.out) hb); have n2_ := Aside0.mk (Kd.R_below (pR HO421.out) hb); have n3_ := Aside0.mk (Kd.R_below (pR HO425.out) hb); have n4_ := Aside0.mk (Kd.R_below (pR HO428.out) hb); have n5_ := Aside0.mk (Kd.R_below (pR HO432.out) hb); have n6_ := Aside0.mk (blk_below (pK BK411.out) hb); have n7_ := Aside0.mk (blk_below (pK BK429.out) hb); have n8_ := Aside0.mk (below_step (pS HB.out) hb); clear HO415; clear HO418; clear HO421; clear HO425; clear HO428; clear HO432; clear BK411; clear BK429; clear HB; have HO415 := n0_; have HO418 := n1_; have HO421 := n2_; have HO425 := n3_; have HO428 := n4_; have HO432 := n5_; have BK411 := n6_; have BK429 := n7_; have HB := n8_; clear n0_ n1_ n2_ n3_ n4_ n5_ n6_ n7_ n8_; (try clear hb); (try clear hb2); (try clear hk); (try clear hi)))
    go_meet
    case rel => exact ⟨_, ((t433 != t422)), (by first | rfl | (simp; done) | (simp [*]; done)), H', ⟨by first | omega | exact Nat.le_refl _⟩, ⟨pR (Kd.R_mono HO421.out (fun _ hk => hk.2))⟩, ⟨pR (Kd.R_mono HO432.out (fun _ hk => hk.2))⟩, ⟨pR (Kd.R_mono HO425.out (fun _ hk => trivial))⟩, ⟨pR (Kd.R_mono HO428.out (fun _ hk => trivial))⟩, ⟨pK BK411.out⟩, ⟨pK BK429.out⟩, ⟨pS HB.out⟩⟩
   ·replace c29 := Bool.eq_false_iff.mpr c29
    subst c29
    have H1 : (laws_FnExactWalMend.j0 k t419 t422 t430 t433 true l0_0 l0_1 t423 t426) = some r := by rw [if_neg (show ¬ (false = true) by decide)] at H; exact H
    clear H
    have H := H1
    clear H1
    have H' := Aside0.mk H
    clear H
    obtain ⟨Ao33, co33, eo33⟩ := Kd.R_slice HO432.out
    subst eo33
    obtain ⟨Ao34, co34, eo34⟩ := Kd.R_slice HO421.out
    subst eo34
    go_wp2_with (first | ((with_reducible refine gate_callee (f := 22) rfl ?_); refine goesL_ (some 34) rfl rfl Try.func22 (by kernel_rfl) rfl #[.slice Ao33 t430.length co33, .slice Ao34 t419.length co34] rfl bM ?_; (with_reducible refine (laws_eqSecStepS.calls k _ _ t430 _ _ t419 false _ ?side1 ?side2 ?side3 ?side4 A28.out).mono ?_); (case side1 => exact pC (Kd.R_reads' HO432.out).2.2); (case side2 => exact (Kd.R_reads' HO432.out).2.1); (case side3 => exact pC (Kd.R_reads' HO421.out).2.2); (case side4 => exact (Kd.R_reads' HO421.out).2.1); rintro e w35 ⟨rfl, hb⟩; refine ⟨_, rfl, ?_⟩; have n0_ := Aside0.mk (Kd.R_below (pR HO415.out) hb); have n1_ := Aside0.mk (Kd.R_below (pR HO418.out) hb); have n2_ := Aside0.mk (Kd.R_below (pR HO421.out) hb); have n3_ := Aside0.mk (Kd.R_below (pR HO425.out) hb); have n4_ := Aside0.mk (Kd.R_below (pR HO428.out) hb); have n5_ := Aside0.mk (Kd.R_below (pR HO432.out) hb); have n6_ := Aside0.mk (blk_below (pK BK411.out) hb); have n7_ := Aside0.mk (blk_below (pK BK429.out) hb); have n8_ := Aside0.mk (below_step (pS HB.out) hb); clear HO415; clear HO418; clear HO421; clear HO425; clear HO428; clear HO432; clear BK411; clear BK429; clear HB; have HO415 := n0_; have HO418 := n1_; have HO421 := n2_; have HO425 := n3_; have HO428 := n4_; have HO432 := n5_; have BK411 := n6_; have BK429 := n7_; have HB := n8_; clear n0_ n1_ n2_ n3_ n4_ n5_ n6_ n7_ n8_; (try clear hb); (try clear hb2); (try clear hk); (try clear hi)))
    go_meet
    case rel => exact ⟨_, (true), (by first | rfl | (simp; done) | (simp [*]; done)), H', ⟨by first | omega | exact Nat.le_refl _⟩, ⟨pR (Kd.R_mono HO421.out (fun _ hk => hk.2))⟩, ⟨pR (Kd.R_mono HO432.out (fun _ hk => hk.2))⟩, ⟨pR (Kd.R_mono HO425.out (fun _ hk => trivial))⟩, ⟨pR (Kd.R_mono HO428.out (fun _ hk => trivial))⟩, ⟨pK BK411.out⟩, ⟨pK BK429.out⟩, ⟨pS HB.out⟩⟩
  case rest =>
   clear HC11
   try clear c1
   try clear c2
   try clear p2
   try clear c3
   try clear c3b0
   try clear c4
   try clear c11
   try clear c13
   try clear c20
   try clear c21
   try clear c22
   try clear c24
   try clear c29
   try clear hcz13_0
   try clear hcz13_1
   try clear hcz15_0
   try clear hcz15_1
   try clear hcz20_0
   try clear hcz20_1
   try clear hcz25_0
   try clear hcz25_1
   try clear hcz5_0
   try clear hcz5_1
   try clear hfz13_0
   try clear hfz13_1
   try clear hfz15_0
   try clear hfz15_1
   try clear hfz20_0
   try clear hfz20_1
   try clear hfz25_0
   try clear hfz25_1
   try clear hfz5_0
   try clear hfz5_1
   obtain ⟨kq, x40_10, rfl, HA, HJ10, HO_4, HO_7, HO_430000, HO_430001, BK411, BK429, HB⟩ := hcut
   cases kq with
   | zero => exact absurd HA.out (by simp [laws_FnExactWalMend.j0])
   | succ kj10 =>
    have H := HA.out
    clear HA
    simp only [laws_FnExactWalMend.j0] at H
    by_cases c36 : x40_10 = true
    ·subst c36
     have H1 : (some false) = some r := by rw [if_pos rfl] at H; exact H
     clear H
     have H := H1
     clear H1
     obtain rfl := Option.some.inj H
     go_wp2
     go_ret
     exact ⟨by first | rfl | (simp [errW_none, errW_some] <;> rfl) | (simp [*, errW_none, errW_some] <;> rfl), pS HB.out⟩
    ·replace c36 := Bool.eq_false_iff.mpr c36
     subst c36
     have H1 : ((laws_toSecDisk.f kj10 l0_0 l0_1).bind fun bt435 => ((laws_eqSecDisk.f kj10 t423 t426 bt435.1 bt435.2).bind fun t441 => (if t441 = true then ((laws_markSecDisk.f kj10 t423 t426 1).bind fun bt442 => (if bt442.1 < 0 then (laws_FnExactWalMend.j1 kj10 t419 t422 t430 true l0_0 l0_1) else ((laws_eqSecStepS.f kj10 t430 t419).bind fun t445 => (if t445 = true then (laws_FnExactWalMend.j1 kj10 t419 t422 t430 (t433 != t422) l0_0 l0_1) else (laws_FnExactWalMend.j1 kj10 t419 t422 t430 true l0_0 l0_1))))) else (some false)))) = some r := by rw [if_neg (show ¬ (false = true) by decide)] at H; exact H
     clear H
     have H := H1
     clear H1
     replace H := Option.bind_eq_some_iff.mp H
     obtain ⟨⟨t435, t438⟩, A370, H⟩ := H
     replace H : ((laws_eqSecDisk.f kj10 t423 t426 t435 t438).bind fun t441 => (if t441 = true then ((laws_markSecDisk.f kj10 t423 t426 1).bind fun bt442 => (if bt442.1 < 0 then (laws_FnExactWalMend.j1 kj10 t419 t422 t430 true l0_0 l0_1) else ((laws_eqSecStepS.f kj10 t430 t419).bind fun t445 => (if t445 = true then (laws_FnExactWalMend.j1 kj10 t419 t422 t430 (t433 != t422) l0_0 l0_1) else (laws_FnExactWalMend.j1 kj10 t419 t422 t430 true l0_0 l0_1))))) else (some false))) = some r := H
     have A37 := Aside0.mk A370
     clear A370
     replace H := Option.bind_eq_some_iff.mp H
     obtain ⟨t441, A380, H⟩ := H
     replace H : (if t441 = true then ((laws_markSecDisk.f kj10 t423 t426 1).bind fun bt442 => (if bt442.1 < 0 then (laws_FnExactWalMend.j1 kj10 t419 t422 t430 true l0_0 l0_1) else ((laws_eqSecStepS.f kj10 t430 t419).bind fun t445 => (if t445 = true then (laws_FnExactWalMend.j1 kj10 t419 t422 t430 (t433 != t422) l0_0 l0_1) else (laws_FnExactWalMend.j1 kj10 t419 t422 t430 true l0_0 l0_1))))) else (some false)) = some r := H
     have A38 := Aside0.mk A380
     clear A380
     by_cases c39 : t441 = true
     ·subst c39
      have H1 : ((laws_markSecDisk.f kj10 t423 t426 1).bind fun bt442 => (if bt442.1 < 0 then (laws_FnExactWalMend.j1 kj10 t419 t422 t430 true l0_0 l0_1) else ((laws_eqSecStepS.f kj10 t430 t419).bind fun t445 => (if t445 = true then (laws_FnExactWalMend.j1 kj10 t419 t422 t430 (t433 != t422) l0_0 l0_1) else (laws_FnExactWalMend.j1 kj10 t419 t422 t430 true l0_0 l0_1))))) = some r := by rw [if_pos rfl] at H; exact H
      clear H
      have H := H1
      clear H1
      replace H := Option.bind_eq_some_iff.mp H
      obtain ⟨⟨t442, t443, t444⟩, A400, H⟩ := H
      replace H : (if t442 < 0 then (laws_FnExactWalMend.j1 kj10 t419 t422 t430 true l0_0 l0_1) else ((laws_eqSecStepS.f kj10 t430 t419).bind fun t445 => (if t445 = true then (laws_FnExactWalMend.j1 kj10 t419 t422 t430 (t433 != t422) l0_0 l0_1) else (laws_FnExactWalMend.j1 kj10 t419 t422 t430 true l0_0 l0_1)))) = some r := H
      have A40 := Aside0.mk A400
      clear A400
      have HC41 := Aside0.mk H
      clear H
      try go_wp2
      have n0_ := Aside0.mk (Kd.R_drew HO_4.out)
      have n1_ := Aside0.mk (Kd.R_drew HO_7.out)
      have n2_ := Aside0.mk (Kd.R_drew HO_430000.out)
      have n3_ := Aside0.mk (Kd.R_drew HO_430001.out)
      have n4_ := Aside0.mk (blk_drew BK411.out)
      have n5_ := Aside0.mk (blk_drew BK429.out)
      have n6_ := Aside0.mk (below_drew1 HB.out)
      clear HO_4
      clear HO_7
      clear HO_430000
      clear HO_430001
      clear BK411
      clear BK429
      clear HB
      have HO_4 := n0_
      have HO_7 := n1_
      have HO_430000 := n2_
      have HO_430001 := n3_
      have BK411 := n4_
      have BK429 := n5_
      have HB := n6_
      clear n0_ n1_ n2_ n3_ n4_ n5_ n6_
      refine start_ (n := 5) (S := fun w' => w'.cell? ⟨gb429, 0, none⟩ = some (.slice Ao23 t423.length co23) ∧ w'.cell? ⟨gb429, 1, none⟩ = some (.slice Ao26 t426.length co26) ∧ w'.cell? ⟨gb411, 0, none⟩ = some (.slice A0_0 l0_0.length c0_0) ∧ w'.cell? ⟨gb411, 1, none⟩ = some (.slice A0_1 l0_1.length c0_1)) (ds := []) #[false, false, false, false, false] (by kernel_rfl) rfl rfl ⟨(blk_cell BK429.out 0).trans rfl, (blk_cell BK429.out 1).trans rfl, (blk_cell BK411.out 0).trans rfl, (blk_cell BK411.out 1).trans rfl⟩ (fun hHeld => ?_)
      generalize wc.drew = w42 at HO_4 HO_7 HO_430000 HO_430001 BK411 BK429 HB hHeld ⊢
      refine take_ (i := 0) (N := some 41) (v := ?_) (a' := ?_) #[true, false, false, false, false] rfl rfl (by kernel_rfl) (fun _ _ _ h => h) (Or.inl ⟨by rfl, ?_⟩) hHeld ?_ ?_
      rotate_left
      ·rintro w' ⟨s0, s1, s2, s3⟩
       go_simp
       with_reducible rfl
      rotate_left
      ·simp only [Act.put, List.setIfInBounds_toArray, List.set_cons_zero, List.set_cons_succ, i64_w, i32_w]
       rfl
      refine take_ (i := 1) (N := some 42) (v := ?_) (a' := ?_) #[true, true, false, false, false] rfl rfl (by kernel_rfl) (fun _ _ _ h => h) (Or.inl ⟨by rfl, ?_⟩) hHeld ?_ ?_
      rotate_left
      ·rintro w' ⟨s0, s1, s2, s3⟩
       go_simp
       with_reducible rfl
      rotate_left
      ·simp only [Act.put, List.setIfInBounds_toArray, List.set_cons_zero, List.set_cons_succ, i64_w, i32_w]
       rfl
      refine one_ (i := 2) (N := some 43) #[true, true, true, false, false] rfl rfl (by kernel_rfl) (by decide) (fun K hK => ?_)
      refine goes_ Try.func13 (by kernel_rfl) rfl #[.agg #[.slice A0_0 l0_0.length c0_0, .slice A0_1 l0_1.length c0_1]] (by rfl) rfl rfl bM ?_
      with_reducible refine (laws_toSecDisk.calls kj10 _ _ l0_0 _ _ l0_1 t435 t438 _ ?side1 ?side2 ?side3 ?side4 A37.out).mono ?_
      (case side1 => exact pC (Kd.C_below HR0_0.out HB.out))
      (case side2 => exact HC0_0.out)
      (case side3 => exact pC (Kd.C_below HR0_1.out HB.out))
      (case side4 => exact HC0_1.out)
      rintro e w43 ⟨v436, v439, rfl, ho0, ho1, hb⟩
      refine ⟨_, rfl, ?_⟩
      have n0_ := Aside0.mk (Kd.R_below (pR HO_4.out) hb)
      have n1_ := Aside0.mk (Kd.R_below (pR HO_7.out) hb)
      have n2_ := Aside0.mk (Kd.R_elder' (pR HO_430000.out) (Kd.R_base ho0) hb)
      have n3_ := Aside0.mk (Kd.R_elder' (pR HO_430001.out) (Kd.R_base ho1) hb)
      have n4_ := Aside0.mk (Kd.R_lower (Kd.R_new' ho0 (Kd.R_lt (pR HO_430000.out))) (below_size (pS HB.out)))
      have n5_ := Aside0.mk (Kd.R_lower (Kd.R_new' ho1 (Kd.R_lt (pR HO_430001.out))) (below_size (pS HB.out)))
      have n6_ := Aside0.mk (blk_below (pK BK411.out) hb)
      have n7_ := Aside0.mk (blk_below (pK BK429.out) hb)
      have n8_ := Aside0.mk (below_step (pS HB.out) hb)
      clear HO_4
      clear HO_7
      clear HO_430000
      clear HO_430001
      clear BK411
      clear BK429
      clear HB
      have HO_4 := n0_
      have HO_7 := n1_
      have HO_430000 := n2_
      have HO_430001 := n3_
      have HO437 := n4_
      have HO440 := n5_
      have BK411 := n6_
      have BK429 := n7_
      have HB := n8_
      clear n0_ n1_ n2_ n3_ n4_ n5_ n6_ n7_ n8_
      (try clear hb)
      (try clear hb2)
      (try clear hk)
      (try clear hi)
      (try clear ho0)
      (try clear ho1)
      obtain ⟨Ao44, co44, eo44⟩ := Kd.R_slice HO437.out
      (first | subst eo44 | (injection eo44 with f1_ f2_ f3_; have f4_ := f1_.symm; have f5_ := f3_.symm; clear f1_ f2_ f3_; subst f4_; subst f5_))
      obtain ⟨Ao45, co45, eo45⟩ := Kd.R_slice HO440.out
      (first | subst eo45 | (injection eo45 with f1_ f2_ f3_; have f4_ := f1_.symm; have f5_ := f3_.symm; clear f1_ f2_ f3_; subst f4_; subst f5_))
      refine hK.out _ _ ⟨(blk_cell BK429.out 0).trans rfl, (blk_cell BK429.out 1).trans rfl, (blk_cell BK411.out 0).trans rfl, (blk_cell BK411.out 1).trans rfl⟩ (fun hHeld => ?_)
      clear hK K
      refine norm_ (a' := ?_) ?_ ?_
      rotate_left
      ·show Act.put _ (some 43) _ = _
       simp only [Act.put, List.setIfInBounds_toArray, List.set_cons_zero, List.set_cons_succ, i64_w, i32_w]
       rfl
      refine one_ (i := 3) (N := some 44) #[true, true, true, true, false] rfl rfl (by kernel_rfl) (by decide) (fun K hK => ?_)
      refine goes_ Try.func16 (by kernel_rfl) rfl #[.agg #[.slice Ao23 t423.length co23, .slice Ao26 t426.length co26], .agg #[.slice Ao44 t435.length co44, .slice Ao45 t438.length co45]] (by rfl) rfl rfl bM ?_
      with_reducible refine (laws_eqSecDisk.calls kj10 _ _ t423 _ _ t426 _ _ t435 _ _ t438 true _ ?side1 ?side2 ?side3 ?side4 ?side5 ?side6 ?side7 ?side8 A38.out).mono ?_
      (case side1 => exact pC (Kd.R_reads' HO_430000.out).2.2)
      (case side2 => exact (Kd.R_reads' HO_430000.out).2.1)
      (case side3 => exact pC (Kd.R_reads' HO_430001.out).2.2)
      (case side4 => exact (Kd.R_reads' HO_430001.out).2.1)
      (case side5 => exact pC (Kd.R_reads' HO437.out).2.2)
      (case side6 => exact (Kd.R_reads' HO437.out).2.1)
      (case side7 => exact pC (Kd.R_reads' HO440.out).2.2)
      (case side8 => exact (Kd.R_reads' HO440.out).2.1)
      rintro e w46 ⟨rfl, hb⟩
      refine ⟨_, rfl, ?_⟩
      have n0_ := Aside0.mk (Kd.R_below (pR HO_4.out) hb)
      have n1_ := Aside0.mk (Kd.R_below (pR HO_7.out) hb)
      have n2_ := Aside0.mk (Kd.R_below (pR HO_430000.out) hb)
      have n3_ := Aside0.mk (Kd.R_below (pR HO_430001.out) hb)
      have n4_ := Aside0.mk (Kd.R_below (pR HO437.out) hb)
      have n5_ := Aside0.mk (Kd.R_below (pR HO440.out) hb)
      have n6_ := Aside0.mk (blk_below (pK BK411.out) hb)
      have n7_ := Aside0.mk (blk_below (pK BK429.out) hb)
      have n8_ := Aside0.mk (below_step (pS HB.out) hb)
      clear HO_4
      clear HO_7
      clear HO_430000
      clear HO_430001
      clear HO437
      clear HO440
      clear BK411
      clear BK429
      clear HB
      have HO_4 := n0_
      have HO_7 := n1_
      have HO_430000 := n2_
      have HO_430001 := n3_
      have HO437 := n4_
      have HO440 := n5_
      have BK411 := n6_
      have BK429 := n7_
      have HB := n8_
      clear n0_ n1_ n2_ n3_ n4_ n5_ n6_ n7_ n8_
      (try clear hb)
      (try clear hb2)
      (try clear hk)
      (try clear hi)
      refine hK.out _ _ ⟨(blk_cell BK429.out 0).trans rfl, (blk_cell BK429.out 1).trans rfl, (blk_cell BK411.out 0).trans rfl, (blk_cell BK411.out 1).trans rfl⟩ (fun hHeld => ?_)
      clear hK K
      refine norm_ (a' := ?_) ?_ ?_
      rotate_left
      ·show Act.put _ (some 44) _ = _
       simp only [Act.put, List.setIfInBounds_toArray, List.set_cons_zero, List.set_cons_succ, i64_w, i32_w]
       rfl
      refine pure_ (i := 4) (N := some 45) (v := ?_) (a' := ?_) #[true, true, true, true, true] rfl rfl (by kernel_rfl) (fun _ _ _ h => h) (Or.inl ⟨by rfl, ?_⟩) ?_ ?_
      rotate_left
      ·intro w'
       go_simp
       with_reducible rfl
      rotate_left
      ·simp only [Act.put, List.setIfInBounds_toArray, List.set_cons_zero, List.set_cons_succ, i64_w, i32_w]
       rfl
      refine done_ (by kernel_rfl) ?_
      have hnb47 := NB429_411.out
      have hnc47 := NB411_429.out
      have hcz48_0 : w46.cell? ⟨gb429, 0, none⟩ = some (.slice Ao23 t423.length co23) := (blk_cell BK429.out 0).trans rfl
      have hcz48_1 : w46.cell? ⟨gb429, 1, none⟩ = some (.slice Ao26 t426.length co26) := (blk_cell BK429.out 1).trans rfl
      have hfz48_0 := blk_frozen BK429.out 0
      have hfz48_1 := blk_frozen BK429.out 1
      go_upto_region 14 with (first | ((with_reducible refine gate_callee (f := 17) rfl ?_); refine goesL_ (some 48) rfl rfl Try.func17 (by kernel_rfl) rfl #[.agg #[.slice Ao23 t423.length co23, .slice Ao26 t426.length co26], .int .i64 1] rfl bM ?_; (with_reducible refine (laws_markSecDisk.calls kj10 (fun k_ => some k_ = (.slice Ao23 t423.length co23 : Value).ownBlock) (.slice Ao23 t423.length co23) t423 (fun k_ => some k_ = (.slice Ao26 t426.length co26 : Value).ownBlock) (.slice Ao26 t426.length co26) t426 1 t442 t443 t444 w _ ?side1 ?side2 ?side3 A40.out).mono ?_); (case side1 => repeat (first | (with_reducible first | exact HB.out | apply below_alloc | apply pw_below_drewN | apply below_drew1 | refine below_set ?_ GE411.out | refine below_set ?_ GE429.out) | exact HB.out)); (case side2 => exact Kd.R_tight rfl HO_430000.out); (case side3 => exact Kd.R_tight rfl HO_430001.out); rintro e w49 ⟨rfl, hy0, hy1, hb, hkp⟩; refine ⟨_, rfl, ?_⟩; have n0_ := Aside0.mk (Kd.R_mono (ok' := fun k_ => some k_ ≠ (v431 : Value).ownBlock) (Kd.R_keptB ((Kd.R_apart' (Kd.R_apart' HO_4.out (Kd.R_typed HO_430000.out) (by decide)) (Kd.R_typed HO_430001.out) (by decide))) hkp (fun k_ hk_ hs_ => Or.elim hs_ (fun e_ => (hk_.1.2) e_) (fun e_ => (hk_.2) e_))) (fun k_ hk_ => hk_.1.1.1)); have n1_ := Aside0.mk (Kd.R_mono (ok' := fun k_ => some k_ ≠ (v420 : Value).ownBlock) (Kd.R_keptB ((Kd.R_apart' (Kd.R_apart' HO_7.out (Kd.R_typed HO_430000.out) (by decide)) (Kd.R_typed HO_430001.out) (by decide))) hkp (fun k_ hk_ hs_ => Or.elim hs_ (fun e_ => (hk_.1.2) e_) (fun e_ => (hk_.2) e_))) (fun k_ hk_ => hk_.1.1.1)); have n2_ := Aside0.mk (Kd.R_reok rfl hy0 (fun k_ e_ => HO_430000.out.1 k_ e_)); have n3_ := Aside0.mk (Kd.R_reok rfl hy1 (fun k_ e_ => HO_430001.out.1 k_ e_)); have n4_ := Aside0.mk (blk_kept (pK BK411.out) hkp (fun hs_ => Or.elim hs_ (fun e_ => (fun e_ => (Kd.R_ne HO_430000.out BK411.out (by decide)) e_) e_) (fun e_ => (fun e_ => (Kd.R_ne HO_430001.out BK411.out (by decide)) e_) e_))); have n5_ := Aside0.mk (blk_kept (pK BK429.out) hkp (fun hs_ => Or.elim hs_ (fun e_ => (fun e_ => (Kd.R_ne HO_430000.out BK429.out (by decide)) e_) e_) (fun e_ => (fun e_ => (Kd.R_ne HO_430001.out BK429.out (by decide)) e_) e_))); have n6_ := Aside0.mk (Kd.R_mono (ok' := fun k_ => some k_ ≠ (.slice Ao23 t423.length co23 : Value).ownBlock) (Kd.R_keptB ((Kd.R_apart' HO437.out (Kd.R_typed HO_430001.out) (by decide))) hkp (fun k_ hk_ hs_ => Or.elim hs_ (fun e_ => (hk_.1.2) e_) (fun e_ => (hk_.2) e_))) (fun k_ hk_ => hk_.1.1.2)); have n7_ := Aside0.mk (Kd.R_mono (ok' := fun k_ => some k_ ≠ (.slice Ao26 t426.length co26 : Value).ownBlock) (Kd.R_keptB ((Kd.R_apart' HO440.out (Kd.R_typed HO_430000.out) (by decide))) hkp (fun k_ hk_ hs_ => Or.elim hs_ (fun e_ => (hk_.2) e_) (fun e_ => (hk_.1.2) e_))) (fun k_ hk_ => hk_.1.1.2)); have n8_ := Aside0.mk (hb); clear HO_4; clear HO_7; clear HO_430000; clear HO_430001; clear BK411; clear BK429; clear HO437; clear HO440; clear HB; have HO_4 := n0_; have HO_7 := n1_; have HO_430000 := n2_; have HO_430001 := n3_; have BK411 := n4_; have BK429 := n5_; have HO437 := n6_; have HO440 := n7_; have HB := n8_; clear n0_ n1_ n2_ n3_ n4_ n5_ n6_ n7_ n8_; (try clear hb); (try clear hkp); (try clear hy0); (try clear hy1)))
      (try simp only [Act.put, List.setIfInBounds_toArray, List.set_cons_zero, List.set_cons_succ])
      go_cut [61] (fun v61 wc => ∃ (kq : Nat) (x61_40 : Bool), v61 = .bool x61_40 ∧ Aside0 (laws_FnExactWalMend.j1 kq t419 t422 t430 x61_40 l0_0 l0_1 = some r) ∧ Aside0 (kq ≤ kj10) ∧ Aside0 (Kd.R k61 61 wc w.heap.size (fun k_ => some k_ ≠ (v431 : Value).ownBlock) v420 t419) ∧ Aside0 (Kd.R k61 61 wc w.heap.size (fun k_ => some k_ ≠ (v420 : Value).ownBlock) v431 t430) ∧ Aside0 (Kd.R Kd.string 9 wc w.heap.size (fun _ => True) (.slice Ao23 t423.length co23) t443) ∧ Aside0 (Kd.R k75 75 wc w.heap.size (fun _ => True) (.slice Ao26 t426.length co26) t444) ∧ Aside0 (wc.heap[gb411]? = some (.cells #[(.slice A0_0 l0_0.length c0_0), (.slice A0_1 l0_1.length c0_1)] 25 (0, 0))) ∧ Aside0 (wc.heap[gb429]? = some (.cells #[(.slice Ao23 t423.length co23), (.slice Ao26 t426.length co26)] 31 (0, 0))) ∧ Aside0 (Below w.heap.size w wc))
      case first =>
       have H := HC41.out
       clear HC41
       by_cases c50 : t442 < 0
       ·rw [if_pos c50] at H
        have c50b0 : decide (t442 < 0) = true := decide_eq_true c50
        clear c50
        (first | rw [c50b0] | (simp only [i64_w, i32_w]; rw [c50b0]) | skip)
        have H' := Aside0.mk H
        clear H
        go_wp2
        go_meet
        case rel => exact ⟨_, (true), (by first | rfl | (simp; done) | (simp [*]; done)), H', ⟨by have := HJ10.out; first | omega | exact Nat.le_refl _⟩, ⟨pR HO_4.out⟩, ⟨pR HO_7.out⟩, ⟨pR (Kd.R_mono HO_430000.out (fun _ hk => trivial))⟩, ⟨pR (Kd.R_mono HO_430001.out (fun _ hk => trivial))⟩, ⟨pK BK411.out⟩, ⟨pK BK429.out⟩, ⟨pS HB.out⟩⟩
       ·rw [if_neg c50] at H
        have c50b0 : decide (t442 < 0) = false := decide_eq_false c50
        clear c50
        (first | rw [c50b0] | (simp only [i64_w, i32_w]; rw [c50b0]) | skip)
        replace H := Option.bind_eq_some_iff.mp H
        obtain ⟨t445, A510, H⟩ := H
        replace H : (if t445 = true then (laws_FnExactWalMend.j1 kj10 t419 t422 t430 (t433 != t422) l0_0 l0_1) else (laws_FnExactWalMend.j1 kj10 t419 t422 t430 true l0_0 l0_1)) = some r := H
        have A51 := Aside0.mk A510
        clear A510
        by_cases c52 : t445 = true
        ·subst c52
         have H1 : (laws_FnExactWalMend.j1 kj10 t419 t422 t430 (t433 != t422) l0_0 l0_1) = some r := by rw [if_pos rfl] at H; exact H
         clear H
         have H := H1
         clear H1
         have H' := Aside0.mk H
         clear H
         obtain ⟨Ao53, co53, eo53⟩ := Kd.R_slice HO_7.out
         subst eo53
         obtain ⟨Ao54, co54, eo54⟩ := Kd.R_slice HO_4.out
         subst eo54
         go_wp2_with (first | (go_at_call 22; (with_reducible refine (laws_eqSecStepS.calls kj10 _ _ t430 _ _ t419 true _ ?side1 ?side2 ?side3 ?side4 A51.out).mono ?_); (case side1 => exact pC (Kd.R_reads' HO_7.out).2.2); (case side2 => exact (Kd.R_reads' HO_7.out).2.1); (case side3 => exact pC (Kd.R_reads' HO_4.out).2.2); (case side4 => exact (Kd.R_reads' HO_4.out).2.1); rintro e w55 ⟨rfl, hb⟩; have n0_ := Aside0.mk (Kd.R_below (pR HO_4.out) hb); have n1_ := Aside0.mk (Kd.R_below (pR HO_7.out) hb); have n2_ := Aside0.mk (Kd.R_below (pR HO_430000.out) hb); have n3_ := Aside0.mk (Kd.R_below (pR HO_430001.out) hb); have n4_ := Aside0.mk (Kd.R_below (pR HO437.out) hb); have n5_ := Aside0.mk (Kd.R_below (pR HO440.out) hb); have n6_ := Aside0.mk (blk_below (pK BK411.out) hb); have n7_ := Aside0.mk (blk_below (pK BK429.out) hb); have n8_ := Aside0.mk (below_step (pS HB.out) hb); clear HO_4; clear HO_7; clear HO_430000; clear HO_430001; clear HO437; clear HO440; clear BK411; clear BK429; clear HB; have HO_4 := n0_; have HO_7 := n1_; have HO_430000 := n2_; have HO_430001 := n3_; have HO437 := n4_; have HO440 := n5_; have BK411 := n6_; have BK429 := n7_; have HB := n8_; clear n0_ n1_ n2_ n3_ n4_ n5_ n6_ n7_ n8_; (try clear hb); (try clear hb2); (try clear hk); (try clear hi)))
         go_meet
         case rel => exact ⟨_, ((t433 != t422)), (by first | rfl | (simp; done) | (simp [*]; done)), H', ⟨by have := HJ10.out; first | omega | exact Nat.le_refl _⟩, ⟨pR HO_4.out⟩, ⟨pR HO_7.out⟩, ⟨pR (Kd.R_mono HO_430000.out (fun _ hk => trivial))⟩, ⟨pR (Kd.R_mono HO_430001.out (fun _ hk => trivial))⟩, ⟨pK BK411.out⟩, ⟨pK BK429.out⟩, ⟨pS HB.out⟩⟩
        ·replace c52 := Bool.eq_false_iff.mpr c52
         subst c52
         have H1 : (laws_FnExactWalMend.j1 kj10 t419 t422 t430 true l0_0 l0_1) = some r := by rw [if_neg (show ¬ (false = true) by decide)] at H; exact H
         clear H
         have H := H1
         clear H1
         have H' := Aside0.mk H
         clear H
         obtain ⟨Ao56, co56, eo56⟩ := Kd.R_slice HO_7.out
         subst eo56
         obtain ⟨Ao57, co57, eo57⟩ := Kd.R_slice HO_4.out
         subst eo57
         go_wp2_with (first | (go_at_call 22; (with_reducible refine (laws_eqSecStepS.calls kj10 _ _ t430 _ _ t419 false _ ?side1 ?side2 ?side3 ?side4 A51.out).mono ?_); (case side1 => exact pC (Kd.R_reads' HO_7.out).2.2); (case side2 => exact (Kd.R_reads' HO_7.out).2.1); (case side3 => exact pC (Kd.R_reads' HO_4.out).2.2); (case side4 => exact (Kd.R_reads' HO_4.out).2.1); rintro e w58 ⟨rfl, hb⟩; have n0_ := Aside0.mk (Kd.R_below (pR HO_4.out) hb); have n1_ := Aside0.mk (Kd.R_below (pR HO_7.out) hb); have n2_ := Aside0.mk (Kd.R_below (pR HO_430000.out) hb); have n3_ := Aside0.mk (Kd.R_below (pR HO_430001.out) hb); have n4_ := Aside0.mk (Kd.R_below (pR HO437.out) hb); have n5_ := Aside0.mk (Kd.R_below (pR HO440.out) hb); have n6_ := Aside0.mk (blk_below (pK BK411.out) hb); have n7_ := Aside0.mk (blk_below (pK BK429.out) hb); have n8_ := Aside0.mk (below_step (pS HB.out) hb); clear HO_4; clear HO_7; clear HO_430000; clear HO_430001; clear HO437; clear HO440; clear BK411; clear BK429; clear HB; have HO_4 := n0_; have HO_7 := n1_; have HO_430000 := n2_; have HO_430001 := n3_; have HO437 := n4_; have HO440 := n5_; have BK411 := n6_; have BK429 := n7_; have HB := n8_; clear n0_ n1_ n2_ n3_ n4_ n5_ n6_ n7_ n8_; (try clear hb); (try clear hb2); (try clear hk); (try clear hi)))
         go_meet
         case rel => exact ⟨_, (true), (by first | rfl | (simp; done) | (simp [*]; done)), H', ⟨by have := HJ10.out; first | omega | exact Nat.le_refl _⟩, ⟨pR HO_4.out⟩, ⟨pR HO_7.out⟩, ⟨pR (Kd.R_mono HO_430000.out (fun _ hk => trivial))⟩, ⟨pR (Kd.R_mono HO_430001.out (fun _ hk => trivial))⟩, ⟨pK BK411.out⟩, ⟨pK BK429.out⟩, ⟨pS HB.out⟩⟩
      case rest =>
       clear HC41
       try clear c1
       try clear c2
       try clear p2
       try clear c3
       try clear c3b0
       try clear c4
       try clear c5
       try clear c11
       try clear c13
       try clear c16
       try clear c17
       try clear c20
       try clear c21
       try clear c22
       try clear c24
       try clear c29
       try clear c36
       try clear c39
       try clear c47
       try clear c50
       try clear c50b0
       try clear c52
       try clear hcz13_0
       try clear hcz13_1
       try clear hcz15_0
       try clear hcz15_1
       try clear hcz20_0
       try clear hcz20_1
       try clear hcz25_0
       try clear hcz25_1
       try clear hcz48_0
       try clear hcz48_1
       try clear hcz5_0
       try clear hcz5_1
       try clear hfz13_0
       try clear hfz13_1
       try clear hfz15_0
       try clear hfz15_1
       try clear hfz20_0
       try clear hfz20_1
       try clear hfz25_0
       try clear hfz25_1
       try clear hfz48_0
       try clear hfz48_1
       try clear hfz5_0
       try clear hfz5_1
       try clear p2
       obtain ⟨kq, x61_40, rfl, HA, HJ40, HO_4, HO_7, HO_430000, HO_430001, BK411, BK429, HB⟩ := hcut
       have hl430000_40 := (Kd.R_reads' HO_430000.out).1
       rw [hl430000_40] at HO_430000
       (try simp only [hl430000_40])
       (try simp only [hl430000_40] at BK411)
       (try simp only [hl430000_40] at BK429)
       (try simp only [hl430000_40] at HO_4)
       (try simp only [hl430000_40] at HO_7)
       (try simp only [hl430000_40] at HO_430001)
       have hl430001_40 := (Kd.R_reads' HO_430001.out).1
       rw [hl430001_40] at HO_430001
       (try simp only [hl430001_40])
       (try simp only [hl430001_40] at BK411)
       (try simp only [hl430001_40] at BK429)
       (try simp only [hl430001_40] at HO_4)
       (try simp only [hl430001_40] at HO_7)
       (try simp only [hl430001_40] at HO_430000)
       cases kq with
       | zero => exact absurd HA.out (by simp [laws_FnExactWalMend.j1])
       | succ kj40 =>
        have H := HA.out
        clear HA
        simp only [laws_FnExactWalMend.j1] at H
        by_cases c59 : x61_40 = true
        ·subst c59
         have H1 : (some false) = some r := by rw [if_pos rfl] at H; exact H
         clear H
         have H := H1
         clear H1
         obtain rfl := Option.some.inj H
         go_wp2
         go_ret
         exact ⟨by first | rfl | (simp [errW_none, errW_some] <;> rfl) | (simp [*, errW_none, errW_some] <;> rfl), pS HB.out⟩
        ·replace c59 := Bool.eq_false_iff.mpr c59
         subst c59
         have H1 : ((laws_markSecStepS.f kj40 t430 1).bind fun bt446 => ((laws_heldSecStepS.f kj40 bt446.2 1).bind fun t448 => (if t448 < 0 then (some false) else (if t448 = bt446.1 then ((laws_toSecDisk.f kj40 l0_0 l0_1).bind fun bt449 => ((impl_WalMend.f kj40 bt449.1 bt449.2).bind fun bt455 => ((laws_eqSecStepS.f kj40 bt455.1 t419).bind fun t459 => (if t459 = true then (laws_FnExactWalMend.j2 kj40 bt446.2 bt446.1 (bt455.2 != t422)) else (laws_FnExactWalMend.j2 kj40 bt446.2 bt446.1 true))))) else (some false))))) = some r := by rw [if_neg (show ¬ (false = true) by decide)] at H; exact H
         clear H
         have H := H1
         clear H1
         replace H := Option.bind_eq_some_iff.mp H
         obtain ⟨⟨t446, t447⟩, A600, H⟩ := H
         replace H : ((laws_heldSecStepS.f kj40 t447 1).bind fun t448 => (if t448 < 0 then (some false) else (if t448 = t446 then ((laws_toSecDisk.f kj40 l0_0 l0_1).bind fun bt449 => ((impl_WalMend.f kj40 bt449.1 bt449.2).bind fun bt455 => ((laws_eqSecStepS.f kj40 bt455.1 t419).bind fun t459 => (if t459 = true then (laws_FnExactWalMend.j2 kj40 t447 t446 (bt455.2 != t422)) else (laws_FnExactWalMend.j2 kj40 t447 t446 true))))) else (some false)))) = some r := H
         have A60 := Aside0.mk A600
         clear A600
         replace H := Option.bind_eq_some_iff.mp H
         obtain ⟨t448, A610, H⟩ := H
         replace H : (if t448 < 0 then (some false) else (if t448 = t446 then ((laws_toSecDisk.f kj40 l0_0 l0_1).bind fun bt449 => ((impl_WalMend.f kj40 bt449.1 bt449.2).bind fun bt455 => ((laws_eqSecStepS.f kj40 bt455.1 t419).bind fun t459 => (if t459 = true then (laws_FnExactWalMend.j2 kj40 t447 t446 (bt455.2 != t422)) else (laws_FnExactWalMend.j2 kj40 t447 t446 true))))) else (some false))) = some r := H
         have A61 := Aside0.mk A610
         clear A610
         by_cases c62 : t448 < 0
         ·rw [if_pos c62] at H
          have c62b0 : decide (t448 < 0) = true := decide_eq_true c62
          clear c62
          obtain rfl := Option.some.inj H
          obtain ⟨Ao63, co63, eo63⟩ := Kd.R_slice HO_7.out
          subst eo63
          go_wp2_with (first | ((with_reducible refine gate_callee (f := 23) rfl ?_); refine goesL_ (some 64) rfl rfl Try.func23 (by kernel_rfl) rfl #[.slice Ao63 t430.length co63, .int .i64 1] rfl bM ?_; (with_reducible refine (laws_markSecStepS.calls kj40 (fun k_ => some k_ = (.slice Ao63 t430.length co63 : Value).ownBlock) (.slice Ao63 t430.length co63) t430 1 t446 t447 w _ ?side1 ?side2 A60.out).mono ?_); (case side1 => repeat (first | (with_reducible first | exact HB.out | apply below_alloc | apply pw_below_drewN | apply below_drew1 | refine below_set ?_ GE411.out | refine below_set ?_ GE429.out) | exact HB.out)); (case side2 => exact Kd.R_tight rfl HO_7.out); rintro e w64 ⟨rfl, hy0, hb, hkp⟩; refine ⟨_, rfl, ?_⟩; have n0_ := Aside0.mk (Kd.R_mono (ok' := fun k_ => some k_ ≠ (.slice Ao63 t430.length co63 : Value).ownBlock) (Kd.R_keptB (HO_4.out) hkp (fun k_ hk_ hs_ => (hk_) hs_)) (fun k_ hk_ => hk_.1)); have n1_ := Aside0.mk (Kd.R_reok rfl hy0 (fun k_ e_ => HO_7.out.1 k_ e_)); have n2_ := Aside0.mk (Kd.R_mono (ok' := fun k_ => True) (Kd.R_keptB ((Kd.R_apart' HO_430000.out (Kd.R_typed HO_7.out) (by decide))) hkp (fun k_ hk_ hs_ => (hk_.2) hs_)) (fun k_ hk_ => trivial)); have n3_ := Aside0.mk (Kd.R_mono (ok' := fun k_ => True) (Kd.R_keptB ((Kd.R_apart' HO_430001.out (Kd.R_typed HO_7.out) (by decide))) hkp (fun k_ hk_ hs_ => (hk_.2) hs_)) (fun k_ hk_ => trivial)); have n4_ := Aside0.mk (blk_kept (pK BK411.out) hkp (fun hs_ => (fun e_ => (Kd.R_ne HO_7.out BK411.out (by decide)) e_) hs_)); have n5_ := Aside0.mk (blk_kept (pK BK429.out) hkp (fun hs_ => (fun e_ => (Kd.R_ne HO_7.out BK429.out (by decide)) e_) hs_)); have n6_ := Aside0.mk (hb); clear HO_4; clear HO_7; clear HO_430000; clear HO_430001; clear BK411; clear BK429; clear HB; have HO_4 := n0_; have HO_7 := n1_; have HO_430000 := n2_; have HO_430001 := n3_; have BK411 := n4_; have BK429 := n5_; have HB := n6_; clear n0_ n1_ n2_ n3_ n4_ n5_ n6_; (try clear hb); (try clear hkp); (try clear hy0)) | ((with_reducible refine gate_callee (f := 24) rfl ?_); refine goesL_ (some 67) rfl rfl Try.func24 (by kernel_rfl) rfl #[.slice Ao63 t447.length co63, .int .i64 1] rfl (by (try simp only [List.map_toArray, List.map_cons, List.map_nil]); first | done | (rw [show t447.length = t430.length from (Kd.R_reads' HO_7.out).1.symm] <;> rfl) | rfl | (simp only [List.length_drop, List.length_take]; rfl)) ?_; (with_reducible refine (laws_heldSecStepS.calls kj40 _ _ t447 1 t448 _ ?side1 ?side2 A61.out).mono ?_); (case side1 => exact pC (Kd.R_reads' HO_7.out).2.2); (case side2 => rw [show t447.length = t430.length from (Kd.R_reads' HO_7.out).1.symm]; exact (Kd.R_reads' HO_7.out).2.1); rintro e w65 ⟨rfl, hb⟩; refine ⟨_, rfl, ?_⟩; have n0_ := Aside0.mk (Kd.R_below (pR HO_4.out) hb); have n1_ := Aside0.mk (Kd.R_below (pR HO_7.out) hb); have n2_ := Aside0.mk (Kd.R_below (pR HO_430000.out) hb); have n3_ := Aside0.mk (Kd.R_below (pR HO_430001.out) hb); have n4_ := Aside0.mk (blk_below (pK BK411.out) hb); have n5_ := Aside0.mk (blk_below (pK BK429.out) hb); have n6_ := Aside0.mk (below_step (pS HB.out) hb); clear HO_4; clear HO_7; clear HO_430000; clear HO_430001; clear BK411; clear BK429; clear HB; have HO_4 := n0_; have HO_7 := n1_; have HO_430000 := n2_; have HO_430001 := n3_; have BK411 := n4_; have BK429 := n5_; have HB := n6_; clear n0_ n1_ n2_ n3_ n4_ n5_ n6_; (try clear hb); (try clear hb2); (try clear hk); (try clear hi)))
          go_ret
          exact ⟨by first | rfl | (simp [errW_none, errW_some] <;> rfl) | (simp [*, errW_none, errW_some] <;> rfl), pS HB.out⟩
         ·rw [if_neg c62] at H
          have c62b0 : decide (t448 < 0) = false := decide_eq_false c62
          clear c62
          by_cases c66 : t448 = t446
          ·rw [if_pos c66] at H
           have c66b0 : (t448 == t446) = true := beq_iff_eq.mpr c66
           have c66b1 : (t448 != t446) = false := bne_eq_false_iff_eq.mpr c66
           clear c66
           replace H := Option.bind_eq_some_iff.mp H
           obtain ⟨⟨t449, t452⟩, A670, H⟩ := H
           replace H : ((impl_WalMend.f kj40 t449 t452).bind fun bt455 => ((laws_eqSecStepS.f kj40 bt455.1 t419).bind fun t459 => (if t459 = true then (laws_FnExactWalMend.j2 kj40 t447 t446 (bt455.2 != t422)) else (laws_FnExactWalMend.j2 kj40 t447 t446 true)))) = some r := H
           have A67 := Aside0.mk A670
           clear A670
           replace H := Option.bind_eq_some_iff.mp H
           obtain ⟨⟨t455, t458⟩, A680, H⟩ := H
           replace H : ((laws_eqSecStepS.f kj40 t455 t419).bind fun t459 => (if t459 = true then (laws_FnExactWalMend.j2 kj40 t447 t446 (t458 != t422)) else (laws_FnExactWalMend.j2 kj40 t447 t446 true))) = some r := H
           have A68 := Aside0.mk A680
           clear A680
           have HC69 := Aside0.mk H
           clear H
           obtain ⟨Ao70, co70, eo70⟩ := Kd.R_slice HO_7.out
           subst eo70
           go_upto_region 25 with (first | ((with_reducible refine gate_callee (f := 23) rfl ?_); refine goesL_ (some 64) rfl rfl Try.func23 (by kernel_rfl) rfl #[.slice Ao70 t430.length co70, .int .i64 1] rfl bM ?_; (with_reducible refine (laws_markSecStepS.calls kj40 (fun k_ => some k_ = (.slice Ao70 t430.length co70 : Value).ownBlock) (.slice Ao70 t430.length co70) t430 1 t446 t447 w _ ?side1 ?side2 A60.out).mono ?_); (case side1 => repeat (first | (with_reducible first | exact HB.out | apply below_alloc | apply pw_below_drewN | apply below_drew1 | refine below_set ?_ GE411.out | refine below_set ?_ GE429.out) | exact HB.out)); (case side2 => exact Kd.R_tight rfl HO_7.out); rintro e w71 ⟨rfl, hy0, hb, hkp⟩; refine ⟨_, rfl, ?_⟩; have n0_ := Aside0.mk (Kd.R_mono (ok' := fun k_ => some k_ ≠ (.slice Ao70 t430.length co70 : Value).ownBlock) (Kd.R_keptB (HO_4.out) hkp (fun k_ hk_ hs_ => (hk_) hs_)) (fun k_ hk_ => hk_.1)); have n1_ := Aside0.mk (Kd.R_reok rfl hy0 (fun k_ e_ => HO_7.out.1 k_ e_)); have n2_ := Aside0.mk (Kd.R_mono (ok' := fun k_ => True) (Kd.R_keptB ((Kd.R_apart' HO_430000.out (Kd.R_typed HO_7.out) (by decide))) hkp (fun k_ hk_ hs_ => (hk_.2) hs_)) (fun k_ hk_ => trivial)); have n3_ := Aside0.mk (Kd.R_mono (ok' := fun k_ => True) (Kd.R_keptB ((Kd.R_apart' HO_430001.out (Kd.R_typed HO_7.out) (by decide))) hkp (fun k_ hk_ hs_ => (hk_.2) hs_)) (fun k_ hk_ => trivial)); have n4_ := Aside0.mk (blk_kept (pK BK411.out) hkp (fun hs_ => (fun e_ => (Kd.R_ne HO_7.out BK411.out (by decide)) e_) hs_)); have n5_ := Aside0.mk (blk_kept (pK BK429.out) hkp (fun hs_ => (fun e_ => (Kd.R_ne HO_7.out BK429.out (by decide)) e_) hs_)); have n6_ := Aside0.mk (hb); clear HO_4; clear HO_7; clear HO_430000; clear HO_430001; clear BK411; clear BK429; clear HB; have HO_4 := n0_; have HO_7 := n1_; have HO_430000 := n2_; have HO_430001 := n3_; have BK411 := n4_; have BK429 := n5_; have HB := n6_; clear n0_ n1_ n2_ n3_ n4_ n5_ n6_; (try clear hb); (try clear hkp); (try clear hy0)) | ((with_reducible refine gate_callee (f := 24) rfl ?_); refine goesL_ (some 67) rfl rfl Try.func24 (by kernel_rfl) rfl #[.slice Ao70 t447.length co70, .int .i64 1] rfl (by (try simp only [List.map_toArray, List.map_cons, List.map_nil]); first | done | (rw [show t447.length = t430.length from (Kd.R_reads' HO_7.out).1.symm] <;> rfl) | rfl | (simp only [List.length_drop, List.length_take]; rfl)) ?_; (with_reducible refine (laws_heldSecStepS.calls kj40 _ _ t447 1 t448 _ ?side1 ?side2 A61.out).mono ?_); (case side1 => exact pC (Kd.R_reads' HO_7.out).2.2); (case side2 => rw [show t447.length = t430.length from (Kd.R_reads' HO_7.out).1.symm]; exact (Kd.R_reads' HO_7.out).2.1); rintro e w72 ⟨rfl, hb⟩; refine ⟨_, rfl, ?_⟩; have n0_ := Aside0.mk (Kd.R_below (pR HO_4.out) hb); have n1_ := Aside0.mk (Kd.R_below (pR HO_7.out) hb); have n2_ := Aside0.mk (Kd.R_below (pR HO_430000.out) hb); have n3_ := Aside0.mk (Kd.R_below (pR HO_430001.out) hb); have n4_ := Aside0.mk (blk_below (pK BK411.out) hb); have n5_ := Aside0.mk (blk_below (pK BK429.out) hb); have n6_ := Aside0.mk (below_step (pS HB.out) hb); clear HO_4; clear HO_7; clear HO_430000; clear HO_430001; clear BK411; clear BK429; clear HB; have HO_4 := n0_; have HO_7 := n1_; have HO_430000 := n2_; have HO_430001 := n3_; have BK411 := n4_; have BK429 := n5_; have HB := n6_; clear n0_ n1_ n2_ n3_ n4_ n5_ n6_; (try clear hb); (try clear hb2); (try clear hk); (try clear hi); have hnb73 := NB411_429.out; have hnc73 := NB429_411.out; have hcz74_0 : w72.cell? ⟨gb411, 0, none⟩ = some (.slice A0_0 l0_0.length c0_0) := (blk_cell BK411.out 0).trans rfl; have hcz74_1 : w72.cell? ⟨gb411, 1, none⟩ = some (.slice A0_1 l0_1.length c0_1) := (blk_cell BK411.out 1).trans rfl; have hfz74_0 := blk_frozen BK411.out 0; have hfz74_1 := blk_frozen BK411.out 1) | ((with_reducible refine gate_callee (f := 13) rfl ?_); refine goesL_ (some 75) rfl rfl Try.func13 (by kernel_rfl) rfl #[.agg #[.slice A0_0 l0_0.length c0_0, .slice A0_1 l0_1.length c0_1]] rfl bM ?_; (with_reducible refine (laws_toSecDisk.calls kj40 _ _ l0_0 _ _ l0_1 t449 t452 _ ?side1 ?side2 ?side3 ?side4 A67.out).mono ?_); (case side1 => exact pC (Kd.C_below HR0_0.out HB.out)); (case side2 => exact HC0_0.out); (case side3 => exact pC (Kd.C_below HR0_1.out HB.out)); (case side4 => exact HC0_1.out); rintro e w75 ⟨v450, v453, rfl, ho0, ho1, hb⟩; refine ⟨_, rfl, ?_⟩; have n0_ := Aside0.mk (Kd.R_below (pR HO_4.out) hb); have n1_ := Aside0.mk (Kd.R_below (pR HO_7.out) hb); have n2_ := Aside0.mk (Kd.R_elder' (pR HO_430000.out) (Kd.R_base ho0) hb); have n3_ := Aside0.mk (Kd.R_elder' (pR HO_430001.out) (Kd.R_base ho1) hb); have n4_ := Aside0.mk (Kd.R_lower (Kd.R_new' ho0 (Kd.R_lt (pR HO_430000.out))) (below_size (pS HB.out))); have n5_ := Aside0.mk (Kd.R_lower (Kd.R_new' ho1 (Kd.R_lt (pR HO_430001.out))) (below_size (pS HB.out))); have n6_ := Aside0.mk (blk_below (pK BK411.out) hb); have n7_ := Aside0.mk (blk_below (pK BK429.out) hb); have n8_ := Aside0.mk (below_step (pS HB.out) hb); clear HO_4; clear HO_7; clear HO_430000; clear HO_430001; clear BK411; clear BK429; clear HB; have HO_4 := n0_; have HO_7 := n1_; have HO_430000 := n2_; have HO_430001 := n3_; have HO451 := n4_; have HO454 := n5_; have BK411 := n6_; have BK429 := n7_; have HB := n8_; clear n0_ n1_ n2_ n3_ n4_ n5_ n6_ n7_ n8_; (try clear hb); (try clear hb2); (try clear hk); (try clear hi); (try clear ho0); (try clear ho1); obtain ⟨Ao76, co76, eo76⟩ := Kd.R_slice HO451.out; subst eo76; obtain ⟨Ao77, co77, eo77⟩ := Kd.R_slice HO454.out; subst eo77) | ((with_reducible refine gate_callee (f := 21) rfl ?_); refine goesL_ (some 76) rfl rfl Try.func21 (by kernel_rfl) rfl #[.agg #[.slice Ao76 t449.length co76, .slice Ao77 t452.length co77]] rfl bM ?_; (with_reducible refine (impl_WalMend.calls kj40 _ _ t449 _ _ t452 t455 t458 _ ?side1 ?side2 ?side3 ?side4 A68.out).mono ?_); (case side1 => exact pC (Kd.R_reads' HO451.out).2.2); (case side2 => exact (Kd.R_reads' HO451.out).2.1); (case side3 => exact pC (Kd.R_reads' HO454.out).2.2); (case side4 => exact (Kd.R_reads' HO454.out).2.1); rintro e w78 ⟨v456, rfl, ho0, hb⟩; refine ⟨_, rfl, ?_⟩; have n0_ := Aside0.mk (Kd.R_elder' (pR HO_4.out) (Kd.R_base ho0) hb); have n1_ := Aside0.mk (Kd.R_elder' (pR HO_7.out) (Kd.R_base ho0) hb); have n2_ := Aside0.mk (Kd.R_below (pR HO_430000.out) hb); have n3_ := Aside0.mk (Kd.R_below (pR HO_430001.out) hb); have n4_ := Aside0.mk (Kd.R_below (pR HO451.out) hb); have n5_ := Aside0.mk (Kd.R_below (pR HO454.out) hb); have n6_ := Aside0.mk (Kd.R_lower (Kd.R_new' (Kd.R_new' ho0 (Kd.R_lt (pR HO_4.out))) (Kd.R_lt (pR HO_7.out))) (below_size (pS HB.out))); have n7_ := Aside0.mk (blk_below (pK BK411.out) hb); have n8_ := Aside0.mk (blk_below (pK BK429.out) hb); have n9_ := Aside0.mk (below_step (pS HB.out) hb); clear HO_4; clear HO_7; clear HO_430000; clear HO_430001; clear HO451; clear HO454; clear BK411; clear BK429; clear HB; have HO_4 := n0_; have HO_7 := n1_; have HO_430000 := n2_; have HO_430001 := n3_; have HO451 := n4_; have HO454 := n5_; have HO457 := n6_; have BK411 := n7_; have BK429 := n8_; have HB := n9_; clear n0_ n1_ n2_ n3_ n4_ n5_ n6_ n7_ n8_ n9_; (try clear hb); (try clear hb2); (try clear hk); (try clear hi); (try clear ho0)))
           (try simp only [Act.put, List.setIfInBounds_toArray, List.set_cons_zero, List.set_cons_succ])
           go_cut [87] (fun v87 wc => ∃ (kq : Nat) (x87_68 : Bool), v87 = .bool x87_68 ∧ Aside0 (laws_FnExactWalMend.j2 kq t447 t446 x87_68 = some r) ∧ Aside0 (kq ≤ kj40) ∧ Aside0 (Kd.R k61 61 wc w.heap.size (fun _ => True) (.slice Ao70 t430.length co70) t447) ∧ Aside0 (Kd.R Kd.string 9 wc w.heap.size (fun _ => True) (.slice Ao23 t443.length co23) t443) ∧ Aside0 (Kd.R k75 75 wc w.heap.size (fun _ => True) (.slice Ao26 t444.length co26) t444) ∧ Aside0 (wc.heap[gb411]? = some (.cells #[(.slice A0_0 l0_0.length c0_0), (.slice A0_1 l0_1.length c0_1)] 25 (0, 0))) ∧ Aside0 (wc.heap[gb429]? = some (.cells #[(.slice Ao23 t443.length co23), (.slice Ao26 t444.length co26)] 31 (0, 0))) ∧ Aside0 (Below w.heap.size w wc))
           case first =>
            have H := HC69.out
            clear HC69
            replace H := Option.bind_eq_some_iff.mp H
            obtain ⟨t459, A790, H⟩ := H
            replace H : (if t459 = true then (laws_FnExactWalMend.j2 kj40 t447 t446 (t458 != t422)) else (laws_FnExactWalMend.j2 kj40 t447 t446 true)) = some r := H
            have A79 := Aside0.mk A790
            clear A790
            by_cases c80 : t459 = true
            ·subst c80
             have H1 : (laws_FnExactWalMend.j2 kj40 t447 t446 (t458 != t422)) = some r := by rw [if_pos rfl] at H; exact H
             clear H
             have H := H1
             clear H1
             have H' := Aside0.mk H
             clear H
             obtain ⟨Ao81, co81, eo81⟩ := Kd.R_slice HO457.out
             subst eo81
             obtain ⟨Ao82, co82, eo82⟩ := Kd.R_slice HO_4.out
             subst eo82
             go_wp2_with (first | ((with_reducible refine gate_callee (f := 22) rfl ?_); refine goesL_ (some 81) rfl rfl Try.func22 (by kernel_rfl) rfl #[.slice Ao81 t455.length co81, .slice Ao82 t419.length co82] rfl bM ?_; (with_reducible refine (laws_eqSecStepS.calls kj40 _ _ t455 _ _ t419 true _ ?side1 ?side2 ?side3 ?side4 A79.out).mono ?_); (case side1 => exact pC (Kd.R_reads' HO457.out).2.2); (case side2 => exact (Kd.R_reads' HO457.out).2.1); (case side3 => exact pC (Kd.R_reads' HO_4.out).2.2); (case side4 => exact (Kd.R_reads' HO_4.out).2.1); rintro e w83 ⟨rfl, hb⟩; refine ⟨_, rfl, ?_⟩; have n0_ := Aside0.mk (Kd.R_below (pR HO_4.out) hb); have n1_ := Aside0.mk (Kd.R_below (pR HO_7.out) hb); have n2_ := Aside0.mk (Kd.R_below (pR HO_430000.out) hb); have n3_ := Aside0.mk (Kd.R_below (pR HO_430001.out) hb); have n4_ := Aside0.mk (Kd.R_below (pR HO451.out) hb); have n5_ := Aside0.mk (Kd.R_below (pR HO454.out) hb); have n6_ := Aside0.mk (Kd.R_below (pR HO457.out) hb); have n7_ := Aside0.mk (blk_below (pK BK411.out) hb); have n8_ := Aside0.mk (blk_below (pK BK429.out) hb); have n9_ := Aside0.mk (below_step (pS HB.out) hb); clear HO_4; clear HO_7; clear HO_430000; clear HO_430001; clear HO451; clear HO454; clear HO457; clear BK411; clear BK429; clear HB; have HO_4 := n0_; have HO_7 := n1_; have HO_430000 := n2_; have HO_430001 := n3_; have HO451 := n4_; have HO454 := n5_; have HO457 := n6_; have BK411 := n7_; have BK429 := n8_; have HB := n9_; clear n0_ n1_ n2_ n3_ n4_ n5_ n6_ n7_ n8_ n9_; (try clear hb); (try clear hb2); (try clear hk); (try clear hi)))
             go_meet
             case rel => exact ⟨_, ((t458 != t422)), (by first | rfl | (simp; done) | (simp [*]; done)), H', ⟨by have := HJ10.out; have := HJ40.out; first | omega | exact Nat.le_refl _⟩, ⟨by (try simp only [hl430000_40]); (try simp only [hl430001_40]); (with_reducible repeat (first | apply Kd.R_alloc | apply Kd.R_drewN | apply Kd.R_drew)); exact Kd.R_mono HO_7.out (fun _ hk => trivial)⟩, ⟨by (try simp only [hl430000_40]); (try simp only [hl430001_40]); (with_reducible repeat (first | apply Kd.R_alloc | apply Kd.R_drewN | apply Kd.R_drew)); exact Kd.R_mono HO_430000.out (fun _ hk => trivial)⟩, ⟨by (try simp only [hl430000_40]); (try simp only [hl430001_40]); (with_reducible repeat (first | apply Kd.R_alloc | apply Kd.R_drewN | apply Kd.R_drew)); exact Kd.R_mono HO_430001.out (fun _ hk => trivial)⟩, ⟨by (try simp only [hl430000_40]); (try simp only [hl430001_40]); (with_reducible repeat (first | refine blk_drewN ?_ _ | refine blk_drew ?_ | refine blk_alloc ?_ _)); exact BK411.out⟩, ⟨by (try simp only [hl430000_40]); (try simp only [hl430001_40]); (with_reducible repeat (first | refine blk_drewN ?_ _ | refine blk_drew ?_ | refine blk_alloc ?_ _)); exact BK429.out⟩, ⟨pS HB.out⟩⟩
            ·replace c80 := Bool.eq_false_iff.mpr c80
             subst c80
             have H1 : (laws_FnExactWalMend.j2 kj40 t447 t446 true) = some r := by rw [if_neg (show ¬ (false = true) by decide)] at H; exact H
             clear H
             have H := H1
             clear H1
             have H' := Aside0.mk H
             clear H
             obtain ⟨Ao84, co84, eo84⟩ := Kd.R_slice HO457.out
             subst eo84
             obtain ⟨Ao85, co85, eo85⟩ := Kd.R_slice HO_4.out
             subst eo85
             go_wp2_with (first | ((with_reducible refine gate_callee (f := 22) rfl ?_); refine goesL_ (some 81) rfl rfl Try.func22 (by kernel_rfl) rfl #[.slice Ao84 t455.length co84, .slice Ao85 t419.length co85] rfl bM ?_; (with_reducible refine (laws_eqSecStepS.calls kj40 _ _ t455 _ _ t419 false _ ?side1 ?side2 ?side3 ?side4 A79.out).mono ?_); (case side1 => exact pC (Kd.R_reads' HO457.out).2.2); (case side2 => exact (Kd.R_reads' HO457.out).2.1); (case side3 => exact pC (Kd.R_reads' HO_4.out).2.2); (case side4 => exact (Kd.R_reads' HO_4.out).2.1); rintro e w86 ⟨rfl, hb⟩; refine ⟨_, rfl, ?_⟩; have n0_ := Aside0.mk (Kd.R_below (pR HO_4.out) hb); have n1_ := Aside0.mk (Kd.R_below (pR HO_7.out) hb); have n2_ := Aside0.mk (Kd.R_below (pR HO_430000.out) hb); have n3_ := Aside0.mk (Kd.R_below (pR HO_430001.out) hb); have n4_ := Aside0.mk (Kd.R_below (pR HO451.out) hb); have n5_ := Aside0.mk (Kd.R_below (pR HO454.out) hb); have n6_ := Aside0.mk (Kd.R_below (pR HO457.out) hb); have n7_ := Aside0.mk (blk_below (pK BK411.out) hb); have n8_ := Aside0.mk (blk_below (pK BK429.out) hb); have n9_ := Aside0.mk (below_step (pS HB.out) hb); clear HO_4; clear HO_7; clear HO_430000; clear HO_430001; clear HO451; clear HO454; clear HO457; clear BK411; clear BK429; clear HB; have HO_4 := n0_; have HO_7 := n1_; have HO_430000 := n2_; have HO_430001 := n3_; have HO451 := n4_; have HO454 := n5_; have HO457 := n6_; have BK411 := n7_; have BK429 := n8_; have HB := n9_; clear n0_ n1_ n2_ n3_ n4_ n5_ n6_ n7_ n8_ n9_; (try clear hb); (try clear hb2); (try clear hk); (try clear hi)))
             go_meet
             case rel => exact ⟨_, (true), (by first | rfl | (simp; done) | (simp [*]; done)), H', ⟨by have := HJ10.out; have := HJ40.out; first | omega | exact Nat.le_refl _⟩, ⟨by (try simp only [hl430000_40]); (try simp only [hl430001_40]); (with_reducible repeat (first | apply Kd.R_alloc | apply Kd.R_drewN | apply Kd.R_drew)); exact Kd.R_mono HO_7.out (fun _ hk => trivial)⟩, ⟨by (try simp only [hl430000_40]); (try simp only [hl430001_40]); (with_reducible repeat (first | apply Kd.R_alloc | apply Kd.R_drewN | apply Kd.R_drew)); exact Kd.R_mono HO_430000.out (fun _ hk => trivial)⟩, ⟨by (try simp only [hl430000_40]); (try simp only [hl430001_40]); (with_reducible repeat (first | apply Kd.R_alloc | apply Kd.R_drewN | apply Kd.R_drew)); exact Kd.R_mono HO_430001.out (fun _ hk => trivial)⟩, ⟨by (try simp only [hl430000_40]); (try simp only [hl430001_40]); (with_reducible repeat (first | refine blk_drewN ?_ _ | refine blk_drew ?_ | refine blk_alloc ?_ _)); exact BK411.out⟩, ⟨by (try simp only [hl430000_40]); (try simp only [hl430001_40]); (with_reducible repeat (first | refine blk_drewN ?_ _ | refine blk_drew ?_ | refine blk_alloc ?_ _)); exact BK429.out⟩, ⟨pS HB.out⟩⟩
           case rest =>
            clear HC69
            try clear c1
            try clear c2
            try clear p2
            try clear c3
            try clear c3b0
            try clear c4
            try clear c5
            try clear c6
            try clear c7
            try clear c8
            try clear c11
            try clear c13
            try clear c16
            try clear c17
            try clear c20
            try clear c21
            try clear c22
            try clear c23
            try clear c24
            try clear c29
            try clear c36
            try clear c39
            try clear c47
            try clear c50
            try clear c50b0
            try clear c52
            try clear c59
            try clear c62
            try clear c62b0
            try clear c66
            try clear c66b0
            try clear c66b1
            try clear c73
            try clear c80
            try clear hcz13_0
            try clear hcz13_1
            try clear hcz15_0
            try clear hcz15_1
            try clear hcz20_0
            try clear hcz20_1
            try clear hcz25_0
            try clear hcz25_1
            try clear hcz48_0
            try clear hcz48_1
            try clear hcz5_0
            try clear hcz5_1
            try clear hcz74_0
            try clear hcz74_1
            try clear hfz13_0
            try clear hfz13_1
            try clear hfz15_0
            try clear hfz15_1
            try clear hfz20_0
            try clear hfz20_1
            try clear hfz25_0
            try clear hfz25_1
            try clear hfz48_0
            try clear hfz48_1
            try clear hfz5_0
            try clear hfz5_1
            try clear hfz74_0
            try clear hfz74_1
            try clear p2
            obtain ⟨kq, x87_68, rfl, HA, HJ68, HO_7, HO_430000, HO_430001, BK411, BK429, HB⟩ := hcut
            have hl7_68 := (Kd.R_reads' HO_7.out).1
            rw [hl7_68] at HO_7
            (try simp only [hl7_68])
            (try simp only [hl7_68] at BK411)
            (try simp only [hl7_68] at BK429)
            (try simp only [hl7_68] at HO_430000)
            (try simp only [hl7_68] at HO_430001)
            cases kq with
            | zero => exact absurd HA.out (by simp [laws_FnExactWalMend.j2])
            | succ kj68 =>
             have H := HA.out
             clear HA
             simp only [laws_FnExactWalMend.j2] at H
             by_cases c87 : x87_68 = true
             ·subst c87
              have H1 : (some false) = some r := by rw [if_pos rfl] at H; exact H
              clear H
              have H := H1
              clear H1
              obtain rfl := Option.some.inj H
              go_wp2
              go_ret
              exact ⟨by first | rfl | (simp [errW_none, errW_some] <;> rfl) | (simp [*, errW_none, errW_some] <;> rfl), pS HB.out⟩
             ·replace c87 := Bool.eq_false_iff.mpr c87
              subst c87
              have H1 : ((laws_heldSecStepS.f kj68 t447 1).bind fun t460 => (if t460 < 0 then (some false) else (if t460 = t446 then (some true) else (some false)))) = some r := by rw [if_neg (show ¬ (false = true) by decide)] at H; exact H
              clear H
              have H := H1
              clear H1
              replace H := Option.bind_eq_some_iff.mp H
              obtain ⟨t460, A880, H⟩ := H
              replace H : (if t460 < 0 then (some false) else (if t460 = t446 then (some true) else (some false))) = some r := H
              have A88 := Aside0.mk A880
              clear A880
              by_cases c89 : t460 < 0
              ·rw [if_pos c89] at H
               have c89b0 : decide (t460 < 0) = true := decide_eq_true c89
               clear c89
               obtain rfl := Option.some.inj H
               go_wp2_with (first | ((with_reducible refine gate_callee (f := 24) rfl ?_); refine goesL_ (some 90) rfl rfl Try.func24 (by kernel_rfl) rfl #[.slice Ao70 t447.length co70, .int .i64 1] rfl bM ?_; (with_reducible refine (laws_heldSecStepS.calls kj68 _ _ t447 1 t460 _ ?side1 ?side2 A88.out).mono ?_); (case side1 => exact pC (Kd.R_reads' HO_7.out).2.2); (case side2 => exact (Kd.R_reads' HO_7.out).2.1); rintro e w90 ⟨rfl, hb⟩; refine ⟨_, rfl, ?_⟩; have n0_ := Aside0.mk (Kd.R_below (pR HO_7.out) hb); have n1_ := Aside0.mk (Kd.R_below (pR HO_430000.out) hb); have n2_ := Aside0.mk (Kd.R_below (pR HO_430001.out) hb); have n3_ := Aside0.mk (blk_below (pK BK411.out) hb); have n4_ := Aside0.mk (blk_below (pK BK429.out) hb); have n5_ := Aside0.mk (below_step (pS HB.out) hb); clear HO_7; clear HO_430000; clear HO_430001; clear BK411; clear BK429; clear HB; have HO_7 := n0_; have HO_430000 := n1_; have HO_430001 := n2_; have BK411 := n3_; have BK429 := n4_; have HB := n5_; clear n0_ n1_ n2_ n3_ n4_ n5_; (try clear hb); (try clear hb2); (try clear hk); (try clear hi)))
               go_ret
               exact ⟨by first | rfl | (simp [errW_none, errW_some] <;> rfl) | (simp [*, errW_none, errW_some] <;> rfl), pS HB.out⟩
              ·rw [if_neg c89] at H
               have c89b0 : decide (t460 < 0) = false := decide_eq_false c89
               clear c89
               by_cases c91 : t460 = t446
               ·rw [if_pos c91] at H
                have c91b0 : (t460 == t446) = true := beq_iff_eq.mpr c91
                have c91b1 : (t460 != t446) = false := bne_eq_false_iff_eq.mpr c91
                clear c91
                obtain rfl := Option.some.inj H
                go_wp2_with (first | ((with_reducible refine gate_callee (f := 24) rfl ?_); refine goesL_ (some 90) rfl rfl Try.func24 (by kernel_rfl) rfl #[.slice Ao70 t447.length co70, .int .i64 1] rfl bM ?_; (with_reducible refine (laws_heldSecStepS.calls kj68 _ _ t447 1 t460 _ ?side1 ?side2 A88.out).mono ?_); (case side1 => exact pC (Kd.R_reads' HO_7.out).2.2); (case side2 => exact (Kd.R_reads' HO_7.out).2.1); rintro e w92 ⟨rfl, hb⟩; refine ⟨_, rfl, ?_⟩; have n0_ := Aside0.mk (Kd.R_below (pR HO_7.out) hb); have n1_ := Aside0.mk (Kd.R_below (pR HO_430000.out) hb); have n2_ := Aside0.mk (Kd.R_below (pR HO_430001.out) hb); have n3_ := Aside0.mk (blk_below (pK BK411.out) hb); have n4_ := Aside0.mk (blk_below (pK BK429.out) hb); have n5_ := Aside0.mk (below_step (pS HB.out) hb); clear HO_7; clear HO_430000; clear HO_430001; clear BK411; clear BK429; clear HB; have HO_7 := n0_; have HO_430000 := n1_; have HO_430001 := n2_; have BK411 := n3_; have BK429 := n4_; have HB := n5_; clear n0_ n1_ n2_ n3_ n4_ n5_; (try clear hb); (try clear hb2); (try clear hk); (try clear hi)))
                go_ret
                exact ⟨by first | rfl | (simp [errW_none, errW_some] <;> rfl) | (simp [*, errW_none, errW_some] <;> rfl), pS HB.out⟩
               ·rw [if_neg c91] at H
                have c91b0 : (t460 == t446) = false := beq_eq_false_iff_ne.mpr c91
                have c91b1 : (t460 != t446) = true := bne_iff_ne.mpr c91
                obtain rfl := Option.some.inj H
                go_wp2_with (first | ((with_reducible refine gate_callee (f := 24) rfl ?_); refine goesL_ (some 90) rfl rfl Try.func24 (by kernel_rfl) rfl #[.slice Ao70 t447.length co70, .int .i64 1] rfl bM ?_; (with_reducible refine (laws_heldSecStepS.calls kj68 _ _ t447 1 t460 _ ?side1 ?side2 A88.out).mono ?_); (case side1 => exact pC (Kd.R_reads' HO_7.out).2.2); (case side2 => exact (Kd.R_reads' HO_7.out).2.1); rintro e w93 ⟨rfl, hb⟩; refine ⟨_, rfl, ?_⟩; have n0_ := Aside0.mk (Kd.R_below (pR HO_7.out) hb); have n1_ := Aside0.mk (Kd.R_below (pR HO_430000.out) hb); have n2_ := Aside0.mk (Kd.R_below (pR HO_430001.out) hb); have n3_ := Aside0.mk (blk_below (pK BK411.out) hb); have n4_ := Aside0.mk (blk_below (pK BK429.out) hb); have n5_ := Aside0.mk (below_step (pS HB.out) hb); clear HO_7; clear HO_430000; clear HO_430001; clear BK411; clear BK429; clear HB; have HO_7 := n0_; have HO_430000 := n1_; have HO_430001 := n2_; have BK411 := n3_; have BK429 := n4_; have HB := n5_; clear n0_ n1_ n2_ n3_ n4_ n5_; (try clear hb); (try clear hb2); (try clear hk); (try clear hi)))
                go_ret
                exact ⟨by first | rfl | (simp [errW_none, errW_some] <;> rfl) | (simp [*, errW_none, errW_some] <;> rfl), pS HB.out⟩
          ·rw [if_neg c66] at H
           have c66b0 : (t448 == t446) = false := beq_eq_false_iff_ne.mpr c66
           have c66b1 : (t448 != t446) = true := bne_iff_ne.mpr c66
           obtain rfl := Option.some.inj H
           obtain ⟨Ao94, co94, eo94⟩ := Kd.R_slice HO_7.out
           subst eo94
           go_wp2_with (first | ((with_reducible refine gate_callee (f := 23) rfl ?_); refine goesL_ (some 64) rfl rfl Try.func23 (by kernel_rfl) rfl #[.slice Ao94 t430.length co94, .int .i64 1] rfl bM ?_; (with_reducible refine (laws_markSecStepS.calls kj40 (fun k_ => some k_ = (.slice Ao94 t430.length co94 : Value).ownBlock) (.slice Ao94 t430.length co94) t430 1 t446 t447 w _ ?side1 ?side2 A60.out).mono ?_); (case side1 => repeat (first | (with_reducible first | exact HB.out | apply below_alloc | apply pw_below_drewN | apply below_drew1 | refine below_set ?_ GE411.out | refine below_set ?_ GE429.out) | exact HB.out)); (case side2 => exact Kd.R_tight rfl HO_7.out); rintro e w95 ⟨rfl, hy0, hb, hkp⟩; refine ⟨_, rfl, ?_⟩; have n0_ := Aside0.mk (Kd.R_mono (ok' := fun k_ => some k_ ≠ (.slice Ao94 t430.length co94 : Value).ownBlock) (Kd.R_keptB (HO_4.out) hkp (fun k_ hk_ hs_ => (hk_) hs_)) (fun k_ hk_ => hk_.1)); have n1_ := Aside0.mk (Kd.R_reok rfl hy0 (fun k_ e_ => HO_7.out.1 k_ e_)); have n2_ := Aside0.mk (Kd.R_mono (ok' := fun k_ => True) (Kd.R_keptB ((Kd.R_apart' HO_430000.out (Kd.R_typed HO_7.out) (by decide))) hkp (fun k_ hk_ hs_ => (hk_.2) hs_)) (fun k_ hk_ => trivial)); have n3_ := Aside0.mk (Kd.R_mono (ok' := fun k_ => True) (Kd.R_keptB ((Kd.R_apart' HO_430001.out (Kd.R_typed HO_7.out) (by decide))) hkp (fun k_ hk_ hs_ => (hk_.2) hs_)) (fun k_ hk_ => trivial)); have n4_ := Aside0.mk (blk_kept (pK BK411.out) hkp (fun hs_ => (fun e_ => (Kd.R_ne HO_7.out BK411.out (by decide)) e_) hs_)); have n5_ := Aside0.mk (blk_kept (pK BK429.out) hkp (fun hs_ => (fun e_ => (Kd.R_ne HO_7.out BK429.out (by decide)) e_) hs_)); have n6_ := Aside0.mk (hb); clear HO_4; clear HO_7; clear HO_430000; clear HO_430001; clear BK411; clear BK429; clear HB; have HO_4 := n0_; have HO_7 := n1_; have HO_430000 := n2_; have HO_430001 := n3_; have BK411 := n4_; have BK429 := n5_; have HB := n6_; clear n0_ n1_ n2_ n3_ n4_ n5_ n6_; (try clear hb); (try clear hkp); (try clear hy0)) | ((with_reducible refine gate_callee (f := 24) rfl ?_); refine goesL_ (some 67) rfl rfl Try.func24 (by kernel_rfl) rfl #[.slice Ao94 t447.length co94, .int .i64 1] rfl (by (try simp only [List.map_toArray, List.map_cons, List.map_nil]); first | done | (rw [show t447.length = t430.length from (Kd.R_reads' HO_7.out).1.symm] <;> rfl) | rfl | (simp only [List.length_drop, List.length_take]; rfl)) ?_; (with_reducible refine (laws_heldSecStepS.calls kj40 _ _ t447 1 t448 _ ?side1 ?side2 A61.out).mono ?_); (case side1 => exact pC (Kd.R_reads' HO_7.out).2.2); (case side2 => rw [show t447.length = t430.length from (Kd.R_reads' HO_7.out).1.symm]; exact (Kd.R_reads' HO_7.out).2.1); rintro e w96 ⟨rfl, hb⟩; refine ⟨_, rfl, ?_⟩; have n0_ := Aside0.mk (Kd.R_below (pR HO_4.out) hb); have n1_ := Aside0.mk (Kd.R_below (pR HO_7.out) hb); have n2_ := Aside0.mk (Kd.R_below (pR HO_430000.out) hb); have n3_ := Aside0.mk (Kd.R_below (pR HO_430001.out) hb); have n4_ := Aside0.mk (blk_below (pK BK411.out) hb); have n5_ := Aside0.mk (blk_below (pK BK429.out) hb); have n6_ := Aside0.mk (below_step (pS HB.out) hb); clear HO_4; clear HO_7; clear HO_430000; clear HO_430001; clear BK411; clear BK429; clear HB; have HO_4 := n0_; have HO_7 := n1_; have HO_430000 := n2_; have HO_430001 := n3_; have BK411 := n4_; have BK429 := n5_; have HB := n6_; clear n0_ n1_ n2_ n3_ n4_ n5_ n6_; (try clear hb); (try clear hb2); (try clear hk); (try clear hi)))
           go_ret
           exact ⟨by first | rfl | (simp [errW_none, errW_some] <;> rfl) | (simp [*, errW_none, errW_some] <;> rfl), pS HB.out⟩
     ·replace c39 := Bool.eq_false_iff.mpr c39
      subst c39
      have H1 : (some false) = some r := by rw [if_neg (show ¬ (false = true) by decide)] at H; exact H
      clear H
      have H := H1
      clear H1
      obtain rfl := Option.some.inj H
      try go_wp2
      have n0_ := Aside0.mk (Kd.R_drew HO_4.out)
      have n1_ := Aside0.mk (Kd.R_drew HO_7.out)
      have n2_ := Aside0.mk (Kd.R_drew HO_430000.out)
      have n3_ := Aside0.mk (Kd.R_drew HO_430001.out)
      have n4_ := Aside0.mk (blk_drew BK411.out)
      have n5_ := Aside0.mk (blk_drew BK429.out)
      have n6_ := Aside0.mk (below_drew1 HB.out)
      clear HO_4
      clear HO_7
      clear HO_430000
      clear HO_430001
      clear BK411
      clear BK429
      clear HB
      have HO_4 := n0_
      have HO_7 := n1_
      have HO_430000 := n2_
      have HO_430001 := n3_
      have BK411 := n4_
      have BK429 := n5_
      have HB := n6_
      clear n0_ n1_ n2_ n3_ n4_ n5_ n6_
      refine start_ (n := 5) (S := fun w' => w'.cell? ⟨gb429, 0, none⟩ = some (.slice Ao23 t423.length co23) ∧ w'.cell? ⟨gb429, 1, none⟩ = some (.slice Ao26 t426.length co26) ∧ w'.cell? ⟨gb411, 0, none⟩ = some (.slice A0_0 l0_0.length c0_0) ∧ w'.cell? ⟨gb411, 1, none⟩ = some (.slice A0_1 l0_1.length c0_1)) (ds := []) #[false, false, false, false, false] (by kernel_rfl) rfl rfl ⟨(blk_cell BK429.out 0).trans rfl, (blk_cell BK429.out 1).trans rfl, (blk_cell BK411.out 0).trans rfl, (blk_cell BK411.out 1).trans rfl⟩ (fun hHeld => ?_)
      generalize wc.drew = w97 at HO_4 HO_7 HO_430000 HO_430001 BK411 BK429 HB hHeld ⊢
      refine take_ (i := 0) (N := some 41) (v := ?_) (a' := ?_) #[true, false, false, false, false] rfl rfl (by kernel_rfl) (fun _ _ _ h => h) (Or.inl ⟨by rfl, ?_⟩) hHeld ?_ ?_
      rotate_left
      ·rintro w' ⟨s0, s1, s2, s3⟩
       go_simp
       with_reducible rfl
      rotate_left
      ·simp only [Act.put, List.setIfInBounds_toArray, List.set_cons_zero, List.set_cons_succ, i64_w, i32_w]
       rfl
      refine take_ (i := 1) (N := some 42) (v := ?_) (a' := ?_) #[true, true, false, false, false] rfl rfl (by kernel_rfl) (fun _ _ _ h => h) (Or.inl ⟨by rfl, ?_⟩) hHeld ?_ ?_
      rotate_left
      ·rintro w' ⟨s0, s1, s2, s3⟩
       go_simp
       with_reducible rfl
      rotate_left
      ·simp only [Act.put, List.setIfInBounds_toArray, List.set_cons_zero, List.set_cons_succ, i64_w, i32_w]
       rfl
      refine one_ (i := 2) (N := some 43) #[true, true, true, false, false] rfl rfl (by kernel_rfl) (by decide) (fun K hK => ?_)
      refine goes_ Try.func13 (by kernel_rfl) rfl #[.agg #[.slice A0_0 l0_0.length c0_0, .slice A0_1 l0_1.length c0_1]] (by rfl) rfl rfl bM ?_
      with_reducible refine (laws_toSecDisk.calls kj10 _ _ l0_0 _ _ l0_1 t435 t438 _ ?side1 ?side2 ?side3 ?side4 A37.out).mono ?_
      (case side1 => exact pC (Kd.C_below HR0_0.out HB.out))
      (case side2 => exact HC0_0.out)
      (case side3 => exact pC (Kd.C_below HR0_1.out HB.out))
      (case side4 => exact HC0_1.out)
      rintro e w98 ⟨v436, v439, rfl, ho0, ho1, hb⟩
      refine ⟨_, rfl, ?_⟩
      have n0_ := Aside0.mk (Kd.R_below (pR HO_4.out) hb)
      have n1_ := Aside0.mk (Kd.R_below (pR HO_7.out) hb)
      have n2_ := Aside0.mk (Kd.R_elder' (pR HO_430000.out) (Kd.R_base ho0) hb)
      have n3_ := Aside0.mk (Kd.R_elder' (pR HO_430001.out) (Kd.R_base ho1) hb)
      have n4_ := Aside0.mk (Kd.R_lower (Kd.R_new' ho0 (Kd.R_lt (pR HO_430000.out))) (below_size (pS HB.out)))
      have n5_ := Aside0.mk (Kd.R_lower (Kd.R_new' ho1 (Kd.R_lt (pR HO_430001.out))) (below_size (pS HB.out)))
      have n6_ := Aside0.mk (blk_below (pK BK411.out) hb)
      have n7_ := Aside0.mk (blk_below (pK BK429.out) hb)
      have n8_ := Aside0.mk (below_step (pS HB.out) hb)
      clear HO_4
      clear HO_7
      clear HO_430000
      clear HO_430001
      clear BK411
      clear BK429
      clear HB
      have HO_4 := n0_
      have HO_7 := n1_
      have HO_430000 := n2_
      have HO_430001 := n3_
      have HO437 := n4_
      have HO440 := n5_
      have BK411 := n6_
      have BK429 := n7_
      have HB := n8_
      clear n0_ n1_ n2_ n3_ n4_ n5_ n6_ n7_ n8_
      (try clear hb)
      (try clear hb2)
      (try clear hk)
      (try clear hi)
      (try clear ho0)
      (try clear ho1)
      obtain ⟨Ao99, co99, eo99⟩ := Kd.R_slice HO437.out
      (first | subst eo99 | (injection eo99 with f1_ f2_ f3_; have f4_ := f1_.symm; have f5_ := f3_.symm; clear f1_ f2_ f3_; subst f4_; subst f5_))
      obtain ⟨Ao100, co100, eo100⟩ := Kd.R_slice HO440.out
      (first | subst eo100 | (injection eo100 with f1_ f2_ f3_; have f4_ := f1_.symm; have f5_ := f3_.symm; clear f1_ f2_ f3_; subst f4_; subst f5_))
      refine hK.out _ _ ⟨(blk_cell BK429.out 0).trans rfl, (blk_cell BK429.out 1).trans rfl, (blk_cell BK411.out 0).trans rfl, (blk_cell BK411.out 1).trans rfl⟩ (fun hHeld => ?_)
      clear hK K
      refine norm_ (a' := ?_) ?_ ?_
      rotate_left
      ·show Act.put _ (some 43) _ = _
       simp only [Act.put, List.setIfInBounds_toArray, List.set_cons_zero, List.set_cons_succ, i64_w, i32_w]
       rfl
      refine one_ (i := 3) (N := some 44) #[true, true, true, true, false] rfl rfl (by kernel_rfl) (by decide) (fun K hK => ?_)
      refine goes_ Try.func16 (by kernel_rfl) rfl #[.agg #[.slice Ao23 t423.length co23, .slice Ao26 t426.length co26], .agg #[.slice Ao99 t435.length co99, .slice Ao100 t438.length co100]] (by rfl) rfl rfl bM ?_
      with_reducible refine (laws_eqSecDisk.calls kj10 _ _ t423 _ _ t426 _ _ t435 _ _ t438 false _ ?side1 ?side2 ?side3 ?side4 ?side5 ?side6 ?side7 ?side8 A38.out).mono ?_
      (case side1 => exact pC (Kd.R_reads' HO_430000.out).2.2)
      (case side2 => exact (Kd.R_reads' HO_430000.out).2.1)
      (case side3 => exact pC (Kd.R_reads' HO_430001.out).2.2)
      (case side4 => exact (Kd.R_reads' HO_430001.out).2.1)
      (case side5 => exact pC (Kd.R_reads' HO437.out).2.2)
      (case side6 => exact (Kd.R_reads' HO437.out).2.1)
      (case side7 => exact pC (Kd.R_reads' HO440.out).2.2)
      (case side8 => exact (Kd.R_reads' HO440.out).2.1)
      rintro e w101 ⟨rfl, hb⟩
      refine ⟨_, rfl, ?_⟩
      have n0_ := Aside0.mk (Kd.R_below (pR HO_4.out) hb)
      have n1_ := Aside0.mk (Kd.R_below (pR HO_7.out) hb)
      have n2_ := Aside0.mk (Kd.R_below (pR HO_430000.out) hb)
      have n3_ := Aside0.mk (Kd.R_below (pR HO_430001.out) hb)
      have n4_ := Aside0.mk (Kd.R_below (pR HO437.out) hb)
      have n5_ := Aside0.mk (Kd.R_below (pR HO440.out) hb)
      have n6_ := Aside0.mk (blk_below (pK BK411.out) hb)
      have n7_ := Aside0.mk (blk_below (pK BK429.out) hb)
      have n8_ := Aside0.mk (below_step (pS HB.out) hb)
      clear HO_4
      clear HO_7
      clear HO_430000
      clear HO_430001
      clear HO437
      clear HO440
      clear BK411
      clear BK429
      clear HB
      have HO_4 := n0_
      have HO_7 := n1_
      have HO_430000 := n2_
      have HO_430001 := n3_
      have HO437 := n4_
      have HO440 := n5_
      have BK411 := n6_
      have BK429 := n7_
      have HB := n8_
      clear n0_ n1_ n2_ n3_ n4_ n5_ n6_ n7_ n8_
      (try clear hb)
      (try clear hb2)
      (try clear hk)
      (try clear hi)
      refine hK.out _ _ ⟨(blk_cell BK429.out 0).trans rfl, (blk_cell BK429.out 1).trans rfl, (blk_cell BK411.out 0).trans rfl, (blk_cell BK411.out 1).trans rfl⟩ (fun hHeld => ?_)
      clear hK K
      refine norm_ (a' := ?_) ?_ ?_
      rotate_left
      ·show Act.put _ (some 44) _ = _
       simp only [Act.put, List.setIfInBounds_toArray, List.set_cons_zero, List.set_cons_succ, i64_w, i32_w]
       rfl
      refine pure_ (i := 4) (N := some 45) (v := ?_) (a' := ?_) #[true, true, true, true, true] rfl rfl (by kernel_rfl) (fun _ _ _ h => h) (Or.inl ⟨by rfl, ?_⟩) ?_ ?_
      rotate_left
      ·intro w'
       go_simp
       with_reducible rfl
      rotate_left
      ·simp only [Act.put, List.setIfInBounds_toArray, List.set_cons_zero, List.set_cons_succ, i64_w, i32_w]
       rfl
      refine done_ (by kernel_rfl) ?_
      try go_wp2
      go_ret
      exact ⟨by first | rfl | (simp [errW_none, errW_some] <;> rfl) | (simp [*, errW_none, errW_some] <;> rfl), pS HB.out⟩

/-- THE ONE PURE STATEMENT of laws_FnExactWalMend. -/
def laws_FnExactWalMend.Pure : Prop := ∀ (l0_0 : List ByteArray) (l0_1 : List (S105)), wf25 (⟨l0_0, l0_1⟩ : S25) → ∃ k, laws_FnExactWalMend.f k l0_0 l0_1 = some true
theorem laws_FnExactWalMend.walk (P : laws_FnExactWalMend.Pure) (A0_0 : Option Addr) (c0_0 : Nat) (l0_0 : List ByteArray) (A0_1 : Option Addr) (c0_1 : Nat) (l0_1 : List (S105)) (w : World) (hw0 : wf25 (⟨l0_0, l0_1⟩ : S25)) (hr0_0 : Kd.C Kd.string w A0_0 l0_0.length l0_0) (hc0_0 : l0_0.length ≤ c0_0) (hr0_1 : Kd.C k105 w A0_1 l0_1.length l0_1) (hc0_1 : l0_1.length ≤ c0_1) :
  Calls Try.prog 4 #[.agg #[.slice A0_0 l0_0.length c0_0, .slice A0_1 l0_1.length c0_1]] w fun e w' => e = .returned (.bool true) ∧ Below w.heap.size w w' := by
 obtain ⟨k, h⟩ := P l0_0 l0_1 hw0
 refine (laws_FnExactWalMend.calls k A0_0 c0_0 l0_0 A0_1 c0_1 l0_1 true w hr0_0 hc0_0 hr0_1 hc0_1 h).mono ?_
 rintro e w' ⟨rfl, hd⟩
 exact ⟨rfl, hd⟩

end Go.Proofs.Ythjocaegapchaaa.P
