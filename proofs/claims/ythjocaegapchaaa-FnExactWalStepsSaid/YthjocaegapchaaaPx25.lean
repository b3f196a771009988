-- printed by pprint.py (this session's program over the kit's printer) out of the translation. Lean checks it.
import Derived.Test.YthjocaegapchaaaPx0
import Derived.Test.YthjocaegapchaaaPx6
import Derived.Test.YthjocaegapchaaaPx10
import Derived.Test.YthjocaegapchaaaPx11
import Derived.Test.YthjocaegapchaaaPx12
import Derived.Test.YthjocaegapchaaaPx18
import Derived.Test.YthjocaegapchaaaPx22
namespace Go.Proofs.Ythjocaegapchaaa.P
open Go.RowKit Go.Proofs.YthjocaegapchaaaX Go.Proofs.YthjocaegapchaaaW.PrintWords Go.Proofs.YthjocaegapchaaaW.PrintLast Go.Proofs.YthjocaegapchaaaW.PrintMore
attribute [local go_sem] max2_int min2_int max_two min_two max_three min_three max_four min_four   -- for this text's walks alone
set_option linter.unusedVariables false
set_option linter.unusedSimpArgs false

/-! ### laws_FnExactWalSteps: function 5 -/
mutual
def laws_FnExactWalSteps.j0 : Nat → List ByteArray → List (S61) → Bool → List ByteArray → List (S61) → Bool → Bool → List ByteArray → List (S105) → List ByteArray → List (S75) → Option (Bool)
 | 0, _, _, _, _, _, _, _, _, _, _, _ => none
 | k + 1, x1, x6, x7, x9, x10, x11, x53, x557000, x557001, x579000, x579001 => if x53 = true then (some false) else ((laws_toSecDisk.f k x557000 x557001).bind fun bt587 => ((laws_eqSecDisk.f k x579000 x579001 bt587.1 bt587.2).bind fun t593 => (if t593 = true then ((laws_toStringS.f k x1).bind fun t594 => ((laws_eqStringS.f k x9 t594).bind fun t597 => (if t597 = true then ((laws_markSecDisk.f k x579000 x579001 1).bind fun bt598 => ((laws_markStringS.f k x9 bt598.1).bind fun bt601 => (if bt601.1 < 0 then (laws_FnExactWalSteps.j1 k x1 x6 x7 x10 true x557000 x557001) else ((laws_eqSecStepS.f k x10 x6).bind fun t603 => (if t603 = true then (laws_FnExactWalSteps.j1 k x1 x6 x7 x10 (x11 != x7) x557000 x557001) else (laws_FnExactWalSteps.j1 k x1 x6 x7 x10 true x557000 x557001)))))) else (some false)))) else (some false))))
def laws_FnExactWalSteps.j1 : Nat → List ByteArray → List (S61) → Bool → List (S61) → Bool → List ByteArray → List (S105) → Option (Bool)
 | 0, _, _, _, _, _, _, _ => none
 | k + 1, x1, x6, x7, x10, x82, x557000, x557001 => if x82 = true then (some false) else ((laws_markSecStepS.f k x10 1).bind fun bt604 => ((laws_heldSecStepS.f k bt604.2 1).bind fun t606 => (if t606 < 0 then (some false) else (if t606 = bt604.1 then ((laws_toSecDisk.f k x557000 x557001).bind fun bt607 => ((laws_toStringS.f k x1).bind fun t613 => ((impl_WalSteps.f k bt607.1 bt607.2 t613).bind fun bt616 => ((laws_eqSecStepS.f k bt616.1 x6).bind fun t620 => (if t620 = true then (laws_FnExactWalSteps.j2 k bt604.2 bt604.1 (bt616.2 != x7)) else (laws_FnExactWalSteps.j2 k bt604.2 bt604.1 true)))))) else (some false)))))
def laws_FnExactWalSteps.j2 : Nat → List (S61) → Int → Bool → Option (Bool)
 | 0, _, _, _ => none
 | k + 1, x10, x13, x110 => if x110 = true then (some false) else ((laws_heldSecStepS.f k x10 1).bind fun t621 => (if t621 < 0 then (some false) else (if t621 = x13 then (some true) else (some false))))
end
def laws_FnExactWalSteps.f (k : Nat) (l0_0 : List ByteArray) (l0_1 : List (S105)) (l1 : List ByteArray) : Option (Bool) := (laws_szSecDisk.f k l0_0 l0_1 1048576).bind fun t557 => (if t557 < 0 then (some true) else ((laws_szStringS.f k l1 t557).bind fun t558 => (if t558 < 0 then (some true) else ((laws_toSecDisk.f k l0_0 l0_1).bind fun bt559 => ((laws_toStringS.f k l1).bind fun t565 => ((spec_WalSteps.f k bt559.1 bt559.2 t565).bind fun bt568 => ((laws_toSecDisk.f k l0_0 l0_1).bind fun bt572 => ((laws_toStringS.f k l1).bind fun t579 => ((impl_WalSteps.f k bt572.1 bt572.2 t579).bind fun bt582 => ((laws_eqSecStepS.f k bt582.1 bt568.1).bind fun t586 => (if t586 = true then (laws_FnExactWalSteps.j0 k l1 bt568.1 bt568.2 t579 bt582.1 bt582.2 (bt582.2 != bt568.2) l0_0 l0_1 bt572.1 bt572.2) else (laws_FnExactWalSteps.j0 k l1 bt568.1 bt568.2 t579 bt582.1 bt582.2 true l0_0 l0_1 bt572.1 bt572.2))))))))))))
theorem laws_FnExactWalSteps.mono_l : ∀ k, (∀ y0 y1 y2 y3 y4 y5 y6 y7 y8 y9 y10, LeO (laws_FnExactWalSteps.j0 k y0 y1 y2 y3 y4 y5 y6 y7 y8 y9 y10) (laws_FnExactWalSteps.j0 (k + 1) y0 y1 y2 y3 y4 y5 y6 y7 y8 y9 y10)) ∧ (∀ y0 y1 y2 y3 y4 y5 y6, LeO (laws_FnExactWalSteps.j1 k y0 y1 y2 y3 y4 y5 y6) (laws_FnExactWalSteps.j1 (k + 1) y0 y1 y2 y3 y4 y5 y6)) ∧ (∀ y0 y1 y2, LeO (laws_FnExactWalSteps.j2 k y0 y1 y2) (laws_FnExactWalSteps.j2 (k + 1) y0 y1 y2))
 | 0 => ⟨fun _ _ _ _ _ _ _ _ _ _ _ r h => by simp [laws_FnExactWalSteps.j0] at h, fun _ _ _ _ _ _ _ r h => by simp [laws_FnExactWalSteps.j1] at h, fun _ _ _ r h => by simp [laws_FnExactWalSteps.j2] at h⟩
 | k + 1 => by
  obtain ⟨ih0, ih1, ih2⟩ := laws_FnExactWalSteps.mono_l k
  refine ⟨?_, ?_, ?_⟩
  ·intro y0 y1 y2 y3 y4 y5 y6 y7 y8 y9 y10
   unfold laws_FnExactWalSteps.j0
   repeat' first
   | (with_reducible exact ih0 _ _ _ _ _ _ _ _ _ _ _)
   | (with_reducible exact ih1 _ _ _ _ _ _ _)
   | (with_reducible exact ih2 _ _ _)
   | (with_reducible exact impl_WalSteps.mono _ _ _ _)
   | (with_reducible exact laws_eqSecDisk.mono _ _ _ _ _)
   | (with_reducible exact laws_eqSecStepS.mono _ _ _)
   | (with_reducible exact laws_eqStringS.mono _ _ _)
   | (with_reducible exact laws_heldSecStepS.mono _ _ _)
   | (with_reducible exact laws_markSecDisk.mono _ _ _ _)
   | (with_reducible exact laws_markSecStepS.mono _ _ _)
   | (with_reducible exact laws_markStringS.mono _ _ _)
   | (with_reducible exact laws_szSecDisk.mono _ _ _ _)
   | (with_reducible exact laws_szStringS.mono _ _ _)
   | (with_reducible exact laws_toSecDisk.mono _ _ _)
   | (with_reducible exact laws_toStringS.mono _ _)
   | (with_reducible exact spec_WalSteps.mono _ _ _ _)
   | (with_reducible exact LeO.refl _)
   | (with_reducible exact LeO.none _)
   | (with_reducible refine LeO.ite ?_ ?_)
   | (with_reducible refine LeO.bind ?_ (fun _ => ?_))
   | exact ih0 _ _ _ _ _ _ _ _ _ _ _
   | exact ih1 _ _ _ _ _ _ _
   | exact ih2 _ _ _
   | exact impl_WalSteps.mono _ _ _ _
   | exact laws_eqSecDisk.mono _ _ _ _ _
   | exact laws_eqSecStepS.mono _ _ _
   | exact laws_eqStringS.mono _ _ _
   | exact laws_heldSecStepS.mono _ _ _
   | exact laws_markSecDisk.mono _ _ _ _
   | exact laws_markSecStepS.mono _ _ _
   | exact laws_markStringS.mono _ _ _
   | exact laws_szSecDisk.mono _ _ _ _
   | exact laws_szStringS.mono _ _ _
   | exact laws_toSecDisk.mono _ _ _
   | exact laws_toStringS.mono _ _
   | exact spec_WalSteps.mono _ _ _ _
   | exact LeO.none _
   | refine LeO.ite ?_ ?_
   | refine LeO.bind ?_ (fun _ => ?_)
  ·intro y0 y1 y2 y3 y4 y5 y6
   unfold laws_FnExactWalSteps.j1
   repeat' first
   | (with_reducible exact ih0 _ _ _ _ _ _ _ _ _ _ _)
   | (with_reducible exact ih1 _ _ _ _ _ _ _)
   | (with_reducible exact ih2 _ _ _)
   | (with_reducible exact impl_WalSteps.mono _ _ _ _)
   | (with_reducible exact laws_eqSecDisk.mono _ _ _ _ _)
   | (with_reducible exact laws_eqSecStepS.mono _ _ _)
   | (with_reducible exact laws_eqStringS.mono _ _ _)
   | (with_reducible exact laws_heldSecStepS.mono _ _ _)
   | (with_reducible exact laws_markSecDisk.mono _ _ _ _)
   | (with_reducible exact laws_markSecStepS.mono _ _ _)
   | (with_reducible exact laws_markStringS.mono _ _ _)
   | (with_reducible exact laws_szSecDisk.mono _ _ _ _)
   | (with_reducible exact laws_szStringS.mono _ _ _)
   | (with_reducible exact laws_toSecDisk.mono _ _ _)
   | (with_reducible exact laws_toStringS.mono _ _)
   | (with_reducible exact spec_WalSteps.mono _ _ _ _)
   | (with_reducible exact LeO.refl _)
   | (with_reducible exact LeO.none _)
   | (with_reducible refine LeO.ite ?_ ?_)
   | (with_reducible refine LeO.bind ?_ (fun _ => ?_))
   | exact ih0 _ _ _ _ _ _ _ _ _ _ _
   | exact ih1 _ _ _ _ _ _ _
   | exact ih2 _ _ _
   | exact impl_WalSteps.mono _ _ _ _
   | exact laws_eqSecDisk.mono _ _ _ _ _
   | exact laws_eqSecStepS.mono _ _ _
   | exact laws_eqStringS.mono _ _ _
   | exact laws_heldSecStepS.mono _ _ _
   | exact laws_markSecDisk.mono _ _ _ _
   | exact laws_markSecStepS.mono _ _ _
   | exact laws_markStringS.mono _ _ _
   | exact laws_szSecDisk.mono _ _ _ _
   | exact laws_szStringS.mono _ _ _
   | exact laws_toSecDisk.mono _ _ _
   | exact laws_toStringS.mono _ _
   | exact spec_WalSteps.mono _ _ _ _
   | exact LeO.none _
   | refine LeO.ite ?_ ?_
   | refine LeO.bind ?_ (fun _ => ?_)
  ·intro y0 y1 y2
   unfold laws_FnExactWalSteps.j2
   repeat' first
   | (with_reducible exact ih0 _ _ _ _ _ _ _ _ _ _ _)
   | (with_reducible exact ih1 _ _ _ _ _ _ _)
   | (with_reducible exact ih2 _ _ _)
   | (with_reducible exact impl_WalSteps.mono _ _ _ _)
   | (with_reducible exact laws_eqSecDisk.mono _ _ _ _ _)
   | (with_reducible exact laws_eqSecStepS.mono _ _ _)
   | (with_reducible exact laws_eqStringS.mono _ _ _)
   | (with_reducible exact laws_heldSecStepS.mono _ _ _)
   | (with_reducible exact laws_markSecDisk.mono _ _ _ _)
   | (with_reducible exact laws_markSecStepS.mono _ _ _)
   | (with_reducible exact laws_markStringS.mono _ _ _)
   | (with_reducible exact laws_szSecDisk.mono _ _ _ _)
   | (with_reducible exact laws_szStringS.mono _ _ _)
   | (with_reducible exact laws_toSecDisk.mono _ _ _)
   | (with_reducible exact laws_toStringS.mono _ _)
   | (with_reducible exact spec_WalSteps.mono _ _ _ _)
   | (with_reducible exact LeO.refl _)
   | (with_reducible exact LeO.none _)
   | (with_reducible refine LeO.ite ?_ ?_)
   | (with_reducible refine LeO.bind ?_ (fun _ => ?_))
   | exact ih0 _ _ _ _ _ _ _ _ _ _ _
   | exact ih1 _ _ _ _ _ _ _
   | exact ih2 _ _ _
   | exact impl_WalSteps.mono _ _ _ _
   | exact laws_eqSecDisk.mono _ _ _ _ _
   | exact laws_eqSecStepS.mono _ _ _
   | exact laws_eqStringS.mono _ _ _
   | exact laws_heldSecStepS.mono _ _ _
   | exact laws_markSecDisk.mono _ _ _ _
   | exact laws_markSecStepS.mono _ _ _
   | exact laws_markStringS.mono _ _ _
   | exact laws_szSecDisk.mono _ _ _ _
   | exact laws_szStringS.mono _ _ _
   | exact laws_toSecDisk.mono _ _ _
   | exact laws_toStringS.mono _ _
   | exact spec_WalSteps.mono _ _ _ _
   | exact LeO.none _
   | refine LeO.ite ?_ ?_
   | refine LeO.bind ?_ (fun _ => ?_)
theorem laws_FnExactWalSteps.mono : ∀ a0 a1 a2 k, LeO (laws_FnExactWalSteps.f k a0 a1 a2) (laws_FnExactWalSteps.f (k + 1) a0 a1 a2) := by
 intro a0 a1 a2 k
 obtain ⟨ih0, ih1, ih2⟩ := laws_FnExactWalSteps.mono_l k
 unfold laws_FnExactWalSteps.f
 repeat' first
   | (with_reducible exact ih0 _ _ _ _ _ _ _ _ _ _ _)
   | (with_reducible exact ih1 _ _ _ _ _ _ _)
   | (with_reducible exact ih2 _ _ _)
   | (with_reducible exact impl_WalSteps.mono _ _ _ _)
   | (with_reducible exact laws_eqSecDisk.mono _ _ _ _ _)
   | (with_reducible exact laws_eqSecStepS.mono _ _ _)
   | (with_reducible exact laws_eqStringS.mono _ _ _)
   | (with_reducible exact laws_heldSecStepS.mono _ _ _)
   | (with_reducible exact laws_markSecDisk.mono _ _ _ _)
   | (with_reducible exact laws_markSecStepS.mono _ _ _)
   | (with_reducible exact laws_markStringS.mono _ _ _)
   | (with_reducible exact laws_szSecDisk.mono _ _ _ _)
   | (with_reducible exact laws_szStringS.mono _ _ _)
   | (with_reducible exact laws_toSecDisk.mono _ _ _)
   | (with_reducible exact laws_toStringS.mono _ _)
   | (with_reducible exact spec_WalSteps.mono _ _ _ _)
   | (with_reducible exact LeO.refl _)
   | (with_reducible exact LeO.none _)
   | (with_reducible refine LeO.ite ?_ ?_)
   | (with_reducible refine LeO.bind ?_ (fun _ => ?_))
   | exact ih0 _ _ _ _ _ _ _ _ _ _ _
   | exact ih1 _ _ _ _ _ _ _
   | exact ih2 _ _ _
   | exact impl_WalSteps.mono _ _ _ _
   | exact laws_eqSecDisk.mono _ _ _ _ _
   | exact laws_eqSecStepS.mono _ _ _
   | exact laws_eqStringS.mono _ _ _
   | exact laws_heldSecStepS.mono _ _ _
   | exact laws_markSecDisk.mono _ _ _ _
   | exact laws_markSecStepS.mono _ _ _
   | exact laws_markStringS.mono _ _ _
   | exact laws_szSecDisk.mono _ _ _ _
   | exact laws_szStringS.mono _ _ _
   | exact laws_toSecDisk.mono _ _ _
   | exact laws_toStringS.mono _ _
   | exact spec_WalSteps.mono _ _ _ _
   | exact LeO.none _
   | refine LeO.ite ?_ ?_
   | refine LeO.bind ?_ (fun _ => ?_)
set_option maxHeartbeats 8000000 in
set_option maxRecDepth 100000 in
theorem laws_FnExactWalSteps.calls (k : Nat) (A0_0 : Option Addr) (c0_0 : Nat) (l0_0 : List ByteArray) (A0_1 : Option Addr) (c0_1 : Nat) (l0_1 : List (S105)) (A1 : Option Addr) (c1 : Nat) (l1 : List ByteArray) (r : Bool) (w : World) (hr0_0 : Kd.C Kd.string w A0_0 l0_0.length l0_0) (hc0_0 : l0_0.length ≤ c0_0) (hr0_1 : Kd.C k105 w A0_1 l0_1.length l0_1) (hc0_1 : l0_1.length ≤ c0_1) (hr1 : Kd.C Kd.string w A1 l1.length l1) (hc1 : l1.length ≤ c1) (h : laws_FnExactWalSteps.f k l0_0 l0_1 l1 = some r) :
  Calls Try.prog 5 #[.agg #[.slice A0_0 l0_0.length c0_0, .slice A0_1 l0_1.length c0_1], .slice A1 l1.length c1] w fun e w' => e = .returned (.bool r) ∧ Below w.heap.size w w' := by
 have hu25 := Try.underlying25
 have hu31 := Try.underlying31
 have HR0_0 := Aside0.mk hr0_0
 have HC0_0 := Aside0.mk hc0_0
 clear hr0_0 hc0_0
 have HR0_1 := Aside0.mk hr0_1
 have HC0_1 := Aside0.mk hc0_1
 clear hr0_1 hc0_1
 have HR1 := Aside0.mk hr1
 have HC1 := Aside0.mk hc1
 clear hr1 hc1
 have HB := Aside0.mk (Below.refl w.heap.size w)
 have H : ((laws_szSecDisk.f k l0_0 l0_1 1048576).bind fun t557 => (if t557 < 0 then (some true) else ((laws_szStringS.f k l1 t557).bind fun t558 => (if t558 < 0 then (some true) else ((laws_toSecDisk.f k l0_0 l0_1).bind fun bt559 => ((laws_toStringS.f k l1).bind fun t565 => ((spec_WalSteps.f k bt559.1 bt559.2 t565).bind fun bt568 => ((laws_toSecDisk.f k l0_0 l0_1).bind fun bt572 => ((laws_toStringS.f k l1).bind fun t579 => ((impl_WalSteps.f k bt572.1 bt572.2 t579).bind fun bt582 => ((laws_eqSecStepS.f k bt582.1 bt568.1).bind fun t586 => (if t586 = true then (laws_FnExactWalSteps.j0 k l1 bt568.1 bt568.2 t579 bt582.1 bt582.2 (bt582.2 != bt568.2) l0_0 l0_1 bt572.1 bt572.2) else (laws_FnExactWalSteps.j0 k l1 bt568.1 bt568.2 t579 bt582.1 bt582.2 true l0_0 l0_1 bt572.1 bt572.2))))))))))))) = some r := h
 clear h
 replace H := Option.bind_eq_some_iff.mp H
 obtain ⟨t557, A30, H⟩ := H
 replace H : (if t557 < 0 then (some true) else ((laws_szStringS.f k l1 t557).bind fun t558 => (if t558 < 0 then (some true) else ((laws_toSecDisk.f k l0_0 l0_1).bind fun bt559 => ((laws_toStringS.f k l1).bind fun t565 => ((spec_WalSteps.f k bt559.1 bt559.2 t565).bind fun bt568 => ((laws_toSecDisk.f k l0_0 l0_1).bind fun bt572 => ((laws_toStringS.f k l1).bind fun t579 => ((impl_WalSteps.f k bt572.1 bt572.2 t579).bind fun bt582 => ((laws_eqSecStepS.f k bt582.1 bt568.1).bind fun t586 => (if t586 = true then (laws_FnExactWalSteps.j0 k l1 bt568.1 bt568.2 t579 bt582.1 bt582.2 (bt582.2 != bt568.2) l0_0 l0_1 bt572.1 bt572.2) else (laws_FnExactWalSteps.j0 k l1 bt568.1 bt568.2 t579 bt582.1 bt582.2 true l0_0 l0_1 bt572.1 bt572.2)))))))))))) = some r := H
 have A3 := Aside0.mk A30
 clear A30
 by_cases c4 : t557 < 0
 ·rw [if_pos c4] at H
  have c4b0 : decide (t557 < 0) = true := decide_eq_true c4
  clear c4
  obtain rfl := Option.some.inj H
  go_enter Try.func5, Try.ntmps5
  go_wp2_with (first | ((with_reducible refine gate_dst (N := 2) rfl ?_); refine box_event ?hg (N := 2) ?hd (cs := #[.slice A0_0 l0_0.length c0_0, .slice A0_1 l0_1.length c0_1]) (t := 25) ?hr ?_; (case hd => rfl); (case hg => rfl); (case hr => first | (go_simp; done) | (go_simp; rfl)); intro gb556 hg w5 hbox hb; have n0_ := Aside0.mk (below_step (pB HB.out) hb); have n1_ := Aside0.mk (hbox); have n2_ := Aside0.mk ((by rw [hg]; exact (below_size (pB HB.out)) : w.heap.size ≤ gb556)); have n3_ := Aside0.mk ((by rw [hg]; exact (below_size (pB HB.out)) : w.heap.size ≤ gb556)); clear HB; have HB := n0_; have BK556 := n1_; have GW556 := n2_; have GE556 := n3_; clear n0_ n1_ n2_ n3_; clear hb hbox hg; have hcz6_0 : w5.cell? ⟨gb556, 0, none⟩ = some (.slice A0_0 l0_0.length c0_0) := (blk_cell BK556.out 0).trans rfl; have hcz6_1 : w5.cell? ⟨gb556, 1, none⟩ = some (.slice A0_1 l0_1.length c0_1) := (blk_cell BK556.out 1).trans rfl; have hfz6_0 := blk_frozen BK556.out 0; have hfz6_1 := blk_frozen BK556.out 1) | ((with_reducible refine gate_callee (f := 11) rfl ?_); refine goesL_ (some 19) rfl rfl Try.func11 (by kernel_rfl) rfl #[.agg #[.slice A0_0 l0_0.length c0_0, .slice A0_1 l0_1.length c0_1], .int .i64 1048576] rfl bM ?_; (with_reducible refine (laws_szSecDisk.calls k _ _ l0_0 _ _ l0_1 1048576 t557 _ ?side1 ?side2 ?side3 ?side4 A3.out).mono ?_); (case side1 => exact pC (Kd.C_below HR0_0.out HB.out)); (case side2 => exact HC0_0.out); (case side3 => exact pC (Kd.C_below HR0_1.out HB.out)); (case side4 => exact HC0_1.out); rintro e w7 ⟨rfl, hb⟩; refine ⟨_, rfl, ?_⟩; have n0_ := Aside0.mk (blk_below (pK BK556.out) hb); have n1_ := Aside0.mk (below_step (pS HB.out) hb); clear BK556; clear HB; have BK556 := n0_; have HB := n1_; clear n0_ n1_; (try clear hb); (try clear hb2); (try clear hk); (try clear hi)))
  go_ret
  exact ⟨by first | rfl | (simp [errW_none, errW_some] <;> rfl) | (simp [*, errW_none, errW_some] <;> rfl), pS HB.out⟩
 ·rw [if_neg c4] at H
  have c4b0 : decide (t557 < 0) = false := decide_eq_false c4
  clear c4
  replace H := Option.bind_eq_some_iff.mp H
  obtain ⟨t558, A80, H⟩ := H
  replace H : (if t558 < 0 then (some true) else ((laws_toSecDisk.f k l0_0 l0_1).bind fun bt559 => ((laws_toStringS.f k l1).bind fun t565 => ((spec_WalSteps.f k bt559.1 bt559.2 t565).bind fun bt568 => ((laws_toSecDisk.f k l0_0 l0_1).bind fun bt572 => ((laws_toStringS.f k l1).bind fun t579 => ((impl_WalSteps.f k bt572.1 bt572.2 t579).bind fun bt582 => ((laws_eqSecStepS.f k bt582.1 bt568.1).bind fun t586 => (if t586 = true then (laws_FnExactWalSteps.j0 k l1 bt568.1 bt568.2 t579 bt582.1 bt582.2 (bt582.2 != bt568.2) l0_0 l0_1 bt572.1 bt572.2) else (laws_FnExactWalSteps.j0 k l1 bt568.1 bt568.2 t579 bt582.1 bt582.2 true l0_0 l0_1 bt572.1 bt572.2)))))))))) = some r := H
  have A8 := Aside0.mk A80
  clear A80
  by_cases c9 : t558 < 0
  ·rw [if_pos c9] at H
   have c9b0 : decide (t558 < 0) = true := decide_eq_true c9
   clear c9
   obtain rfl := Option.some.inj H
   go_enter Try.func5, Try.ntmps5
   go_wp2_with (first | ((with_reducible refine gate_dst (N := 2) rfl ?_); refine box_event ?hg (N := 2) ?hd (cs := #[.slice A0_0 l0_0.length c0_0, .slice A0_1 l0_1.length c0_1]) (t := 25) ?hr ?_; (case hd => rfl); (case hg => rfl); (case hr => first | (go_simp; done) | (go_simp; rfl)); intro gb556 hg w10 hbox hb; have n0_ := Aside0.mk (below_step (pB HB.out) hb); have n1_ := Aside0.mk (hbox); have n2_ := Aside0.mk ((by rw [hg]; exact (below_size (pB HB.out)) : w.heap.size ≤ gb556)); have n3_ := Aside0.mk ((by rw [hg]; exact (below_size (pB HB.out)) : w.heap.size ≤ gb556)); clear HB; have HB := n0_; have BK556 := n1_; have GW556 := n2_; have GE556 := n3_; clear n0_ n1_ n2_ n3_; clear hb hbox hg; have hcz11_0 : w10.cell? ⟨gb556, 0, none⟩ = some (.slice A0_0 l0_0.length c0_0) := (blk_cell BK556.out 0).trans rfl; have hcz11_1 : w10.cell? ⟨gb556, 1, none⟩ = some (.slice A0_1 l0_1.length c0_1) := (blk_cell BK556.out 1).trans rfl; have hfz11_0 := blk_frozen BK556.out 0; have hfz11_1 := blk_frozen BK556.out 1) | ((with_reducible refine gate_callee (f := 11) rfl ?_); refine goesL_ (some 19) rfl rfl Try.func11 (by kernel_rfl) rfl #[.agg #[.slice A0_0 l0_0.length c0_0, .slice A0_1 l0_1.length c0_1], .int .i64 1048576] rfl bM ?_; (with_reducible refine (laws_szSecDisk.calls k _ _ l0_0 _ _ l0_1 1048576 t557 _ ?side1 ?side2 ?side3 ?side4 A3.out).mono ?_); (case side1 => exact pC (Kd.C_below HR0_0.out HB.out)); (case side2 => exact HC0_0.out); (case side3 => exact pC (Kd.C_below HR0_1.out HB.out)); (case side4 => exact HC0_1.out); rintro e w12 ⟨rfl, hb⟩; refine ⟨_, rfl, ?_⟩; have n0_ := Aside0.mk (blk_below (pK BK556.out) hb); have n1_ := Aside0.mk (below_step (pS HB.out) hb); clear BK556; clear HB; have BK556 := n0_; have HB := n1_; clear n0_ n1_; (try clear hb); (try clear hb2); (try clear hk); (try clear hi)) | ((with_reducible refine gate_callee (f := 25) rfl ?_); refine goesL_ (some 24) rfl rfl Try.func25 (by kernel_rfl) rfl #[.slice A1 l1.length c1, .int .i64 t557] rfl bM ?_; (with_reducible refine (laws_szStringS.calls k _ _ l1 t557 t558 _ ?side1 ?side2 A8.out).mono ?_); (case side1 => exact pC (Kd.C_below HR1.out HB.out)); (case side2 => exact HC1.out); rintro e w' ⟨rfl, ⟨nd, rfl⟩⟩; refine ⟨_, rfl, ?_⟩))
   go_ret
   exact ⟨by first | rfl | (simp [errW_none, errW_some] <;> rfl) | (simp [*, errW_none, errW_some] <;> rfl), pS HB.out⟩
  ·rw [if_neg c9] at H
   have c9b0 : decide (t558 < 0) = false := decide_eq_false c9
   clear c9
   replace H := Option.bind_eq_some_iff.mp H
   obtain ⟨⟨t559, t562⟩, A130, H⟩ := H
   replace H : ((laws_toStringS.f k l1).bind fun t565 => ((spec_WalSteps.f k t559 t562 t565).bind fun bt568 => ((laws_toSecDisk.f k l0_0 l0_1).bind fun bt572 => ((laws_toStringS.f k l1).bind fun t579 => ((impl_WalSteps.f k bt572.1 bt572.2 t579).bind fun bt582 => ((laws_eqSecStepS.f k bt582.1 bt568.1).bind fun t586 => (if t586 = true then (laws_FnExactWalSteps.j0 k l1 bt568.1 bt568.2 t579 bt582.1 bt582.2 (bt582.2 != bt568.2) l0_0 l0_1 bt572.1 bt572.2) else (laws_FnExactWalSteps.j0 k l1 bt568.1 bt568.2 t579 bt582.1 bt582.2 true l0_0 l0_1 bt572.1 bt572.2)))))))) = some r := H
   have A13 := Aside0.mk A130
   clear A130
   replace H := Option.bind_eq_some_iff.mp H
   obtain ⟨t565, A140, H⟩ := H
   replace H : ((spec_WalSteps.f k t559 t562 t565).bind fun bt568 => ((laws_toSecDisk.f k l0_0 l0_1).bind fun bt572 => ((laws_toStringS.f k l1).bind fun t579 => ((impl_WalSteps.f k bt572.1 bt572.2 t579).bind fun bt582 => ((laws_eqSecStepS.f k bt582.1 bt568.1).bind fun t586 => (if t586 = true then (laws_FnExactWalSteps.j0 k l1 bt568.1 bt568.2 t579 bt582.1 bt582.2 (bt582.2 != bt568.2) l0_0 l0_1 bt572.1 bt572.2) else (laws_FnExactWalSteps.j0 k l1 bt568.1 bt568.2 t579 bt582.1 bt582.2 true l0_0 l0_1 bt572.1 bt572.2))))))) = some r := H
   have A14 := Aside0.mk A140
   clear A140
   replace H := Option.bind_eq_some_iff.mp H
   obtain ⟨⟨t568, t571⟩, A150, H⟩ := H
   replace H : ((laws_toSecDisk.f k l0_0 l0_1).bind fun bt572 => ((laws_toStringS.f k l1).bind fun t579 => ((impl_WalSteps.f k bt572.1 bt572.2 t579).bind fun bt582 => ((laws_eqSecStepS.f k bt582.1 t568).bind fun t586 => (if t586 = true then (laws_FnExactWalSteps.j0 k l1 t568 t571 t579 bt582.1 bt582.2 (bt582.2 != t571) l0_0 l0_1 bt572.1 bt572.2) else (laws_FnExactWalSteps.j0 k l1 t568 t571 t579 bt582.1 bt582.2 true l0_0 l0_1 bt572.1 bt572.2)))))) = some r := H
   have A15 := Aside0.mk A150
   clear A150
   replace H := Option.bind_eq_some_iff.mp H
   obtain ⟨⟨t572, t575⟩, A160, H⟩ := H
   replace H : ((laws_toStringS.f k l1).bind fun t579 => ((impl_WalSteps.f k t572 t575 t579).bind fun bt582 => ((laws_eqSecStepS.f k bt582.1 t568).bind fun t586 => (if t586 = true then (laws_FnExactWalSteps.j0 k l1 t568 t571 t579 bt582.1 bt582.2 (bt582.2 != t571) l0_0 l0_1 t572 t575) else (laws_FnExactWalSteps.j0 k l1 t568 t571 t579 bt582.1 bt582.2 true l0_0 l0_1 t572 t575))))) = some r := H
   have A16 := Aside0.mk A160
   clear A160
   replace H := Option.bind_eq_some_iff.mp H
   obtain ⟨t579, A170, H⟩ := H
   replace H : ((impl_WalSteps.f k t572 t575 t579).bind fun bt582 => ((laws_eqSecStepS.f k bt582.1 t568).bind fun t586 => (if t586 = true then (laws_FnExactWalSteps.j0 k l1 t568 t571 t579 bt582.1 bt582.2 (bt582.2 != t571) l0_0 l0_1 t572 t575) else (laws_FnExactWalSteps.j0 k l1 t568 t571 t579 bt582.1 bt582.2 true l0_0 l0_1 t572 t575)))) = some r := H
   have A17 := Aside0.mk A170
   clear A170
   replace H := Option.bind_eq_some_iff.mp H
   obtain ⟨⟨t582, t585⟩, A180, H⟩ := H
   replace H : ((laws_eqSecStepS.f k t582 t568).bind fun t586 => (if t586 = true then (laws_FnExactWalSteps.j0 k l1 t568 t571 t579 t582 t585 (t585 != t571) l0_0 l0_1 t572 t575) else (laws_FnExactWalSteps.j0 k l1 t568 t571 t579 t582 t585 true l0_0 l0_1 t572 t575))) = some r := H
   have A18 := Aside0.mk A180
   clear A180
   have HC19 := Aside0.mk H
   clear H
   go_enter Try.func5, Try.ntmps5
   go_upto_region 12 with (first | ((with_reducible refine gate_dst (N := 2) rfl ?_); refine box_event ?hg (N := 2) ?hd (cs := #[.slice A0_0 l0_0.length c0_0, .slice A0_1 l0_1.length c0_1]) (t := 25) ?hr ?_; (case hd => rfl); (case hg => rfl); (case hr => first | (go_simp; done) | (go_simp; rfl)); intro gb556 hg w20 hbox hb; have n0_ := Aside0.mk (below_step (pB HB.out) hb); have n1_ := Aside0.mk (hbox); have n2_ := Aside0.mk ((by rw [hg]; exact (below_size (pB HB.out)) : w.heap.size ≤ gb556)); have n3_ := Aside0.mk ((by rw [hg]; exact (below_size (pB HB.out)) : w.heap.size ≤ gb556)); clear HB; have HB := n0_; have BK556 := n1_; have GW556 := n2_; have GE556 := n3_; clear n0_ n1_ n2_ n3_; clear hb hbox hg; have hcz21_0 : w20.cell? ⟨gb556, 0, none⟩ = some (.slice A0_0 l0_0.length c0_0) := (blk_cell BK556.out 0).trans rfl; have hcz21_1 : w20.cell? ⟨gb556, 1, none⟩ = some (.slice A0_1 l0_1.length c0_1) := (blk_cell BK556.out 1).trans rfl; have hfz21_0 := blk_frozen BK556.out 0; have hfz21_1 := blk_frozen BK556.out 1) | ((with_reducible refine gate_callee (f := 11) rfl ?_); refine goesL_ (some 19) rfl rfl Try.func11 (by kernel_rfl) rfl #[.agg #[.slice A0_0 l0_0.length c0_0, .slice A0_1 l0_1.length c0_1], .int .i64 1048576] rfl bM ?_; (with_reducible refine (laws_szSecDisk.calls k _ _ l0_0 _ _ l0_1 1048576 t557 _ ?side1 ?side2 ?side3 ?side4 A3.out).mono ?_); (case side1 => exact pC (Kd.C_below HR0_0.out HB.out)); (case side2 => exact HC0_0.out); (case side3 => exact pC (Kd.C_below HR0_1.out HB.out)); (case side4 => exact HC0_1.out); rintro e w22 ⟨rfl, hb⟩; refine ⟨_, rfl, ?_⟩; have n0_ := Aside0.mk (blk_below (pK BK556.out) hb); have n1_ := Aside0.mk (below_step (pS HB.out) hb); clear BK556; clear HB; have BK556 := n0_; have HB := n1_; clear n0_ n1_; (try clear hb); (try clear hb2); (try clear hk); (try clear hi)) | ((with_reducible refine gate_callee (f := 25) rfl ?_); refine goesL_ (some 24) rfl rfl Try.func25 (by kernel_rfl) rfl #[.slice A1 l1.length c1, .int .i64 t557] rfl bM ?_; (with_reducible refine (laws_szStringS.calls k _ _ l1 t557 t558 _ ?side1 ?side2 A8.out).mono ?_); (case side1 => exact pC (Kd.C_below HR1.out HB.out)); (case side2 => exact HC1.out); rintro e w' ⟨rfl, ⟨nd, rfl⟩⟩; refine ⟨_, rfl, ?_⟩; (try (rw [drewN_self w22]; generalize hq_ : World.drewN w22 _ = w22; have n0_ : Aside0 (w22.heap[gb556]? = some (.cells #[.slice A0_0 l0_0.length c0_0, .slice A0_1 l0_1.length c0_1] 25 (0, 0))) := ⟨by rw [← hq_]; exact (pK BK556.out)⟩; have n1_ : Aside0 (Below w.heap.size w w22) := ⟨by rw [← hq_]; exact (pS HB.out)⟩; clear BK556 HB hq_; have BK556 := n0_; have HB := n1_; clear n0_ n1_)); have hcz23_0 : w22.cell? ⟨gb556, 0, none⟩ = some (.slice A0_0 l0_0.length c0_0) := (blk_cell BK556.out 0).trans rfl; have hcz23_1 : w22.cell? ⟨gb556, 1, none⟩ = some (.slice A0_1 l0_1.length c0_1) := (blk_cell BK556.out 1).trans rfl; have hfz23_0 := blk_frozen BK556.out 0; have hfz23_1 := blk_frozen BK556.out 1) | ((with_reducible refine gate_callee (f := 13) rfl ?_); refine goesL_ (some 29) rfl rfl Try.func13 (by kernel_rfl) rfl #[.agg #[.slice A0_0 l0_0.length c0_0, .slice A0_1 l0_1.length c0_1]] rfl bM ?_; (with_reducible refine (laws_toSecDisk.calls k _ _ l0_0 _ _ l0_1 t559 t562 _ ?side1 ?side2 ?side3 ?side4 A13.out).mono ?_); (case side1 => exact pC (Kd.C_below HR0_0.out HB.out)); (case side2 => exact HC0_0.out); (case side3 => exact pC (Kd.C_below HR0_1.out HB.out)); (case side4 => exact HC0_1.out); rintro e w24 ⟨v560, v563, rfl, ho0, ho1, hb⟩; refine ⟨_, rfl, ?_⟩; have n0_ := Aside0.mk (Kd.R_lower ho0 (below_size (pS HB.out))); have n1_ := Aside0.mk (Kd.R_lower ho1 (below_size (pS HB.out))); have n2_ := Aside0.mk (blk_below (pK BK556.out) hb); have n3_ := Aside0.mk (below_step (pS HB.out) hb); clear BK556; clear HB; have HO561 := n0_; have HO564 := n1_; have BK556 := n2_; have HB := n3_; clear n0_ n1_ n2_ n3_; (try clear hb); (try clear hb2); (try clear hk); (try clear hi); (try clear ho0); (try clear ho1)) | ((with_reducible refine gate_callee (f := 27) rfl ?_); refine goesL_ (some 31) rfl rfl Try.func27 (by kernel_rfl) rfl #[.slice A1 l1.length c1] rfl bM ?_; (with_reducible refine (laws_toStringS.calls k _ _ l1 t565 _ ?side1 ?side2 A14.out).mono ?_); (case side1 => exact pC (Kd.C_below HR1.out HB.out)); (case side2 => exact HC1.out); rintro e w25 ⟨v566, rfl, ho0, hb⟩; refine ⟨_, rfl, ?_⟩; have n0_ := Aside0.mk (Kd.R_elder' (pR HO561.out) (Kd.R_base ho0) hb); have n1_ := Aside0.mk (Kd.R_below (pR HO564.out) hb); have n2_ := Aside0.mk (Kd.R_lower (Kd.R_new' ho0 (Kd.R_lt (pR HO561.out))) (below_size (pS HB.out))); have n3_ := Aside0.mk (blk_below (pK BK556.out) hb); have n4_ := Aside0.mk (below_step (pS HB.out) hb); clear HO561; clear HO564; clear BK556; clear HB; have HO561 := n0_; have HO564 := n1_; have HO567 := n2_; have BK556 := n3_; have HB := n4_; clear n0_ n1_ n2_ n3_ n4_; (try clear hb); (try clear hb2); (try clear hk); (try clear hi); (try clear ho0); obtain ⟨Ao26, co26, eo26⟩ := Kd.R_slice HO561.out; subst eo26; obtain ⟨Ao27, co27, eo27⟩ := Kd.R_slice HO564.out; subst eo27; obtain ⟨Ao28, co28, eo28⟩ := Kd.R_slice HO567.out; subst eo28) | ((with_reducible refine gate_callee (f := 26) rfl ?_); refine goesL_ (some 32) rfl rfl Try.func26 (by kernel_rfl) rfl #[.agg #[.slice Ao26 t559.length co26, .slice Ao27 t562.length co27], .slice Ao28 t565.length co28] rfl bM ?_; (with_reducible refine (spec_WalSteps.calls k _ _ t559 _ _ t562 _ _ t565 t568 t571 _ ?side1 ?side2 ?side3 ?side4 ?side5 ?side6 A15.out).mono ?_); (case side1 => exact pC (Kd.R_reads' HO561.out).2.2); (case side2 => exact (Kd.R_reads' HO561.out).2.1); (case side3 => exact pC (Kd.R_reads' HO564.out).2.2); (case side4 => exact (Kd.R_reads' HO564.out).2.1); (case side5 => exact pC (Kd.R_reads' HO567.out).2.2); (case side6 => exact (Kd.R_reads' HO567.out).2.1); rintro e w29 ⟨v569, rfl, ho0, hb⟩; refine ⟨_, rfl, ?_⟩; have n0_ := Aside0.mk (Kd.R_below (pR HO561.out) hb); have n1_ := Aside0.mk (Kd.R_below (pR HO564.out) hb); have n2_ := Aside0.mk (Kd.R_below (pR HO567.out) hb); have n3_ := Aside0.mk (Kd.R_lower ho0 (below_size (pS HB.out))); have n4_ := Aside0.mk (blk_below (pK BK556.out) hb); have n5_ := Aside0.mk (below_step (pS HB.out) hb); clear HO561; clear HO564; clear HO567; clear BK556; clear HB; have HO561 := n0_; have HO564 := n1_; have HO567 := n2_; have HO570 := n3_; have BK556 := n4_; have HB := n5_; clear n0_ n1_ n2_ n3_ n4_ n5_; (try clear hb); (try clear hb2); (try clear hk); (try clear hi); (try clear ho0); have hcz30_0 : w29.cell? ⟨gb556, 0, none⟩ = some (.slice A0_0 l0_0.length c0_0) := (blk_cell BK556.out 0).trans rfl; have hcz30_1 : w29.cell? ⟨gb556, 1, none⟩ = some (.slice A0_1 l0_1.length c0_1) := (blk_cell BK556.out 1).trans rfl; have hfz30_0 := blk_frozen BK556.out 0; have hfz30_1 := blk_frozen BK556.out 1) | ((with_reducible refine gate_callee (f := 13) rfl ?_); refine goesL_ (some 36) rfl rfl Try.func13 (by kernel_rfl) rfl #[.agg #[.slice A0_0 l0_0.length c0_0, .slice A0_1 l0_1.length c0_1]] rfl bM ?_; (with_reducible refine (laws_toSecDisk.calls k _ _ l0_0 _ _ l0_1 t572 t575 _ ?side1 ?side2 ?side3 ?side4 A16.out).mono ?_); (case side1 => exact pC (Kd.C_below HR0_0.out HB.out)); (case side2 => exact HC0_0.out); (case side3 => exact pC (Kd.C_below HR0_1.out HB.out)); (case side4 => exact HC0_1.out); rintro e w31 ⟨v573, v576, rfl, ho0, ho1, hb⟩; refine ⟨_, rfl, ?_⟩; have n0_ := Aside0.mk (Kd.R_elder' (pR HO561.out) (Kd.R_base ho0) hb); have n1_ := Aside0.mk (Kd.R_elder' (pR HO564.out) (Kd.R_base ho1) hb); have n2_ := Aside0.mk (Kd.R_elder' (pR HO567.out) (Kd.R_base ho0) hb); have n3_ := Aside0.mk (Kd.R_below (pR HO570.out) hb); have n4_ := Aside0.mk (Kd.R_lower (Kd.R_new' (Kd.R_new' ho0 (Kd.R_lt (pR HO561.out))) (Kd.R_lt (pR HO567.out))) (below_size (pS HB.out))); have n5_ := Aside0.mk (Kd.R_lower (Kd.R_new' ho1 (Kd.R_lt (pR HO564.out))) (below_size (pS HB.out))); have n6_ := Aside0.mk (blk_below (pK BK556.out) hb); have n7_ := Aside0.mk (below_step (pS HB.out) hb); clear HO561; clear HO564; clear HO567; clear HO570; clear BK556; clear HB; have HO561 := n0_; have HO564 := n1_; have HO567 := n2_; have HO570 := n3_; have HO574 := n4_; have HO577 := n5_; have BK556 := n6_; have HB := n7_; clear n0_ n1_ n2_ n3_ n4_ n5_ n6_ n7_; (try clear hb); (try clear hb2); (try clear hk); (try clear hi); (try clear ho0); (try clear ho1)) | ((with_reducible refine gate_dst (N := 8) rfl ?_); refine box_event ?hg (N := 8) ?hd (cs := #[.slice none 0 0, .slice none 0 0]) (t := 31) ?hr ?_; (case hd => rfl); (case hg => rfl); (case hr => first | (go_simp; done) | (go_simp; rfl)); intro gb578 hg w32 hbox hb; have n0_ := Aside0.mk (Kd.R_below (pR HO561.out) hb); have n1_ := Aside0.mk (Kd.R_below (pR HO564.out) hb); have n2_ := Aside0.mk (Kd.R_below (pR HO567.out) hb); have n3_ := Aside0.mk (Kd.R_below (pR HO570.out) hb); have n4_ := Aside0.mk (Kd.R_below (pR HO574.out) hb); have n5_ := Aside0.mk (Kd.R_below (pR HO577.out) hb); have n6_ := Aside0.mk (blk_below (pK BK556.out) hb); have n7_ := Aside0.mk (below_step (pS HB.out) hb); have n8_ := Aside0.mk (hbox); have n9_ := Aside0.mk ((by rw [hg]; exact (below_size (pS HB.out)) : w.heap.size ≤ gb578)); have n10_ := Aside0.mk ((by rw [hg]; exact (below_size (pS HB.out)) : w.heap.size ≤ gb578)); have n11_ := Aside0.mk ((by rw [hg]; exact Nat.ne_of_lt (blk_lt (pK BK556.out)) : gb556 ≠ gb578)); have n12_ := Aside0.mk ((by rw [hg]; exact Nat.ne_of_gt (blk_lt (pK BK556.out)) : gb578 ≠ gb556)); clear HO561; clear HO564; clear HO567; clear HO570; clear HO574; clear HO577; clear BK556; clear HB; have HO561 := n0_; have HO564 := n1_; have HO567 := n2_; have HO570 := n3_; have HO574 := n4_; have HO577 := n5_; have BK556 := n6_; have HB := n7_; have BK578 := n8_; have GW578 := n9_; have GE578 := n10_; have NB556_578 := n11_; have NB578_556 := n12_; clear n0_ n1_ n2_ n3_ n4_ n5_ n6_ n7_ n8_ n9_ n10_ n11_ n12_; clear hb hbox hg; obtain ⟨Ao33, co33, eo33⟩ := Kd.R_slice HO574.out; subst eo33; have hnb34 := NB578_556.out; have hnc34 := NB556_578.out; have hcz35_0 : w32.cell? ⟨gb578, 0, none⟩ = some (.slice none 0 0) := (blk_cell BK578.out 0).trans rfl; have hcz35_1 : w32.cell? ⟨gb578, 1, none⟩ = some (.slice none 0 0) := (blk_cell BK578.out 1).trans rfl; have hfz35_0 := blk_frozen BK578.out 0; have hfz35_1 := blk_frozen BK578.out 1; obtain ⟨Ao36, co36, eo36⟩ := Kd.R_slice HO577.out; subst eo36) | ((with_reducible refine gate_callee (f := 27) rfl ?_); refine goesL_ (some 38) rfl rfl Try.func27 (by kernel_rfl) rfl #[.slice A1 l1.length c1] rfl bM ?_; (with_reducible refine (laws_toStringS.calls k _ _ l1 t579 _ ?side1 ?side2 A17.out).mono ?_); (case side1 => exact Kd.C_below HR1.out (pS HB.out)); (case side2 => exact HC1.out); rintro e w37 ⟨v580, rfl, ho0, hb⟩; refine ⟨_, rfl, ?_⟩; have n0_ := Aside0.mk (Kd.R_elder' (pR (Kd.R_mono (Kd.R_far (p := ⟨gb578, 1, none⟩) (Kd.R_far (p := ⟨gb578, 0, none⟩) (Kd.R_types HO561.out BK578.out (by decide)) (fun _ hk => hk.2) (.slice Ao33 t572.length co33)) (fun _ hk => hk.2) (.slice Ao36 t575.length co36)) (fun _ h_ => h_.1))) (Kd.R_base ho0) hb); have n1_ := Aside0.mk (Kd.R_below (pR (Kd.R_mono (Kd.R_far (p := ⟨gb578, 1, none⟩) (Kd.R_far (p := ⟨gb578, 0, none⟩) (Kd.R_types HO564.out BK578.out (by decide)) (fun _ hk => hk.2) (.slice Ao33 t572.length co33)) (fun _ hk => hk.2) (.slice Ao36 t575.length co36)) (fun _ h_ => h_.1))) hb); have n2_ := Aside0.mk (Kd.R_elder' (pR (Kd.R_mono (Kd.R_far (p := ⟨gb578, 1, none⟩) (Kd.R_far (p := ⟨gb578, 0, none⟩) (Kd.R_types HO567.out BK578.out (by decide)) (fun _ hk => hk.2) (.slice Ao33 t572.length co33)) (fun _ hk => hk.2) (.slice Ao36 t575.length co36)) (fun _ h_ => h_.1))) (Kd.R_base ho0) hb); have n3_ := Aside0.mk (Kd.R_below (pR (Kd.R_mono (Kd.R_far (p := ⟨gb578, 1, none⟩) (Kd.R_far (p := ⟨gb578, 0, none⟩) (Kd.R_types HO570.out BK578.out (by decide)) (fun _ hk => hk.2) (.slice Ao33 t572.length co33)) (fun _ hk => hk.2) (.slice Ao36 t575.length co36)) (fun _ h_ => h_.1))) hb); have n4_ := Aside0.mk (Kd.R_elder' (pR (Kd.R_mono (Kd.R_far (p := ⟨gb578, 1, none⟩) (Kd.R_far (p := ⟨gb578, 0, none⟩) (Kd.R_types HO574.out BK578.out (by decide)) (fun _ hk => hk.2) (.slice Ao33 t572.length co33)) (fun _ hk => hk.2) (.slice Ao36 t575.length co36)) (fun _ h_ => h_.1))) (Kd.R_base ho0) hb); have n5_ := Aside0.mk (Kd.R_below (pR (Kd.R_mono (Kd.R_far (p := ⟨gb578, 1, none⟩) (Kd.R_far (p := ⟨gb578, 0, none⟩) (Kd.R_types HO577.out BK578.out (by decide)) (fun _ hk => hk.2) (.slice Ao33 t572.length co33)) (fun _ hk => hk.2) (.slice Ao36 t575.length co36)) (fun _ h_ => h_.1))) hb); have n6_ := Aside0.mk (Kd.R_lower (Kd.R_new' (Kd.R_new' (Kd.R_new' ho0 (Kd.R_lt (pR (Kd.R_mono (Kd.R_far (p := ⟨gb578, 1, none⟩) (Kd.R_far (p := ⟨gb578, 0, none⟩) (Kd.R_types HO561.out BK578.out (by decide)) (fun _ hk => hk.2) (.slice Ao33 t572.length co33)) (fun _ hk => hk.2) (.slice Ao36 t575.length co36)) (fun _ h_ => h_.1))))) (Kd.R_lt (pR (Kd.R_mono (Kd.R_far (p := ⟨gb578, 1, none⟩) (Kd.R_far (p := ⟨gb578, 0, none⟩) (Kd.R_types HO567.out BK578.out (by decide)) (fun _ hk => hk.2) (.slice Ao33 t572.length co33)) (fun _ hk => hk.2) (.slice Ao36 t575.length co36)) (fun _ h_ => h_.1))))) (Kd.R_lt (pR (Kd.R_mono (Kd.R_far (p := ⟨gb578, 1, none⟩) (Kd.R_far (p := ⟨gb578, 0, none⟩) (Kd.R_types HO574.out BK578.out (by decide)) (fun _ hk => hk.2) (.slice Ao33 t572.length co33)) (fun _ hk => hk.2) (.slice Ao36 t575.length co36)) (fun _ h_ => h_.1))))) (below_size (pS HB.out))); have n7_ := Aside0.mk (blk_below (g := gb556) (o := .cells #[.slice A0_0 l0_0.length c0_0, .slice A0_1 l0_1.length c0_1] 25 (0, 0)) (by (with_reducible repeat (first | refine blk_drewN ?_ _ | refine blk_drew ?_ | refine blk_alloc ?_ _)); refine blk_far ?_ NB556_578.out _; (with_reducible repeat (first | refine blk_drewN ?_ _ | refine blk_drew ?_ | refine blk_alloc ?_ _)); refine blk_far ?_ NB556_578.out _; (with_reducible repeat (first | refine blk_drewN ?_ _ | refine blk_drew ?_ | refine blk_alloc ?_ _)); exact BK556.out) hb); have n8_ := Aside0.mk (blk_below (g := gb578) (o := .cells #[.slice Ao33 t572.length co33, .slice Ao36 t575.length co36] 31 (0, 0)) (by (with_reducible repeat (first | refine blk_drewN ?_ _ | refine blk_drew ?_ | refine blk_alloc ?_ _)); refine blk_put (cs := #[.slice Ao33 t572.length co33, .slice none 0 0]) ?_ 1 _ rfl; (with_reducible repeat (first | refine blk_drewN ?_ _ | refine blk_drew ?_ | refine blk_alloc ?_ _)); refine blk_put (cs := #[.slice none 0 0, .slice none 0 0]) ?_ 0 _ rfl; (with_reducible repeat (first | refine blk_drewN ?_ _ | refine blk_drew ?_ | refine blk_alloc ?_ _)); exact BK578.out) hb); have n9_ := Aside0.mk (below_step (pS HB.out) hb); clear HO561; clear HO564; clear HO567; clear HO570; clear HO574; clear HO577; clear BK556; clear BK578; clear HB; have HO561 := n0_; have HO564 := n1_; have HO567 := n2_; have HO570 := n3_; have HO574 := n4_; have HO577 := n5_; have HO581 := n6_; have BK556 := n7_; have BK578 := n8_; have HB := n9_; clear n0_ n1_ n2_ n3_ n4_ n5_ n6_ n7_ n8_ n9_; (try clear hb); (try clear hb2); (try clear hk); (try clear hi); (try clear ho0); have hcz38_0 : w37.cell? ⟨gb578, 0, none⟩ = some (.slice Ao33 t572.length co33) := (blk_cell BK578.out 0).trans rfl; have hcz38_1 : w37.cell? ⟨gb578, 1, none⟩ = some (.slice Ao36 t575.length co36) := (blk_cell BK578.out 1).trans rfl; have hfz38_0 := blk_frozen BK578.out 0; have hfz38_1 := blk_frozen BK578.out 1; obtain ⟨Ao39, co39, eo39⟩ := Kd.R_slice HO581.out; subst eo39) | ((with_reducible refine gate_callee (f := 28) rfl ?_); refine goesL_ (some 42) rfl rfl Try.func28 (by kernel_rfl) rfl #[.agg #[.slice Ao33 t572.length co33, .slice Ao36 t575.length co36], .slice Ao39 t579.length co39] rfl bM ?_; (with_reducible refine (impl_WalSteps.calls k _ _ t572 _ _ t575 _ _ t579 t582 t585 _ ?side1 ?side2 ?side3 ?side4 ?side5 ?side6 A18.out).mono ?_); (case side1 => exact pC (Kd.R_reads' HO574.out).2.2); (case side2 => exact (Kd.R_reads' HO574.out).2.1); (case side3 => exact pC (Kd.R_reads' HO577.out).2.2); (case side4 => exact (Kd.R_reads' HO577.out).2.1); (case side5 => exact pC (Kd.R_reads' HO581.out).2.2); (case side6 => exact (Kd.R_reads' HO581.out).2.1); rintro e w40 ⟨v583, rfl, ho0, hb⟩; refine ⟨_, rfl, ?_⟩; have n0_ := Aside0.mk (Kd.R_below (pR HO561.out) hb); have n1_ := Aside0.mk (Kd.R_below (pR HO564.out) hb); have n2_ := Aside0.mk (Kd.R_below (pR HO567.out) hb); have n3_ := Aside0.mk (Kd.R_elder' (pR HO570.out) (Kd.R_base ho0) hb); have n4_ := Aside0.mk (Kd.R_below (pR HO574.out) hb); have n5_ := Aside0.mk (Kd.R_below (pR HO577.out) hb); have n6_ := Aside0.mk (Kd.R_below (pR HO581.out) hb); have n7_ := Aside0.mk (Kd.R_lower (Kd.R_new' ho0 (Kd.R_lt (pR HO570.out))) (below_size (pS HB.out))); have n8_ := Aside0.mk (blk_below (pK BK556.out) hb); have n9_ := Aside0.mk (blk_below (pK BK578.out) hb); have n10_ := Aside0.mk (below_step (pS HB.out) hb); clear HO561; clear HO564; clear HO567; clear HO570; clear HO574; clear HO577; clear HO581; clear BK556; clear BK578; clear HB; have HO561 := n0_; have HO564 := n1_; have HO567 := n2_; have HO570 := n3_; have HO574 := n4_; have HO577 := n5_; have HO581 := n6_; have HO584 := n7_; have BK556 := n8_; have BK578 := n9_; have HB := n10_; clear n0_ n1_ n2_ n3_ n4_ n5_ n6_ n7_ n8_ n9_ n10_; (try clear hb); (try clear hb2); (try clear hk); (try clear hi); (try clear ho0)))
   (try simp only [Act.put, List.setIfInBounds_toArray, List.set_cons_zero, List.set_cons_succ])
   go_cut [53] (fun v53 wc => ∃ (kq : Nat) (x53_18 : Bool), v53 = .bool x53_18 ∧ Aside0 (laws_FnExactWalSteps.j0 kq l1 t568 t571 t579 t582 t585 x53_18 l0_0 l0_1 t572 t575 = some r) ∧ Aside0 (kq ≤ k) ∧ Aside0 (Kd.R k61 61 wc w.heap.size (fun k_ => some k_ ≠ (v583 : Value).ownBlock) v569 t568) ∧ Aside0 (Kd.R Kd.string 9 wc w.heap.size (fun k_ => some k_ ≠ ((.slice Ao33 t572.length co33) : Value).ownBlock) (.slice Ao39 t579.length co39) t579) ∧ Aside0 (Kd.R k61 61 wc w.heap.size (fun k_ => some k_ ≠ (v569 : Value).ownBlock) v583 t582) ∧ Aside0 (Kd.R Kd.string 9 wc w.heap.size (fun k_ => some k_ ≠ ((.slice Ao39 t579.length co39) : Value).ownBlock) (.slice Ao33 t572.length co33) t572) ∧ Aside0 (Kd.R k75 75 wc w.heap.size (fun _ => True) (.slice Ao36 t575.length co36) t575) ∧ Aside0 (wc.heap[gb556]? = some (.cells #[(.slice A0_0 l0_0.length c0_0), (.slice A0_1 l0_1.length c0_1)] 25 (0, 0))) ∧ Aside0 (wc.heap[gb578]? = some (.cells #[(.slice Ao33 t572.length co33), (.slice Ao36 t575.length co36)] 31 (0, 0))) ∧ Aside0 (Below w.heap.size w wc))
   case first =>
    have H := HC19.out
    clear HC19
    replace H := Option.bind_eq_some_iff.mp H
    obtain ⟨t586, A410, H⟩ := H
    replace H : (if t586 = true then (laws_FnExactWalSteps.j0 k l1 t568 t571 t579 t582 t585 (t585 != t571) l0_0 l0_1 t572 t575) else (laws_FnExactWalSteps.j0 k l1 t568 t571 t579 t582 t585 true l0_0 l0_1 t572 t575)) = some r := H
    have A41 := Aside0.mk A410
    clear A410
    by_cases c42 : t586 = true
    ·subst c42
     have H1 : (laws_FnExactWalSteps.j0 k l1 t568 t571 t579 t582 t585 (t585 != t571) l0_0 l0_1 t572 t575) = some r := by rw [if_pos rfl] at H; exact H
     clear H
     have H := H1
     clear H1
     have H' := Aside0.mk H
     clear H
     obtain ⟨Ao43, co43, eo43⟩ := Kd.R_slice HO584.out
     subst eo43
     obtain ⟨Ao44, co44, eo44⟩ := Kd.R_slice HO570.out
     subst eo44
     go_wp2_with (first | ((with_reducible refine gate_callee (f := 22) rfl ?_); refine goesL_ (some 47) rfl rfl Try.func22 (by kernel_rfl) rfl #[.slice Ao43 t582.length co43, .slice Ao44 t568.length co44] rfl bM ?_; (with_reducible refine (laws_eqSecStepS.calls k _ _ t582 _ _ t568 true _ ?side1 ?side2 ?side3 ?side4 A41.out).mono ?_); (case side1 => exact pC (Kd.R_reads' HO584.out).2.2); (case side2 => exact (Kd.R_reads' HO584.out).2.1); (case side3 => exact pC (Kd.R_reads' HO570.out).2.2); (case side4 => exact (Kd.R_reads' HO570.out).2.1); rintro e w45 ⟨rfl, hb⟩; refine ⟨_, rfl, ?_⟩; have n0_ := Aside0.mk (Kd.R_below (pR HO561.out) hb); have n1_ := Aside0.mk (Kd.R_below (pR HO564.out) hb); have n2_ := Aside0.mk (Kd.R_below (pR HO567.out) hb); have n3_ := Aside0.mk (Kd.R_below (pR HO570.out) hb); have n4_ := Aside0.mk (Kd.R_below (pR HO574.out) hb); have n5_ := Aside0.mk (Kd.R_below (pR HO577.out) hb); have n6_ := Aside0.mk (Kd.R_below (pR HO581.out) hb); have n7_ := Aside0.mk (Kd.R_below (pR HO584.out) hb); have n8_ := Aside0.mk (blk_below (pK BK556.out) hb); have n9_ := Aside0.mk (blk_below (pK BK578.out) hb); have n10_ := Aside0.mk (below_step (pS HB.out) hb); clear HO561; clear HO564; clear HO567; clear HO570; clear HO574; clear HO577; clear HO581; clear HO584; clear BK556; clear BK578; clear HB; have HO561 := n0_; have HO564 := n1_; have HO567 := n2_; have HO570 := n3_; have HO574 := n4_; have HO577 := n5_; have HO581 := n6_; have HO584 := n7_; have BK556 := n8_; have BK578 := n9_; have HB := n10_; clear n0_ n1_ n2_ n3_ n4_ n5_ n6_ n7_ n8_ n9_ n10_; (try clear hb); (try clear hb2); (try clear hk); (try clear hi)))
     go_meet
     case rel => exact ⟨_, ((t585 != t571)), (by first | rfl | (simp; done) | (simp [*]; done)), H', ⟨by first | omega | exact Nat.le_refl _⟩, ⟨pR (Kd.R_mono HO570.out (fun _ hk => hk.2))⟩, ⟨pR (Kd.R_mono HO581.out (fun _ hk => hk.2))⟩, ⟨pR (Kd.R_mono HO584.out (fun _ hk => hk.2))⟩, ⟨pR (Kd.R_mono HO574.out (fun _ hk => hk.2))⟩, ⟨pR (Kd.R_mono HO577.out (fun _ hk => trivial))⟩, ⟨pK BK556.out⟩, ⟨pK BK578.out⟩, ⟨pS HB.out⟩⟩
    ·replace c42 := Bool.eq_false_iff.mpr c42
     subst c42
     have H1 : (laws_FnExactWalSteps.j0 k l1 t568 t571 t579 t582 t585 true l0_0 l0_1 t572 t575) = some r := by rw [if_neg (show ¬ (false = true) by decide)] at H; exact H
     clear H
     have H := H1
     clear H1
     have H' := Aside0.mk H
     clear H
     obtain ⟨Ao46, co46, eo46⟩ := Kd.R_slice HO584.out
     subst eo46
     obtain ⟨Ao47, co47, eo47⟩ := Kd.R_slice HO570.out
     subst eo47
     go_wp2_with (first | ((with_reducible refine gate_callee (f := 22) rfl ?_); refine goesL_ (some 47) rfl rfl Try.func22 (by kernel_rfl) rfl #[.slice Ao46 t582.length co46, .slice Ao47 t568.length co47] rfl bM ?_; (with_reducible refine (laws_eqSecStepS.calls k _ _ t582 _ _ t568 false _ ?side1 ?side2 ?side3 ?side4 A41.out).mono ?_); (case side1 => exact pC (Kd.R_reads' HO584.out).2.2); (case side2 => exact (Kd.R_reads' HO584.out).2.1); (case side3 => exact pC (Kd.R_reads' HO570.out).2.2); (case side4 => exact (Kd.R_reads' HO570.out).2.1); rintro e w48 ⟨rfl, hb⟩; refine ⟨_, rfl, ?_⟩; have n0_ := Aside0.mk (Kd.R_below (pR HO561.out) hb); have n1_ := Aside0.mk (Kd.R_below (pR HO564.out) hb); have n2_ := Aside0.mk (Kd.R_below (pR HO567.out) hb); have n3_ := Aside0.mk (Kd.R_below (pR HO570.out) hb); have n4_ := Aside0.mk (Kd.R_below (pR HO574.out) hb); have n5_ := Aside0.mk (Kd.R_below (pR HO577.out) hb); have n6_ := Aside0.mk (Kd.R_below (pR HO581.out) hb); have n7_ := Aside0.mk (Kd.R_below (pR HO584.out) hb); have n8_ := Aside0.mk (blk_below (pK BK556.out) hb); have n9_ := Aside0.mk (blk_below (pK BK578.out) hb); have n10_ := Aside0.mk (below_step (pS HB.out) hb); clear HO561; clear HO564; clear HO567; clear HO570; clear HO574; clear HO577; clear HO581; clear HO584; clear BK556; clear BK578; clear HB; have HO561 := n0_; have HO564 := n1_; have HO567 := n2_; have HO570 := n3_; have HO574 := n4_; have HO577 := n5_; have HO581 := n6_; have HO584 := n7_; have BK556 := n8_; have BK578 := n9_; have HB := n10_; clear n0_ n1_ n2_ n3_ n4_ n5_ n6_ n7_ n8_ n9_ n10_; (try clear hb); (try clear hb2); (try clear hk); (try clear hi)))
     go_meet
     case rel => exact ⟨_, (true), (by first | rfl | (simp; done) | (simp [*]; done)), H', ⟨by first | omega | exact Nat.le_refl _⟩, ⟨pR (Kd.R_mono HO570.out (fun _ hk => hk.2))⟩, ⟨pR (Kd.R_mono HO581.out (fun _ hk => hk.2))⟩, ⟨pR (Kd.R_mono HO584.out (fun _ hk => hk.2))⟩, ⟨pR (Kd.R_mono HO574.out (fun _ hk => hk.2))⟩, ⟨pR (Kd.R_mono HO577.out (fun _ hk => trivial))⟩, ⟨pK BK556.out⟩, ⟨pK BK578.out⟩, ⟨pS HB.out⟩⟩
   case rest =>
    clear HC19
    try clear c1
    try clear c2
    try clear p2
    try clear c3
    try clear c4
    try clear c4b0
    try clear c5
    try clear c9
    try clear c9b0
    try clear c11
    try clear c13
    try clear c22
    try clear c25
    try clear c26
    try clear c27
    try clear c28
    try clear c34
    try clear c42
    try clear hcz11_0
    try clear hcz11_1
    try clear hcz21_0
    try clear hcz21_1
    try clear hcz23_0
    try clear hcz23_1
    try clear hcz30_0
    try clear hcz30_1
    try clear hcz35_0
    try clear hcz35_1
    try clear hcz38_0
    try clear hcz38_1
    try clear hcz6_0
    try clear hcz6_1
    try clear hfz11_0
    try clear hfz11_1
    try clear hfz21_0
    try clear hfz21_1
    try clear hfz23_0
    try clear hfz23_1
    try clear hfz30_0
    try clear hfz30_1
    try clear hfz35_0
    try clear hfz35_1
    try clear hfz38_0
    try clear hfz38_1
    try clear hfz6_0
    try clear hfz6_1
    obtain ⟨kq, x53_18, rfl, HA, HJ18, HO_6, HO_9, HO_10, HO_579000, HO_579001, BK556, BK578, HB⟩ := hcut
    cases kq with
    | zero => exact absurd HA.out (by simp [laws_FnExactWalSteps.j0])
    | succ kj18 =>
     have H := HA.out
     clear HA
     simp only [laws_FnExactWalSteps.j0] at H
     by_cases c49 : x53_18 = true
     ·subst c49
      have H1 : (some false) = some r := by rw [if_pos rfl] at H; exact H
      clear H
      have H := H1
      clear H1
      obtain rfl := Option.some.inj H
      go_wp2
      go_ret
      exact ⟨by first | rfl | (simp [errW_none, errW_some] <;> rfl) | (simp [*, errW_none, errW_some] <;> rfl), pS HB.out⟩
     ·replace c49 := Bool.eq_false_iff.mpr c49
      subst c49
      have H1 : ((laws_toSecDisk.f kj18 l0_0 l0_1).bind fun bt587 => ((laws_eqSecDisk.f kj18 t572 t575 bt587.1 bt587.2).bind fun t593 => (if t593 = true then ((laws_toStringS.f kj18 l1).bind fun t594 => ((laws_eqStringS.f kj18 t579 t594).bind fun t597 => (if t597 = true then ((laws_markSecDisk.f kj18 t572 t575 1).bind fun bt598 => ((laws_markStringS.f kj18 t579 bt598.1).bind fun bt601 => (if bt601.1 < 0 then (laws_FnExactWalSteps.j1 kj18 l1 t568 t571 t582 true l0_0 l0_1) else ((laws_eqSecStepS.f kj18 t582 t568).bind fun t603 => (if t603 = true then (laws_FnExactWalSteps.j1 kj18 l1 t568 t571 t582 (t585 != t571) l0_0 l0_1) else (laws_FnExactWalSteps.j1 kj18 l1 t568 t571 t582 true l0_0 l0_1)))))) else (some false)))) else (some false)))) = some r := by rw [if_neg (show ¬ (false = true) by decide)] at H; exact H
      clear H
      have H := H1
      clear H1
      replace H := Option.bind_eq_some_iff.mp H
      obtain ⟨⟨t587, t590⟩, A500, H⟩ := H
      replace H : ((laws_eqSecDisk.f kj18 t572 t575 t587 t590).bind fun t593 => (if t593 = true then ((laws_toStringS.f kj18 l1).bind fun t594 => ((laws_eqStringS.f kj18 t579 t594).bind fun t597 => (if t597 = true then ((laws_markSecDisk.f kj18 t572 t575 1).bind fun bt598 => ((laws_markStringS.f kj18 t579 bt598.1).bind fun bt601 => (if bt601.1 < 0 then (laws_FnExactWalSteps.j1 kj18 l1 t568 t571 t582 true l0_0 l0_1) else ((laws_eqSecStepS.f kj18 t582 t568).bind fun t603 => (if t603 = true then (laws_FnExactWalSteps.j1 kj18 l1 t568 t571 t582 (t585 != t571) l0_0 l0_1) else (laws_FnExactWalSteps.j1 kj18 l1 t568 t571 t582 true l0_0 l0_1)))))) else (some false)))) else (some false))) = some r := H
      have A50 := Aside0.mk A500
      clear A500
      replace H := Option.bind_eq_some_iff.mp H
      obtain ⟨t593, A510, H⟩ := H
      replace H : (if t593 = true then ((laws_toStringS.f kj18 l1).bind fun t594 => ((laws_eqStringS.f kj18 t579 t594).bind fun t597 => (if t597 = true then ((laws_markSecDisk.f kj18 t572 t575 1).bind fun bt598 => ((laws_markStringS.f kj18 t579 bt598.1).bind fun bt601 => (if bt601.1 < 0 then (laws_FnExactWalSteps.j1 kj18 l1 t568 t571 t582 true l0_0 l0_1) else ((laws_eqSecStepS.f kj18 t582 t568).bind fun t603 => (if t603 = true then (laws_FnExactWalSteps.j1 kj18 l1 t568 t571 t582 (t585 != t571) l0_0 l0_1) else (laws_FnExactWalSteps.j1 kj18 l1 t568 t571 t582 true l0_0 l0_1)))))) else (some false)))) else (some false)) = some r := H
      have A51 := Aside0.mk A510
      clear A510
      by_cases c52 : t593 = true
      ·subst c52
       have H1 : ((laws_toStringS.f kj18 l1).bind fun t594 => ((laws_eqStringS.f kj18 t579 t594).bind fun t597 => (if t597 = true then ((laws_markSecDisk.f kj18 t572 t575 1).bind fun bt598 => ((laws_markStringS.f kj18 t579 bt598.1).bind fun bt601 => (if bt601.1 < 0 then (laws_FnExactWalSteps.j1 kj18 l1 t568 t571 t582 true l0_0 l0_1) else ((laws_eqSecStepS.f kj18 t582 t568).bind fun t603 => (if t603 = true then (laws_FnExactWalSteps.j1 kj18 l1 t568 t571 t582 (t585 != t571) l0_0 l0_1) else (laws_FnExactWalSteps.j1 kj18 l1 t568 t571 t582 true l0_0 l0_1)))))) else (some false)))) = some r := by rw [if_pos rfl] at H; exact H
       clear H
       have H := H1
       clear H1
       replace H := Option.bind_eq_some_iff.mp H
       obtain ⟨t594, A530, H⟩ := H
       replace H : ((laws_eqStringS.f kj18 t579 t594).bind fun t597 => (if t597 = true then ((laws_markSecDisk.f kj18 t572 t575 1).bind fun bt598 => ((laws_markStringS.f kj18 t579 bt598.1).bind fun bt601 => (if bt601.1 < 0 then (laws_FnExactWalSteps.j1 kj18 l1 t568 t571 t582 true l0_0 l0_1) else ((laws_eqSecStepS.f kj18 t582 t568).bind fun t603 => (if t603 = true then (laws_FnExactWalSteps.j1 kj18 l1 t568 t571 t582 (t585 != t571) l0_0 l0_1) else (laws_FnExactWalSteps.j1 kj18 l1 t568 t571 t582 true l0_0 l0_1)))))) else (some false))) = some r := H
       have A53 := Aside0.mk A530
       clear A530
       replace H := Option.bind_eq_some_iff.mp H
       obtain ⟨t597, A540, H⟩ := H
       replace H : (if t597 = true then ((laws_markSecDisk.f kj18 t572 t575 1).bind fun bt598 => ((laws_markStringS.f kj18 t579 bt598.1).bind fun bt601 => (if bt601.1 < 0 then (laws_FnExactWalSteps.j1 kj18 l1 t568 t571 t582 true l0_0 l0_1) else ((laws_eqSecStepS.f kj18 t582 t568).bind fun t603 => (if t603 = true then (laws_FnExactWalSteps.j1 kj18 l1 t568 t571 t582 (t585 != t571) l0_0 l0_1) else (laws_FnExactWalSteps.j1 kj18 l1 t568 t571 t582 true l0_0 l0_1)))))) else (some false)) = some r := H
       have A54 := Aside0.mk A540
       clear A540
       by_cases c55 : t597 = true
       ·subst c55
        have H1 : ((laws_markSecDisk.f kj18 t572 t575 1).bind fun bt598 => ((laws_markStringS.f kj18 t579 bt598.1).bind fun bt601 => (if bt601.1 < 0 then (laws_FnExactWalSteps.j1 kj18 l1 t568 t571 t582 true l0_0 l0_1) else ((laws_eqSecStepS.f kj18 t582 t568).bind fun t603 => (if t603 = true then (laws_FnExactWalSteps.j1 kj18 l1 t568 t571 t582 (t585 != t571) l0_0 l0_1) else (laws_FnExactWalSteps.j1 kj18 l1 t568 t571 t582 true l0_0 l0_1)))))) = some r := by rw [if_pos rfl] at H; exact H
        clear H
        have H := H1
        clear H1
        replace H := Option.bind_eq_some_iff.mp H
        obtain ⟨⟨t598, t599, t600⟩, A560, H⟩ := H
        replace H : ((laws_markStringS.f kj18 t579 t598).bind fun bt601 => (if bt601.1 < 0 then (laws_FnExactWalSteps.j1 kj18 l1 t568 t571 t582 true l0_0 l0_1) else ((laws_eqSecStepS.f kj18 t582 t568).bind fun t603 => (if t603 = true then (laws_FnExactWalSteps.j1 kj18 l1 t568 t571 t582 (t585 != t571) l0_0 l0_1) else (laws_FnExactWalSteps.j1 kj18 l1 t568 t571 t582 true l0_0 l0_1))))) = some r := H
        have A56 := Aside0.mk A560
        clear A560
        replace H := Option.bind_eq_some_iff.mp H
        obtain ⟨⟨t601, t602⟩, A570, H⟩ := H
        replace H : (if t601 < 0 then (laws_FnExactWalSteps.j1 kj18 l1 t568 t571 t582 true l0_0 l0_1) else ((laws_eqSecStepS.f kj18 t582 t568).bind fun t603 => (if t603 = true then (laws_FnExactWalSteps.j1 kj18 l1 t568 t571 t582 (t585 != t571) l0_0 l0_1) else (laws_FnExactWalSteps.j1 kj18 l1 t568 t571 t582 true l0_0 l0_1)))) = some r := H
        have A57 := Aside0.mk A570
        clear A570
        have HC58 := Aside0.mk H
        clear H
        try go_wp2
        have n0_ := Aside0.mk (Kd.R_drew HO_6.out)
        have n1_ := Aside0.mk (Kd.R_drew HO_9.out)
        have n2_ := Aside0.mk (Kd.R_drew HO_10.out)
        have n3_ := Aside0.mk (Kd.R_drew HO_579000.out)
        have n4_ := Aside0.mk (Kd.R_drew HO_579001.out)
        have n5_ := Aside0.mk (blk_drew BK556.out)
        have n6_ := Aside0.mk (blk_drew BK578.out)
        have n7_ := Aside0.mk (below_drew1 HB.out)
        clear HO_6
        clear HO_9
        clear HO_10
        clear HO_579000
        clear HO_579001
        clear BK556
        clear BK578
        clear HB
        have HO_6 := n0_
        have HO_9 := n1_
        have HO_10 := n2_
        have HO_579000 := n3_
        have HO_579001 := n4_
        have BK556 := n5_
        have BK578 := n6_
        have HB := n7_
        clear n0_ n1_ n2_ n3_ n4_ n5_ n6_ n7_
        refine start_ (n := 5) (S := fun w' => w'.cell? ⟨gb578, 0, none⟩ = some (.slice Ao33 t572.length co33) ∧ w'.cell? ⟨gb578, 1, none⟩ = some (.slice Ao36 t575.length co36) ∧ w'.cell? ⟨gb556, 0, none⟩ = some (.slice A0_0 l0_0.length c0_0) ∧ w'.cell? ⟨gb556, 1, none⟩ = some (.slice A0_1 l0_1.length c0_1)) (ds := []) #[false, false, false, false, false] (by kernel_rfl) rfl rfl ⟨(blk_cell BK578.out 0).trans rfl, (blk_cell BK578.out 1).trans rfl, (blk_cell BK556.out 0).trans rfl, (blk_cell BK556.out 1).trans rfl⟩ (fun hHeld => ?_)
        generalize wc.drew = w59 at HO_6 HO_9 HO_10 HO_579000 HO_579001 BK556 BK578 HB hHeld ⊢
        refine take_ (i := 0) (N := some 54) (v := ?_) (a' := ?_) #[true, false, false, false, false] rfl rfl (by kernel_rfl) (fun _ _ _ h => h) (Or.inl ⟨by rfl, ?_⟩) hHeld ?_ ?_
        rotate_left
        ·rintro w' ⟨s0, s1, s2, s3⟩
         go_simp
         with_reducible rfl
        rotate_left
        ·simp only [Act.put, List.setIfInBounds_toArray, List.set_cons_zero, List.set_cons_succ, i64_w, i32_w]
         rfl
        refine take_ (i := 1) (N := some 55) (v := ?_) (a' := ?_) #[true, true, false, false, false] rfl rfl (by kernel_rfl) (fun _ _ _ h => h) (Or.inl ⟨by rfl, ?_⟩) hHeld ?_ ?_
        rotate_left
        ·rintro w' ⟨s0, s1, s2, s3⟩
         go_simp
         with_reducible rfl
        rotate_left
        ·simp only [Act.put, List.setIfInBounds_toArray, List.set_cons_zero, List.set_cons_succ, i64_w, i32_w]
         rfl
        refine one_ (i := 2) (N := some 56) #[true, true, true, false, false] rfl rfl (by kernel_rfl) (by decide) (fun K hK => ?_)
        refine goes_ Try.func13 (by kernel_rfl) rfl #[.agg #[.slice A0_0 l0_0.length c0_0, .slice A0_1 l0_1.length c0_1]] (by rfl) rfl rfl bM ?_
        with_reducible refine (laws_toSecDisk.calls kj18 _ _ l0_0 _ _ l0_1 t587 t590 _ ?side1 ?side2 ?side3 ?side4 A50.out).mono ?_
        (case side1 => exact pC (Kd.C_below HR0_0.out HB.out))
        (case side2 => exact HC0_0.out)
        (case side3 => exact pC (Kd.C_below HR0_1.out HB.out))
        (case side4 => exact HC0_1.out)
        rintro e w60 ⟨v588, v591, rfl, ho0, ho1, hb⟩
        refine ⟨_, rfl, ?_⟩
        have n0_ := Aside0.mk (Kd.R_below (pR HO_6.out) hb)
        have n1_ := Aside0.mk (Kd.R_elder' (pR HO_9.out) (Kd.R_base ho0) hb)
        have n2_ := Aside0.mk (Kd.R_below (pR HO_10.out) hb)
        have n3_ := Aside0.mk (Kd.R_elder' (pR HO_579000.out) (Kd.R_base ho0) hb)
        have n4_ := Aside0.mk (Kd.R_elder' (pR HO_579001.out) (Kd.R_base ho1) hb)
        have n5_ := Aside0.mk (Kd.R_lower (Kd.R_new' (Kd.R_new' ho0 (Kd.R_lt (pR HO_9.out))) (Kd.R_lt (pR HO_579000.out))) (below_size (pS HB.out)))
        have n6_ := Aside0.mk (Kd.R_lower (Kd.R_new' ho1 (Kd.R_lt (pR HO_579001.out))) (below_size (pS HB.out)))
        have n7_ := Aside0.mk (blk_below (pK BK556.out) hb)
        have n8_ := Aside0.mk (blk_below (pK BK578.out) hb)
        have n9_ := Aside0.mk (below_step (pS HB.out) hb)
        clear HO_6
        clear HO_9
        clear HO_10
        clear HO_579000
        clear HO_579001
        clear BK556
        clear BK578
        clear HB
        have HO_6 := n0_
        have HO_9 := n1_
        have HO_10 := n2_
        have HO_579000 := n3_
        have HO_579001 := n4_
        have HO589 := n5_
        have HO592 := n6_
        have BK556 := n7_
        have BK578 := n8_
        have HB := n9_
        clear n0_ n1_ n2_ n3_ n4_ n5_ n6_ n7_ n8_ n9_
        (try clear hb)
        (try clear hb2)
        (try clear hk)
        (try clear hi)
        (try clear ho0)
        (try clear ho1)
        obtain ⟨Ao61, co61, eo61⟩ := Kd.R_slice HO589.out
        (first | subst eo61 | (injection eo61 with f1_ f2_ f3_; have f4_ := f1_.symm; have f5_ := f3_.symm; clear f1_ f2_ f3_; subst f4_; subst f5_))
        obtain ⟨Ao62, co62, eo62⟩ := Kd.R_slice HO592.out
        (first | subst eo62 | (injection eo62 with f1_ f2_ f3_; have f4_ := f1_.symm; have f5_ := f3_.symm; clear f1_ f2_ f3_; subst f4_; subst f5_))
        refine hK.out _ _ ⟨(blk_cell BK578.out 0).trans rfl, (blk_cell BK578.out 1).trans rfl, (blk_cell BK556.out 0).trans rfl, (blk_cell BK556.out 1).trans rfl⟩ (fun hHeld => ?_)
        clear hK K
        refine norm_ (a' := ?_) ?_ ?_
        rotate_left
        ·show Act.put _ (some 56) _ = _
         simp only [Act.put, List.setIfInBounds_toArray, List.set_cons_zero, List.set_cons_succ, i64_w, i32_w]
         rfl
        refine one_ (i := 3) (N := some 57) #[true, true, true, true, false] rfl rfl (by kernel_rfl) (by decide) (fun K hK => ?_)
        refine goes_ Try.func16 (by kernel_rfl) rfl #[.agg #[.slice Ao33 t572.length co33, .slice Ao36 t575.length co36], .agg #[.slice Ao61 t587.length co61, .slice Ao62 t590.length co62]] (by rfl) rfl rfl bM ?_
        with_reducible refine (laws_eqSecDisk.calls kj18 _ _ t572 _ _ t575 _ _ t587 _ _ t590 true _ ?side1 ?side2 ?side3 ?side4 ?side5 ?side6 ?side7 ?side8 A51.out).mono ?_
        (case side1 => exact pC (Kd.R_reads' HO_579000.out).2.2)
        (case side2 => exact (Kd.R_reads' HO_579000.out).2.1)
        (case side3 => exact pC (Kd.R_reads' HO_579001.out).2.2)
        (case side4 => exact (Kd.R_reads' HO_579001.out).2.1)
        (case side5 => exact pC (Kd.R_reads' HO589.out).2.2)
        (case side6 => exact (Kd.R_reads' HO589.out).2.1)
        (case side7 => exact pC (Kd.R_reads' HO592.out).2.2)
        (case side8 => exact (Kd.R_reads' HO592.out).2.1)
        rintro e w63 ⟨rfl, hb⟩
        refine ⟨_, rfl, ?_⟩
        have n0_ := Aside0.mk (Kd.R_below (pR HO_6.out) hb)
        have n1_ := Aside0.mk (Kd.R_below (pR HO_9.out) hb)
        have n2_ := Aside0.mk (Kd.R_below (pR HO_10.out) hb)
        have n3_ := Aside0.mk (Kd.R_below (pR HO_579000.out) hb)
        have n4_ := Aside0.mk (Kd.R_below (pR HO_579001.out) hb)
        have n5_ := Aside0.mk (Kd.R_below (pR HO589.out) hb)
        have n6_ := Aside0.mk (Kd.R_below (pR HO592.out) hb)
        have n7_ := Aside0.mk (blk_below (pK BK556.out) hb)
        have n8_ := Aside0.mk (blk_below (pK BK578.out) hb)
        have n9_ := Aside0.mk (below_step (pS HB.out) hb)
        clear HO_6
        clear HO_9
        clear HO_10
        clear HO_579000
        clear HO_579001
        clear HO589
        clear HO592
        clear BK556
        clear BK578
        clear HB
        have HO_6 := n0_
        have HO_9 := n1_
        have HO_10 := n2_
        have HO_579000 := n3_
        have HO_579001 := n4_
        have HO589 := n5_
        have HO592 := n6_
        have BK556 := n7_
        have BK578 := n8_
        have HB := n9_
        clear n0_ n1_ n2_ n3_ n4_ n5_ n6_ n7_ n8_ n9_
        (try clear hb)
        (try clear hb2)
        (try clear hk)
        (try clear hi)
        refine hK.out _ _ ⟨(blk_cell BK578.out 0).trans rfl, (blk_cell BK578.out 1).trans rfl, (blk_cell BK556.out 0).trans rfl, (blk_cell BK556.out 1).trans rfl⟩ (fun hHeld => ?_)
        clear hK K
        refine norm_ (a' := ?_) ?_ ?_
        rotate_left
        ·show Act.put _ (some 57) _ = _
         simp only [Act.put, List.setIfInBounds_toArray, List.set_cons_zero, List.set_cons_succ, i64_w, i32_w]
         rfl
        refine pure_ (i := 4) (N := some 58) (v := ?_) (a' := ?_) #[true, true, true, true, true] rfl rfl (by kernel_rfl) (fun _ _ _ h => h) (Or.inl ⟨by rfl, ?_⟩) ?_ ?_
        rotate_left
        ·intro w'
         go_simp
         with_reducible rfl
        rotate_left
        ·simp only [Act.put, List.setIfInBounds_toArray, List.set_cons_zero, List.set_cons_succ, i64_w, i32_w]
         rfl
        refine done_ (by kernel_rfl) ?_
        go_upto_region 21 with (first | ((with_reducible refine gate_callee (f := 27) rfl ?_); refine goesL_ (some 61) rfl rfl Try.func27 (by kernel_rfl) rfl #[.slice A1 l1.length c1] rfl bM ?_; (with_reducible refine (laws_toStringS.calls kj18 _ _ l1 t594 _ ?side1 ?side2 A53.out).mono ?_); (case side1 => exact pC (Kd.C_below HR1.out HB.out)); (case side2 => exact HC1.out); rintro e w64 ⟨v595, rfl, ho0, hb⟩; refine ⟨_, rfl, ?_⟩; have n0_ := Aside0.mk (Kd.R_below (pR HO_6.out) hb); have n1_ := Aside0.mk (Kd.R_elder' (pR HO_9.out) (Kd.R_base ho0) hb); have n2_ := Aside0.mk (Kd.R_below (pR HO_10.out) hb); have n3_ := Aside0.mk (Kd.R_elder' (pR HO_579000.out) (Kd.R_base ho0) hb); have n4_ := Aside0.mk (Kd.R_below (pR HO_579001.out) hb); have n5_ := Aside0.mk (Kd.R_elder' (pR HO589.out) (Kd.R_base ho0) hb); have n6_ := Aside0.mk (Kd.R_below (pR HO592.out) hb); have n7_ := Aside0.mk (Kd.R_lower (Kd.R_new' (Kd.R_new' (Kd.R_new' ho0 (Kd.R_lt (pR HO_9.out))) (Kd.R_lt (pR HO_579000.out))) (Kd.R_lt (pR HO589.out))) (below_size (pS HB.out))); have n8_ := Aside0.mk (blk_below (pK BK556.out) hb); have n9_ := Aside0.mk (blk_below (pK BK578.out) hb); have n10_ := Aside0.mk (below_step (pS HB.out) hb); clear HO_6; clear HO_9; clear HO_10; clear HO_579000; clear HO_579001; clear HO589; clear HO592; clear BK556; clear BK578; clear HB; have HO_6 := n0_; have HO_9 := n1_; have HO_10 := n2_; have HO_579000 := n3_; have HO_579001 := n4_; have HO589 := n5_; have HO592 := n6_; have HO596 := n7_; have BK556 := n8_; have BK578 := n9_; have HB := n10_; clear n0_ n1_ n2_ n3_ n4_ n5_ n6_ n7_ n8_ n9_ n10_; (try clear hb); (try clear hb2); (try clear hk); (try clear hi); (try clear ho0); obtain ⟨Ao65, co65, eo65⟩ := Kd.R_slice HO596.out; subst eo65) | ((with_reducible refine gate_callee (f := 15) rfl ?_); refine goesL_ (some 62) rfl rfl Try.func15 (by kernel_rfl) rfl #[.slice Ao39 t579.length co39, .slice Ao65 t594.length co65] rfl bM ?_; (with_reducible refine (laws_eqStringS.calls kj18 _ _ t579 _ _ t594 true _ ?side1 ?side2 ?side3 ?side4 A54.out).mono ?_); (case side1 => exact pC (Kd.R_reads' HO_9.out).2.2); (case side2 => exact (Kd.R_reads' HO_9.out).2.1); (case side3 => exact pC (Kd.R_reads' HO596.out).2.2); (case side4 => exact (Kd.R_reads' HO596.out).2.1); rintro e w' ⟨rfl, ⟨nd, rfl⟩⟩; refine ⟨_, rfl, ?_⟩; have hnb66 := NB578_556.out; have hnc66 := NB556_578.out; have hcz67_0 : w64.cell? ⟨gb578, 0, none⟩ = some (.slice Ao33 t572.length co33) := (blk_cell BK578.out 0).trans rfl; have hcz67_1 : w64.cell? ⟨gb578, 1, none⟩ = some (.slice Ao36 t575.length co36) := (blk_cell BK578.out 1).trans rfl; have hfz67_0 := blk_frozen BK578.out 0; have hfz67_1 := blk_frozen BK578.out 1) | ((with_reducible refine gate_callee (f := 17) rfl ?_); refine goesL_ (some 66) rfl rfl Try.func17 (by kernel_rfl) rfl #[.agg #[.slice Ao33 t572.length co33, .slice Ao36 t575.length co36], .int .i64 1] rfl bM ?_; (with_reducible refine (laws_markSecDisk.calls kj18 (fun k_ => some k_ = (.slice Ao33 t572.length co33 : Value).ownBlock) (.slice Ao33 t572.length co33) t572 (fun k_ => some k_ = (.slice Ao36 t575.length co36 : Value).ownBlock) (.slice Ao36 t575.length co36) t575 1 t598 t599 t600 w _ ?side1 ?side2 ?side3 A56.out).mono ?_); (case side1 => repeat (first | (with_reducible first | exact HB.out | apply below_alloc | apply pw_below_drewN | apply below_drew1 | refine below_set ?_ GE556.out | refine below_set ?_ GE578.out) | exact HB.out)); (case side2 => exact Kd.R_tight rfl HO_579000.out); (case side3 => exact Kd.R_tight rfl HO_579001.out); rintro e w68 ⟨rfl, hy0, hy1, hb, hkp⟩; refine ⟨_, rfl, ?_⟩; have n0_ := Aside0.mk (Kd.R_mono (ok' := fun k_ => some k_ ≠ (v583 : Value).ownBlock) (Kd.R_keptB ((Kd.R_apart' (Kd.R_apart' HO_6.out (Kd.R_typed HO_579000.out) (by decide)) (Kd.R_typed HO_579001.out) (by decide))) hkp (fun k_ hk_ hs_ => Or.elim hs_ (fun e_ => (hk_.1.2) e_) (fun e_ => (hk_.2) e_))) (fun k_ hk_ => hk_.1.1.1)); have n1_ := Aside0.mk (Kd.R_mono (ok' := fun k_ => some k_ ≠ (.slice Ao33 t572.length co33 : Value).ownBlock ∧ some k_ ≠ (.slice Ao61 t587.length co61 : Value).ownBlock ∧ some k_ ≠ (.slice Ao65 t594.length co65 : Value).ownBlock) (Kd.R_keptB ((Kd.R_apart' HO_9.out (Kd.R_typed HO_579001.out) (by decide))) hkp (fun k_ hk_ hs_ => Or.elim hs_ (fun e_ => (hk_.1.1.1) e_) (fun e_ => (hk_.2) e_))) (fun k_ hk_ => ⟨hk_.1.1.1.1, hk_.1.1.1.2, hk_.1.1.2⟩)); have n2_ := Aside0.mk (Kd.R_mono (ok' := fun k_ => some k_ ≠ (v569 : Value).ownBlock) (Kd.R_keptB ((Kd.R_apart' (Kd.R_apart' HO_10.out (Kd.R_typed HO_579000.out) (by decide)) (Kd.R_typed HO_579001.out) (by decide))) hkp (fun k_ hk_ hs_ => Or.elim hs_ (fun e_ => (hk_.1.2) e_) (fun e_ => (hk_.2) e_))) (fun k_ hk_ => hk_.1.1.1)); have n3_ := Aside0.mk (Kd.R_reok rfl hy0 (fun k_ e_ => HO_579000.out.1 k_ e_)); have n4_ := Aside0.mk (Kd.R_reok rfl hy1 (fun k_ e_ => HO_579001.out.1 k_ e_)); have n5_ := Aside0.mk (blk_kept (pK BK556.out) hkp (fun hs_ => Or.elim hs_ (fun e_ => (fun e_ => (Kd.R_ne HO_579000.out BK556.out (by decide)) e_) e_) (fun e_ => (fun e_ => (Kd.R_ne HO_579001.out BK556.out (by decide)) e_) e_))); have n6_ := Aside0.mk (blk_kept (pK BK578.out) hkp (fun hs_ => Or.elim hs_ (fun e_ => (fun e_ => (Kd.R_ne HO_579000.out BK578.out (by decide)) e_) e_) (fun e_ => (fun e_ => (Kd.R_ne HO_579001.out BK578.out (by decide)) e_) e_))); have n7_ := Aside0.mk (Kd.R_mono (ok' := fun k_ => some k_ ≠ (.slice Ao39 t579.length co39 : Value).ownBlock ∧ some k_ ≠ (.slice Ao33 t572.length co33 : Value).ownBlock ∧ some k_ ≠ (.slice Ao65 t594.length co65 : Value).ownBlock) (Kd.R_keptB ((Kd.R_apart' HO589.out (Kd.R_typed HO_579001.out) (by decide))) hkp (fun k_ hk_ hs_ => Or.elim hs_ (fun e_ => (hk_.1.1.2) e_) (fun e_ => (hk_.2) e_))) (fun k_ hk_ => ⟨hk_.1.1.1.1.2, hk_.1.1.1.2, hk_.1.1.2⟩)); have n8_ := Aside0.mk (Kd.R_mono (ok' := fun k_ => some k_ ≠ (.slice Ao36 t575.length co36 : Value).ownBlock) (Kd.R_keptB ((Kd.R_apart' HO592.out (Kd.R_typed HO_579000.out) (by decide))) hkp (fun k_ hk_ hs_ => Or.elim hs_ (fun e_ => (hk_.2) e_) (fun e_ => (hk_.1.2) e_))) (fun k_ hk_ => hk_.1.1.2)); have n9_ := Aside0.mk (Kd.R_mono (ok' := fun k_ => some k_ ≠ (.slice Ao39 t579.length co39 : Value).ownBlock ∧ some k_ ≠ (.slice Ao33 t572.length co33 : Value).ownBlock ∧ some k_ ≠ (.slice Ao61 t587.length co61 : Value).ownBlock) (Kd.R_keptB ((Kd.R_apart' HO596.out (Kd.R_typed HO_579001.out) (by decide))) hkp (fun k_ hk_ hs_ => Or.elim hs_ (fun e_ => (hk_.1.1.2) e_) (fun e_ => (hk_.2) e_))) (fun k_ hk_ => ⟨hk_.1.1.1.1.2, hk_.1.1.1.2, hk_.1.1.2⟩)); have n10_ := Aside0.mk (hb); clear HO_6; clear HO_9; clear HO_10; clear HO_579000; clear HO_579001; clear BK556; clear BK578; clear HO589; clear HO592; clear HO596; clear HB; have HO_6 := n0_; have HO_9 := n1_; have HO_10 := n2_; have HO_579000 := n3_; have HO_579001 := n4_; have BK556 := n5_; have BK578 := n6_; have HO589 := n7_; have HO592 := n8_; have HO596 := n9_; have HB := n10_; clear n0_ n1_ n2_ n3_ n4_ n5_ n6_ n7_ n8_ n9_ n10_; (try clear hb); (try clear hkp); (try clear hy0); (try clear hy1)) | ((with_reducible refine gate_callee (f := 18) rfl ?_); refine goesL_ (some 69) rfl rfl Try.func18 (by kernel_rfl) rfl #[.slice Ao39 t579.length co39, .int .i64 t598] rfl bM ?_; (with_reducible refine (laws_markStringS.calls kj18 (fun k_ => some k_ = (.slice Ao39 t579.length co39 : Value).ownBlock) (.slice Ao39 t579.length co39) t579 t598 t601 t602 w _ ?side1 ?side2 A57.out).mono ?_); (case side1 => repeat (first | (with_reducible first | exact HB.out | apply below_alloc | apply pw_below_drewN | apply below_drew1 | refine below_set ?_ GE556.out | refine below_set ?_ GE578.out) | exact HB.out)); (case side2 => exact Kd.R_tight rfl HO_9.out); rintro e w69 ⟨rfl, hy0, hb, hkp⟩; refine ⟨_, rfl, ?_⟩; have n0_ := Aside0.mk (Kd.R_mono (ok' := fun k_ => some k_ ≠ (v583 : Value).ownBlock) (Kd.R_keptB ((Kd.R_apart' HO_6.out (Kd.R_typed HO_9.out) (by decide))) hkp (fun k_ hk_ hs_ => (hk_.2) hs_)) (fun k_ hk_ => hk_.1.1)); have n1_ := Aside0.mk (Kd.R_reok rfl hy0 (fun k_ e_ => HO_9.out.1 k_ e_)); have n2_ := Aside0.mk (Kd.R_mono (ok' := fun k_ => some k_ ≠ (v569 : Value).ownBlock) (Kd.R_keptB ((Kd.R_apart' HO_10.out (Kd.R_typed HO_9.out) (by decide))) hkp (fun k_ hk_ hs_ => (hk_.2) hs_)) (fun k_ hk_ => hk_.1.1)); have n3_ := Aside0.mk (Kd.R_mono (ok' := fun k_ => some k_ ≠ (.slice Ao39 t579.length co39 : Value).ownBlock ∧ some k_ ≠ (.slice Ao61 t587.length co61 : Value).ownBlock ∧ some k_ ≠ (.slice Ao65 t594.length co65 : Value).ownBlock) (Kd.R_keptB (HO_579000.out) hkp (fun k_ hk_ hs_ => (hk_.1.1) hs_)) (fun k_ hk_ => ⟨hk_.1.1.1, hk_.1.1.2, hk_.1.2⟩)); have n4_ := Aside0.mk (Kd.R_mono (ok' := fun k_ => some k_ ≠ (.slice Ao62 t590.length co62 : Value).ownBlock) (Kd.R_keptB ((Kd.R_apart' HO_579001.out (Kd.R_typed HO_9.out) (by decide))) hkp (fun k_ hk_ hs_ => (hk_.2) hs_)) (fun k_ hk_ => hk_.1.1.2)); have n5_ := Aside0.mk (blk_kept (pK BK556.out) hkp (fun hs_ => (fun e_ => (Kd.R_ne HO_9.out BK556.out (by decide)) e_) hs_)); have n6_ := Aside0.mk (blk_kept (pK BK578.out) hkp (fun hs_ => (fun e_ => (Kd.R_ne HO_9.out BK578.out (by decide)) e_) hs_)); have n7_ := Aside0.mk (Kd.R_mono (ok' := fun k_ => some k_ ≠ (.slice Ao39 t579.length co39 : Value).ownBlock ∧ some k_ ≠ (.slice Ao33 t572.length co33 : Value).ownBlock ∧ some k_ ≠ (.slice Ao65 t594.length co65 : Value).ownBlock) (Kd.R_keptB (HO589.out) hkp (fun k_ hk_ hs_ => (hk_.1) hs_)) (fun k_ hk_ => ⟨hk_.1.1, hk_.1.2.1, hk_.1.2.2⟩)); have n8_ := Aside0.mk (Kd.R_mono (ok' := fun k_ => some k_ ≠ (.slice Ao36 t575.length co36 : Value).ownBlock) (Kd.R_keptB ((Kd.R_apart' HO592.out (Kd.R_typed HO_9.out) (by decide))) hkp (fun k_ hk_ hs_ => (hk_.2) hs_)) (fun k_ hk_ => hk_.1.1)); have n9_ := Aside0.mk (Kd.R_mono (ok' := fun k_ => some k_ ≠ (.slice Ao39 t579.length co39 : Value).ownBlock ∧ some k_ ≠ (.slice Ao33 t572.length co33 : Value).ownBlock ∧ some k_ ≠ (.slice Ao61 t587.length co61 : Value).ownBlock) (Kd.R_keptB (HO596.out) hkp (fun k_ hk_ hs_ => (hk_.1) hs_)) (fun k_ hk_ => ⟨hk_.1.1, hk_.1.2.1, hk_.1.2.2⟩)); have n10_ := Aside0.mk (hb); clear HO_6; clear HO_9; clear HO_10; clear HO_579000; clear HO_579001; clear BK556; clear BK578; clear HO589; clear HO592; clear HO596; clear HB; have HO_6 := n0_; have HO_9 := n1_; have HO_10 := n2_; have HO_579000 := n3_; have HO_579001 := n4_; have BK556 := n5_; have BK578 := n6_; have HO589 := n7_; have HO592 := n8_; have HO596 := n9_; have HB := n10_; clear n0_ n1_ n2_ n3_ n4_ n5_ n6_ n7_ n8_ n9_ n10_; (try clear hb); (try clear hkp); (try clear hy0)))
        (try simp only [Act.put, List.setIfInBounds_toArray, List.set_cons_zero, List.set_cons_succ])
        go_cut [82] (fun v82 wc => ∃ (kq : Nat) (x82_57 : Bool), v82 = .bool x82_57 ∧ Aside0 (laws_FnExactWalSteps.j1 kq l1 t568 t571 t582 x82_57 l0_0 l0_1 = some r) ∧ Aside0 (kq ≤ kj18) ∧ Aside0 (Kd.R k61 61 wc w.heap.size (fun k_ => some k_ ≠ (v583 : Value).ownBlock) v569 t568) ∧ Aside0 (Kd.R k61 61 wc w.heap.size (fun k_ => some k_ ≠ (v569 : Value).ownBlock) v583 t582) ∧ Aside0 (Kd.R Kd.string 9 wc w.heap.size (fun _ => True) (.slice Ao33 t572.length co33) t599) ∧ Aside0 (Kd.R k75 75 wc w.heap.size (fun _ => True) (.slice Ao36 t575.length co36) t600) ∧ Aside0 (wc.heap[gb556]? = some (.cells #[(.slice A0_0 l0_0.length c0_0), (.slice A0_1 l0_1.length c0_1)] 25 (0, 0))) ∧ Aside0 (wc.heap[gb578]? = some (.cells #[(.slice Ao33 t572.length co33), (.slice Ao36 t575.length co36)] 31 (0, 0))) ∧ Aside0 (Below w.heap.size w wc))
        case first =>
         have H := HC58.out
         clear HC58
         by_cases c70 : t601 < 0
         ·rw [if_pos c70] at H
          have c70b0 : decide (t601 < 0) = true := decide_eq_true c70
          clear c70
          (first | rw [c70b0] | (simp only [i64_w, i32_w]; rw [c70b0]) | skip)
          have H' := Aside0.mk H
          clear H
          go_wp2
          go_meet
          case rel => exact ⟨_, (true), (by first | rfl | (simp; done) | (simp [*]; done)), H', ⟨by have := HJ18.out; first | omega | exact Nat.le_refl _⟩, ⟨pR HO_6.out⟩, ⟨pR HO_10.out⟩, ⟨pR (Kd.R_mono HO_579000.out (fun _ hk => trivial))⟩, ⟨pR (Kd.R_mono HO_579001.out (fun _ hk => trivial))⟩, ⟨pK BK556.out⟩, ⟨pK BK578.out⟩, ⟨pS HB.out⟩⟩
         ·rw [if_neg c70] at H
          have c70b0 : decide (t601 < 0) = false := decide_eq_false c70
          clear c70
          (first | rw [c70b0] | (simp only [i64_w, i32_w]; rw [c70b0]) | skip)
          replace H := Option.bind_eq_some_iff.mp H
          obtain ⟨t603, A710, H⟩ := H
          replace H : (if t603 = true then (laws_FnExactWalSteps.j1 kj18 l1 t568 t571 t582 (t585 != t571) l0_0 l0_1) else (laws_FnExactWalSteps.j1 kj18 l1 t568 t571 t582 true l0_0 l0_1)) = some r := H
          have A71 := Aside0.mk A710
          clear A710
          by_cases c72 : t603 = true
          ·subst c72
           have H1 : (laws_FnExactWalSteps.j1 kj18 l1 t568 t571 t582 (t585 != t571) l0_0 l0_1) = some r := by rw [if_pos rfl] at H; exact H
           clear H
           have H := H1
           clear H1
           have H' := Aside0.mk H
           clear H
           obtain ⟨Ao73, co73, eo73⟩ := Kd.R_slice HO_10.out
           subst eo73
           obtain ⟨Ao74, co74, eo74⟩ := Kd.R_slice HO_6.out
           subst eo74
           go_wp2_with (first | (go_at_call 22; (with_reducible refine (laws_eqSecStepS.calls kj18 _ _ t582 _ _ t568 true _ ?side1 ?side2 ?side3 ?side4 A71.out).mono ?_); (case side1 => exact pC (Kd.R_reads' HO_10.out).2.2); (case side2 => exact (Kd.R_reads' HO_10.out).2.1); (case side3 => exact pC (Kd.R_reads' HO_6.out).2.2); (case side4 => exact (Kd.R_reads' HO_6.out).2.1); rintro e w75 ⟨rfl, hb⟩; have n0_ := Aside0.mk (Kd.R_below (pR HO_6.out) hb); have n1_ := Aside0.mk (Kd.R_below (pR HO_9.out) hb); have n2_ := Aside0.mk (Kd.R_below (pR HO_10.out) hb); have n3_ := Aside0.mk (Kd.R_below (pR HO_579000.out) hb); have n4_ := Aside0.mk (Kd.R_below (pR HO_579001.out) hb); have n5_ := Aside0.mk (Kd.R_below (pR HO589.out) hb); have n6_ := Aside0.mk (Kd.R_below (pR HO592.out) hb); have n7_ := Aside0.mk (Kd.R_below (pR HO596.out) hb); have n8_ := Aside0.mk (blk_below (pK BK556.out) hb); have n9_ := Aside0.mk (blk_below (pK BK578.out) hb); have n10_ := Aside0.mk (below_step (pS HB.out) hb); clear HO_6; clear HO_9; clear HO_10; clear HO_579000; clear HO_579001; clear HO589; clear HO592; clear HO596; clear BK556; clear BK578; clear HB; have HO_6 := n0_; have HO_9 := n1_; have HO_10 := n2_; have HO_579000 := n3_; have HO_579001 := n4_; have HO589 := n5_; have HO592 := n6_; have HO596 := n7_; have BK556 := n8_; have BK578 := n9_; have HB := n10_; clear n0_ n1_ n2_ n3_ n4_ n5_ n6_ n7_ n8_ n9_ n10_; (try clear hb); (try clear hb2); (try clear hk); (try clear hi)))
           go_meet
           case rel => exact ⟨_, ((t585 != t571)), (by first | rfl | (simp; done) | (simp [*]; done)), H', ⟨by have := HJ18.out; first | omega | exact Nat.le_refl _⟩, ⟨pR HO_6.out⟩, ⟨pR HO_10.out⟩, ⟨pR (Kd.R_mono HO_579000.out (fun _ hk => trivial))⟩, ⟨pR (Kd.R_mono HO_579001.out (fun _ hk => trivial))⟩, ⟨pK BK556.out⟩, ⟨pK BK578.out⟩, ⟨pS HB.out⟩⟩
          ·replace c72 := Bool.eq_false_iff.mpr c72
           subst c72
           have H1 : (laws_FnExactWalSteps.j1 kj18 l1 t568 t571 t582 true l0_0 l0_1) = some r := by rw [if_neg (show ¬ (false = true) by decide)] at H; exact H
           clear H
           have H := H1
           clear H1
           have H' := Aside0.mk H
           clear H
           obtain ⟨Ao76, co76, eo76⟩ := Kd.R_slice HO_10.out
           subst eo76
           obtain ⟨Ao77, co77, eo77⟩ := Kd.R_slice HO_6.out
           subst eo77
           go_wp2_with (first | (go_at_call 22; (with_reducible refine (laws_eqSecStepS.calls kj18 _ _ t582 _ _ t568 false _ ?side1 ?side2 ?side3 ?side4 A71.out).mono ?_); (case side1 => exact pC (Kd.R_reads' HO_10.out).2.2); (case side2 => exact (Kd.R_reads' HO_10.out).2.1); (case side3 => exact pC (Kd.R_reads' HO_6.out).2.2); (case side4 => exact (Kd.R_reads' HO_6.out).2.1); rintro e w78 ⟨rfl, hb⟩; have n0_ := Aside0.mk (Kd.R_below (pR HO_6.out) hb); have n1_ := Aside0.mk (Kd.R_below (pR HO_9.out) hb); have n2_ := Aside0.mk (Kd.R_below (pR HO_10.out) hb); have n3_ := Aside0.mk (Kd.R_below (pR HO_579000.out) hb); have n4_ := Aside0.mk (Kd.R_below (pR HO_579001.out) hb); have n5_ := Aside0.mk (Kd.R_below (pR HO589.out) hb); have n6_ := Aside0.mk (Kd.R_below (pR HO592.out) hb); have n7_ := Aside0.mk (Kd.R_below (pR HO596.out) hb); have n8_ := Aside0.mk (blk_below (pK BK556.out) hb); have n9_ := Aside0.mk (blk_below (pK BK578.out) hb); have n10_ := Aside0.mk (below_step (pS HB.out) hb); clear HO_6; clear HO_9; clear HO_10; clear HO_579000; clear HO_579001; clear HO589; clear HO592; clear HO596; clear BK556; clear BK578; clear HB; have HO_6 := n0_; have HO_9 := n1_; have HO_10 := n2_; have HO_579000 := n3_; have HO_579001 := n4_; have HO589 := n5_; have HO592 := n6_; have HO596 := n7_; have BK556 := n8_; have BK578 := n9_; have HB := n10_; clear n0_ n1_ n2_ n3_ n4_ n5_ n6_ n7_ n8_ n9_ n10_; (try clear hb); (try clear hb2); (try clear hk); (try clear hi)))
           go_meet
           case rel => exact ⟨_, (true), (by first | rfl | (simp; done) | (simp [*]; done)), H', ⟨by have := HJ18.out; first | omega | exact Nat.le_refl _⟩, ⟨pR HO_6.out⟩, ⟨pR HO_10.out⟩, ⟨pR (Kd.R_mono HO_579000.out (fun _ hk => trivial))⟩, ⟨pR (Kd.R_mono HO_579001.out (fun _ hk => trivial))⟩, ⟨pK BK556.out⟩, ⟨pK BK578.out⟩, ⟨pS HB.out⟩⟩
        case rest =>
         clear HC58
         try clear c1
         try clear c2
         try clear p2
         try clear c3
         try clear c4
         try clear c4b0
         try clear c5
         try clear c6
         try clear c7
         try clear c9
         try clear c9b0
         try clear c11
         try clear c13
         try clear c15
         try clear c16
         try clear c17
         try clear c18
         try clear c22
         try clear c25
         try clear c26
         try clear c27
         try clear c28
         try clear c34
         try clear c42
         try clear c49
         try clear c52
         try clear c55
         try clear c66
         try clear c70
         try clear c70b0
         try clear c72
         try clear hcz11_0
         try clear hcz11_1
         try clear hcz21_0
         try clear hcz21_1
         try clear hcz23_0
         try clear hcz23_1
         try clear hcz30_0
         try clear hcz30_1
         try clear hcz35_0
         try clear hcz35_1
         try clear hcz38_0
         try clear hcz38_1
         try clear hcz67_0
         try clear hcz67_1
         try clear hcz6_0
         try clear hcz6_1
         try clear hfz11_0
         try clear hfz11_1
         try clear hfz21_0
         try clear hfz21_1
         try clear hfz23_0
         try clear hfz23_1
         try clear hfz30_0
         try clear hfz30_1
         try clear hfz35_0
         try clear hfz35_1
         try clear hfz38_0
         try clear hfz38_1
         try clear hfz67_0
         try clear hfz67_1
         try clear hfz6_0
         try clear hfz6_1
         try clear p2
         obtain ⟨kq, x82_57, rfl, HA, HJ57, HO_6, HO_10, HO_579000, HO_579001, BK556, BK578, HB⟩ := hcut
         have hl579000_57 := (Kd.R_reads' HO_579000.out).1
         rw [hl579000_57] at HO_579000
         (try simp only [hl579000_57])
         (try simp only [hl579000_57] at BK556)
         (try simp only [hl579000_57] at BK578)
         (try simp only [hl579000_57] at HO_6)
         (try simp only [hl579000_57] at HO_10)
         (try simp only [hl579000_57] at HO_579001)
         have hl579001_57 := (Kd.R_reads' HO_579001.out).1
         rw [hl579001_57] at HO_579001
         (try simp only [hl579001_57])
         (try simp only [hl579001_57] at BK556)
         (try simp only [hl579001_57] at BK578)
         (try simp only [hl579001_57] at HO_6)
         (try simp only [hl579001_57] at HO_10)
         (try simp only [hl579001_57] at HO_579000)
         cases kq with
         | zero => exact absurd HA.out (by simp [laws_FnExactWalSteps.j1])
         | succ kj57 =>
          have H := HA.out
          clear HA
          simp only [laws_FnExactWalSteps.j1] at H
          by_cases c79 : x82_57 = true
          ·subst c79
           have H1 : (some false) = some r := by rw [if_pos rfl] at H; exact H
           clear H
           have H := H1
           clear H1
           obtain rfl := Option.some.inj H
           go_wp2
           go_ret
           exact ⟨by first | rfl | (simp [errW_none, errW_some] <;> rfl) | (simp [*, errW_none, errW_some] <;> rfl), pS HB.out⟩
          ·replace c79 := Bool.eq_false_iff.mpr c79
           subst c79
           have H1 : ((laws_markSecStepS.f kj57 t582 1).bind fun bt604 => ((laws_heldSecStepS.f kj57 bt604.2 1).bind fun t606 => (if t606 < 0 then (some false) else (if t606 = bt604.1 then ((laws_toSecDisk.f kj57 l0_0 l0_1).bind fun bt607 => ((laws_toStringS.f kj57 l1).bind fun t613 => ((impl_WalSteps.f kj57 bt607.1 bt607.2 t613).bind fun bt616 => ((laws_eqSecStepS.f kj57 bt616.1 t568).bind fun t620 => (if t620 = true then (laws_FnExactWalSteps.j2 kj57 bt604.2 bt604.1 (bt616.2 != t571)) else (laws_FnExactWalSteps.j2 kj57 bt604.2 bt604.1 true)))))) else (some false))))) = some r := by rw [if_neg (show ¬ (false = true) by decide)] at H; exact H
           clear H
           have H := H1
           clear H1
           replace H := Option.bind_eq_some_iff.mp H
           obtain ⟨⟨t604, t605⟩, A800, H⟩ := H
           replace H : ((laws_heldSecStepS.f kj57 t605 1).bind fun t606 => (if t606 < 0 then (some false) else (if t606 = t604 then ((laws_toSecDisk.f kj57 l0_0 l0_1).bind fun bt607 => ((laws_toStringS.f kj57 l1).bind fun t613 => ((impl_WalSteps.f kj57 bt607.1 bt607.2 t613).bind fun bt616 => ((laws_eqSecStepS.f kj57 bt616.1 t568).bind fun t620 => (if t620 = true then (laws_FnExactWalSteps.j2 kj57 t605 t604 (bt616.2 != t571)) else (laws_FnExactWalSteps.j2 kj57 t605 t604 true)))))) else (some false)))) = some r := H
           have A80 := Aside0.mk A800
           clear A800
           replace H := Option.bind_eq_some_iff.mp H
           obtain ⟨t606, A810, H⟩ := H
           replace H : (if t606 < 0 then (some false) else (if t606 = t604 then ((laws_toSecDisk.f kj57 l0_0 l0_1).bind fun bt607 => ((laws_toStringS.f kj57 l1).bind fun t613 => ((impl_WalSteps.f kj57 bt607.1 bt607.2 t613).bind fun bt616 => ((laws_eqSecStepS.f kj57 bt616.1 t568).bind fun t620 => (if t620 = true then (laws_FnExactWalSteps.j2 kj57 t605 t604 (bt616.2 != t571)) else (laws_FnExactWalSteps.j2 kj57 t605 t604 true)))))) else (some false))) = some r := H
           have A81 := Aside0.mk A810
           clear A810
           by_cases c82 : t606 < 0
           ·rw [if_pos c82] at H
            have c82b0 : decide (t606 < 0) = true := decide_eq_true c82
            clear c82
            obtain rfl := Option.some.inj H
            obtain ⟨Ao83, co83, eo83⟩ := Kd.R_slice HO_10.out
            subst eo83
            go_wp2_with (first | ((with_reducible refine gate_callee (f := 23) rfl ?_); refine goesL_ (some 85) rfl rfl Try.func23 (by kernel_rfl) rfl #[.slice Ao83 t582.length co83, .int .i64 1] rfl bM ?_; (with_reducible refine (laws_markSecStepS.calls kj57 (fun k_ => some k_ = (.slice Ao83 t582.length co83 : Value).ownBlock) (.slice Ao83 t582.length co83) t582 1 t604 t605 w _ ?side1 ?side2 A80.out).mono ?_); (case side1 => repeat (first | (with_reducible first | exact HB.out | apply below_alloc | apply pw_below_drewN | apply below_drew1 | refine below_set ?_ GE556.out | refine below_set ?_ GE578.out) | exact HB.out)); (case side2 => exact Kd.R_tight rfl HO_10.out); rintro e w84 ⟨rfl, hy0, hb, hkp⟩; refine ⟨_, rfl, ?_⟩; have n0_ := Aside0.mk (Kd.R_mono (ok' := fun k_ => some k_ ≠ (.slice Ao83 t582.length co83 : Value).ownBlock) (Kd.R_keptB (HO_6.out) hkp (fun k_ hk_ hs_ => (hk_) hs_)) (fun k_ hk_ => hk_.1)); have n1_ := Aside0.mk (Kd.R_reok rfl hy0 (fun k_ e_ => HO_10.out.1 k_ e_)); have n2_ := Aside0.mk (Kd.R_mono (ok' := fun k_ => True) (Kd.R_keptB ((Kd.R_apart' HO_579000.out (Kd.R_typed HO_10.out) (by decide))) hkp (fun k_ hk_ hs_ => (hk_.2) hs_)) (fun k_ hk_ => trivial)); have n3_ := Aside0.mk (Kd.R_mono (ok' := fun k_ => True) (Kd.R_keptB ((Kd.R_apart' HO_579001.out (Kd.R_typed HO_10.out) (by decide))) hkp (fun k_ hk_ hs_ => (hk_.2) hs_)) (fun k_ hk_ => trivial)); have n4_ := Aside0.mk (blk_kept (pK BK556.out) hkp (fun hs_ => (fun e_ => (Kd.R_ne HO_10.out BK556.out (by decide)) e_) hs_)); have n5_ := Aside0.mk (blk_kept (pK BK578.out) hkp (fun hs_ => (fun e_ => (Kd.R_ne HO_10.out BK578.out (by decide)) e_) hs_)); have n6_ := Aside0.mk (hb); clear HO_6; clear HO_10; clear HO_579000; clear HO_579001; clear BK556; clear BK578; clear HB; have HO_6 := n0_; have HO_10 := n1_; have HO_579000 := n2_; have HO_579001 := n3_; have BK556 := n4_; have BK578 := n5_; have HB := n6_; clear n0_ n1_ n2_ n3_ n4_ n5_ n6_; (try clear hb); (try clear hkp); (try clear hy0)) | ((with_reducible refine gate_callee (f := 24) rfl ?_); refine goesL_ (some 88) rfl rfl Try.func24 (by kernel_rfl) rfl #[.slice Ao83 t605.length co83, .int .i64 1] rfl (by (try simp only [List.map_toArray, List.map_cons, List.map_nil]); first | done | (rw [show t605.length = t582.length from (Kd.R_reads' HO_10.out).1.symm] <;> rfl) | rfl | (simp only [List.length_drop, List.length_take]; rfl)) ?_; (with_reducible refine (laws_heldSecStepS.calls kj57 _ _ t605 1 t606 _ ?side1 ?side2 A81.out).mono ?_); (case side1 => exact pC (Kd.R_reads' HO_10.out).2.2); (case side2 => rw [show t605.length = t582.length from (Kd.R_reads' HO_10.out).1.symm]; exact (Kd.R_reads' HO_10.out).2.1); rintro e w85 ⟨rfl, hb⟩; refine ⟨_, rfl, ?_⟩; have n0_ := Aside0.mk (Kd.R_below (pR HO_6.out) hb); have n1_ := Aside0.mk (Kd.R_below (pR HO_10.out) hb); have n2_ := Aside0.mk (Kd.R_below (pR HO_579000.out) hb); have n3_ := Aside0.mk (Kd.R_below (pR HO_579001.out) hb); have n4_ := Aside0.mk (blk_below (pK BK556.out) hb); have n5_ := Aside0.mk (blk_below (pK BK578.out) hb); have n6_ := Aside0.mk (below_step (pS HB.out) hb); clear HO_6; clear HO_10; clear HO_579000; clear HO_579001; clear BK556; clear BK578; clear HB; have HO_6 := n0_; have HO_10 := n1_; have HO_579000 := n2_; have HO_579001 := n3_; have BK556 := n4_; have BK578 := n5_; have HB := n6_; clear n0_ n1_ n2_ n3_ n4_ n5_ n6_; (try clear hb); (try clear hb2); (try clear hk); (try clear hi)))
            go_ret
            exact ⟨by first | rfl | (simp [errW_none, errW_some] <;> rfl) | (simp [*, errW_none, errW_some] <;> rfl), pS HB.out⟩
           ·rw [if_neg c82] at H
            have c82b0 : decide (t606 < 0) = false := decide_eq_false c82
            clear c82
            by_cases c86 : t606 = t604
            ·rw [if_pos c86] at H
             have c86b0 : (t606 == t604) = true := beq_iff_eq.mpr c86
             have c86b1 : (t606 != t604) = false := bne_eq_false_iff_eq.mpr c86
             clear c86
             replace H := Option.bind_eq_some_iff.mp H
             obtain ⟨⟨t607, t610⟩, A870, H⟩ := H
             replace H : ((laws_toStringS.f kj57 l1).bind fun t613 => ((impl_WalSteps.f kj57 t607 t610 t613).bind fun bt616 => ((laws_eqSecStepS.f kj57 bt616.1 t568).bind fun t620 => (if t620 = true then (laws_FnExactWalSteps.j2 kj57 t605 t604 (bt616.2 != t571)) else (laws_FnExactWalSteps.j2 kj57 t605 t604 true))))) = some r := H
             have A87 := Aside0.mk A870
             clear A870
             replace H := Option.bind_eq_some_iff.mp H
             obtain ⟨t613, A880, H⟩ := H
             replace H : ((impl_WalSteps.f kj57 t607 t610 t613).bind fun bt616 => ((laws_eqSecStepS.f kj57 bt616.1 t568).bind fun t620 => (if t620 = true then (laws_FnExactWalSteps.j2 kj57 t605 t604 (bt616.2 != t571)) else (laws_FnExactWalSteps.j2 kj57 t605 t604 true)))) = some r := H
             have A88 := Aside0.mk A880
             clear A880
             replace H := Option.bind_eq_some_iff.mp H
             obtain ⟨⟨t616, t619⟩, A890, H⟩ := H
             replace H : ((laws_eqSecStepS.f kj57 t616 t568).bind fun t620 => (if t620 = true then (laws_FnExactWalSteps.j2 kj57 t605 t604 (t619 != t571)) else (laws_FnExactWalSteps.j2 kj57 t605 t604 true))) = some r := H
             have A89 := Aside0.mk A890
             clear A890
             have HC90 := Aside0.mk H
             clear H
             obtain ⟨Ao91, co91, eo91⟩ := Kd.R_slice HO_10.out
             subst eo91
             go_upto_region 32 with (first | ((with_reducible refine gate_callee (f := 23) rfl ?_); refine goesL_ (some 85) rfl rfl Try.func23 (by kernel_rfl) rfl #[.slice Ao91 t582.length co91, .int .i64 1] rfl bM ?_; (with_reducible refine (laws_markSecStepS.calls kj57 (fun k_ => some k_ = (.slice Ao91 t582.length co91 : Value).ownBlock) (.slice Ao91 t582.length co91) t582 1 t604 t605 w _ ?side1 ?side2 A80.out).mono ?_); (case side1 => repeat (first | (with_reducible first | exact HB.out | apply below_alloc | apply pw_below_drewN | apply below_drew1 | refine below_set ?_ GE556.out | refine below_set ?_ GE578.out) | exact HB.out)); (case side2 => exact Kd.R_tight rfl HO_10.out); rintro e w92 ⟨rfl, hy0, hb, hkp⟩; refine ⟨_, rfl, ?_⟩; have n0_ := Aside0.mk (Kd.R_mono (ok' := fun k_ => some k_ ≠ (.slice Ao91 t582.length co91 : Value).ownBlock) (Kd.R_keptB (HO_6.out) hkp (fun k_ hk_ hs_ => (hk_) hs_)) (fun k_ hk_ => hk_.1)); have n1_ := Aside0.mk (Kd.R_reok rfl hy0 (fun k_ e_ => HO_10.out.1 k_ e_)); have n2_ := Aside0.mk (Kd.R_mono (ok' := fun k_ => True) (Kd.R_keptB ((Kd.R_apart' HO_579000.out (Kd.R_typed HO_10.out) (by decide))) hkp (fun k_ hk_ hs_ => (hk_.2) hs_)) (fun k_ hk_ => trivial)); have n3_ := Aside0.mk (Kd.R_mono (ok' := fun k_ => True) (Kd.R_keptB ((Kd.R_apart' HO_579001.out (Kd.R_typed HO_10.out) (by decide))) hkp (fun k_ hk_ hs_ => (hk_.2) hs_)) (fun k_ hk_ => trivial)); have n4_ := Aside0.mk (blk_kept (pK BK556.out) hkp (fun hs_ => (fun e_ => (Kd.R_ne HO_10.out BK556.out (by decide)) e_) hs_)); have n5_ := Aside0.mk (blk_kept (pK BK578.out) hkp (fun hs_ => (fun e_ => (Kd.R_ne HO_10.out BK578.out (by decide)) e_) hs_)); have n6_ := Aside0.mk (hb); clear HO_6; clear HO_10; clear HO_579000; clear HO_579001; clear BK556; clear BK578; clear HB; have HO_6 := n0_; have HO_10 := n1_; have HO_579000 := n2_; have HO_579001 := n3_; have BK556 := n4_; have BK578 := n5_; have HB := n6_; clear n0_ n1_ n2_ n3_ n4_ n5_ n6_; (try clear hb); (try clear hkp); (try clear hy0)) | ((with_reducible refine gate_callee (f := 24) rfl ?_); refine goesL_ (some 88) rfl rfl Try.func24 (by kernel_rfl) rfl #[.slice Ao91 t605.length co91, .int .i64 1] rfl (by (try simp only [List.map_toArray, List.map_cons, List.map_nil]); first | done | (rw [show t605.length = t582.length from (Kd.R_reads' HO_10.out).1.symm] <;> rfl) | rfl | (simp only [List.length_drop, List.length_take]; rfl)) ?_; (with_reducible refine (laws_heldSecStepS.calls kj57 _ _ t605 1 t606 _ ?side1 ?side2 A81.out).mono ?_); (case side1 => exact pC (Kd.R_reads' HO_10.out).2.2); (case side2 => rw [show t605.length = t582.length from (Kd.R_reads' HO_10.out).1.symm]; exact (Kd.R_reads' HO_10.out).2.1); rintro e w93 ⟨rfl, hb⟩; refine ⟨_, rfl, ?_⟩; have n0_ := Aside0.mk (Kd.R_below (pR HO_6.out) hb); have n1_ := Aside0.mk (Kd.R_below (pR HO_10.out) hb); have n2_ := Aside0.mk (Kd.R_below (pR HO_579000.out) hb); have n3_ := Aside0.mk (Kd.R_below (pR HO_579001.out) hb); have n4_ := Aside0.mk (blk_below (pK BK556.out) hb); have n5_ := Aside0.mk (blk_below (pK BK578.out) hb); have n6_ := Aside0.mk (below_step (pS HB.out) hb); clear HO_6; clear HO_10; clear HO_579000; clear HO_579001; clear BK556; clear BK578; clear HB; have HO_6 := n0_; have HO_10 := n1_; have HO_579000 := n2_; have HO_579001 := n3_; have BK556 := n4_; have BK578 := n5_; have HB := n6_; clear n0_ n1_ n2_ n3_ n4_ n5_ n6_; (try clear hb); (try clear hb2); (try clear hk); (try clear hi); have hnb94 := NB556_578.out; have hnc94 := NB578_556.out; have hcz95_0 : w93.cell? ⟨gb556, 0, none⟩ = some (.slice A0_0 l0_0.length c0_0) := (blk_cell BK556.out 0).trans rfl; have hcz95_1 : w93.cell? ⟨gb556, 1, none⟩ = some (.slice A0_1 l0_1.length c0_1) := (blk_cell BK556.out 1).trans rfl; have hfz95_0 := blk_frozen BK556.out 0; have hfz95_1 := blk_frozen BK556.out 1) | ((with_reducible refine gate_callee (f := 13) rfl ?_); refine goesL_ (some 96) rfl rfl Try.func13 (by kernel_rfl) rfl #[.agg #[.slice A0_0 l0_0.length c0_0, .slice A0_1 l0_1.length c0_1]] rfl bM ?_; (with_reducible refine (laws_toSecDisk.calls kj57 _ _ l0_0 _ _ l0_1 t607 t610 _ ?side1 ?side2 ?side3 ?side4 A87.out).mono ?_); (case side1 => exact pC (Kd.C_below HR0_0.out HB.out)); (case side2 => exact HC0_0.out); (case side3 => exact pC (Kd.C_below HR0_1.out HB.out)); (case side4 => exact HC0_1.out); rintro e w96 ⟨v608, v611, rfl, ho0, ho1, hb⟩; refine ⟨_, rfl, ?_⟩; have n0_ := Aside0.mk (Kd.R_below (pR HO_6.out) hb); have n1_ := Aside0.mk (Kd.R_below (pR HO_10.out) hb); have n2_ := Aside0.mk (Kd.R_elder' (pR HO_579000.out) (Kd.R_base ho0) hb); have n3_ := Aside0.mk (Kd.R_elder' (pR HO_579001.out) (Kd.R_base ho1) hb); have n4_ := Aside0.mk (Kd.R_lower (Kd.R_new' ho0 (Kd.R_lt (pR HO_579000.out))) (below_size (pS HB.out))); have n5_ := Aside0.mk (Kd.R_lower (Kd.R_new' ho1 (Kd.R_lt (pR HO_579001.out))) (below_size (pS HB.out))); have n6_ := Aside0.mk (blk_below (pK BK556.out) hb); have n7_ := Aside0.mk (blk_below (pK BK578.out) hb); have n8_ := Aside0.mk (below_step (pS HB.out) hb); clear HO_6; clear HO_10; clear HO_579000; clear HO_579001; clear BK556; clear BK578; clear HB; have HO_6 := n0_; have HO_10 := n1_; have HO_579000 := n2_; have HO_579001 := n3_; have HO609 := n4_; have HO612 := n5_; have BK556 := n6_; have BK578 := n7_; have HB := n8_; clear n0_ n1_ n2_ n3_ n4_ n5_ n6_ n7_ n8_; (try clear hb); (try clear hb2); (try clear hk); (try clear hi); (try clear ho0); (try clear ho1)) | ((with_reducible refine gate_callee (f := 27) rfl ?_); refine goesL_ (some 98) rfl rfl Try.func27 (by kernel_rfl) rfl #[.slice A1 l1.length c1] rfl bM ?_; (with_reducible refine (laws_toStringS.calls kj57 _ _ l1 t613 _ ?side1 ?side2 A88.out).mono ?_); (case side1 => exact pC (Kd.C_below HR1.out HB.out)); (case side2 => exact HC1.out); rintro e w97 ⟨v614, rfl, ho0, hb⟩; refine ⟨_, rfl, ?_⟩; have n0_ := Aside0.mk (Kd.R_below (pR HO_6.out) hb); have n1_ := Aside0.mk (Kd.R_below (pR HO_10.out) hb); have n2_ := Aside0.mk (Kd.R_elder' (pR HO_579000.out) (Kd.R_base ho0) hb); have n3_ := Aside0.mk (Kd.R_below (pR HO_579001.out) hb); have n4_ := Aside0.mk (Kd.R_elder' (pR HO609.out) (Kd.R_base ho0) hb); have n5_ := Aside0.mk (Kd.R_below (pR HO612.out) hb); have n6_ := Aside0.mk (Kd.R_lower (Kd.R_new' (Kd.R_new' ho0 (Kd.R_lt (pR HO_579000.out))) (Kd.R_lt (pR HO609.out))) (below_size (pS HB.out))); have n7_ := Aside0.mk (blk_below (pK BK556.out) hb); have n8_ := Aside0.mk (blk_below (pK BK578.out) hb); have n9_ := Aside0.mk (below_step (pS HB.out) hb); clear HO_6; clear HO_10; clear HO_579000; clear HO_579001; clear HO609; clear HO612; clear BK556; clear BK578; clear HB; have HO_6 := n0_; have HO_10 := n1_; have HO_579000 := n2_; have HO_579001 := n3_; have HO609 := n4_; have HO612 := n5_; have HO615 := n6_; have BK556 := n7_; have BK578 := n8_; have HB := n9_; clear n0_ n1_ n2_ n3_ n4_ n5_ n6_ n7_ n8_ n9_; (try clear hb); (try clear hb2); (try clear hk); (try clear hi); (try clear ho0); obtain ⟨Ao98, co98, eo98⟩ := Kd.R_slice HO609.out; subst eo98; obtain ⟨Ao99, co99, eo99⟩ := Kd.R_slice HO612.out; subst eo99; obtain ⟨Ao100, co100, eo100⟩ := Kd.R_slice HO615.out; subst eo100) | ((with_reducible refine gate_callee (f := 28) rfl ?_); refine goesL_ (some 99) rfl rfl Try.func28 (by kernel_rfl) rfl #[.agg #[.slice Ao98 t607.length co98, .slice Ao99 t610.length co99], .slice Ao100 t613.length co100] rfl bM ?_; (with_reducible refine (impl_WalSteps.calls kj57 _ _ t607 _ _ t610 _ _ t613 t616 t619 _ ?side1 ?side2 ?side3 ?side4 ?side5 ?side6 A89.out).mono ?_); (case side1 => exact pC (Kd.R_reads' HO609.out).2.2); (case side2 => exact (Kd.R_reads' HO609.out).2.1); (case side3 => exact pC (Kd.R_reads' HO612.out).2.2); (case side4 => exact (Kd.R_reads' HO612.out).2.1); (case side5 => exact pC (Kd.R_reads' HO615.out).2.2); (case side6 => exact (Kd.R_reads' HO615.out).2.1); rintro e w101 ⟨v617, rfl, ho0, hb⟩; refine ⟨_, rfl, ?_⟩; have n0_ := Aside0.mk (Kd.R_elder' (pR HO_6.out) (Kd.R_base ho0) hb); have n1_ := Aside0.mk (Kd.R_elder' (pR HO_10.out) (Kd.R_base ho0) hb); have n2_ := Aside0.mk (Kd.R_below (pR HO_579000.out) hb); have n3_ := Aside0.mk (Kd.R_below (pR HO_579001.out) hb); have n4_ := Aside0.mk (Kd.R_below (pR HO609.out) hb); have n5_ := Aside0.mk (Kd.R_below (pR HO612.out) hb); have n6_ := Aside0.mk (Kd.R_below (pR HO615.out) hb); have n7_ := Aside0.mk (Kd.R_lower (Kd.R_new' (Kd.R_new' ho0 (Kd.R_lt (pR HO_6.out))) (Kd.R_lt (pR HO_10.out))) (below_size (pS HB.out))); have n8_ := Aside0.mk (blk_below (pK BK556.out) hb); have n9_ := Aside0.mk (blk_below (pK BK578.out) hb); have n10_ := Aside0.mk (below_step (pS HB.out) hb); clear HO_6; clear HO_10; clear HO_579000; clear HO_579001; clear HO609; clear HO612; clear HO615; clear BK556; clear BK578; clear HB; have HO_6 := n0_; have HO_10 := n1_; have HO_579000 := n2_; have HO_579001 := n3_; have HO609 := n4_; have HO612 := n5_; have HO615 := n6_; have HO618 := n7_; have BK556 := n8_; have BK578 := n9_; have HB := n10_; clear n0_ n1_ n2_ n3_ n4_ n5_ n6_ n7_ n8_ n9_ n10_; (try clear hb); (try clear hb2); (try clear hk); (try clear hi); (try clear ho0)))
             (try simp only [Act.put, List.setIfInBounds_toArray, List.set_cons_zero, List.set_cons_succ])
             go_cut [110] (fun v110 wc => ∃ (kq : Nat) (x110_89 : Bool), v110 = .bool x110_89 ∧ Aside0 (laws_FnExactWalSteps.j2 kq t605 t604 x110_89 = some r) ∧ Aside0 (kq ≤ kj57) ∧ Aside0 (Kd.R k61 61 wc w.heap.size (fun _ => True) (.slice Ao91 t582.length co91) t605) ∧ Aside0 (Kd.R Kd.string 9 wc w.heap.size (fun _ => True) (.slice Ao33 t599.length co33) t599) ∧ Aside0 (Kd.R k75 75 wc w.heap.size (fun _ => True) (.slice Ao36 t600.length co36) t600) ∧ Aside0 (wc.heap[gb556]? = some (.cells #[(.slice A0_0 l0_0.length c0_0), (.slice A0_1 l0_1.length c0_1)] 25 (0, 0))) ∧ Aside0 (wc.heap[gb578]? = some (.cells #[(.slice Ao33 t599.length co33), (.slice Ao36 t600.length co36)] 31 (0, 0))) ∧ Aside0 (Below w.heap.size w wc))
             case first =>
              have H := HC90.out
              clear HC90
              replace H := Option.bind_eq_some_iff.mp H
              obtain ⟨t620, A1020, H⟩ := H
              replace H : (if t620 = true then (laws_FnExactWalSteps.j2 kj57 t605 t604 (t619 != t571)) else (laws_FnExactWalSteps.j2 kj57 t605 t604 true)) = some r := H
              have A102 := Aside0.mk A1020
              clear A1020
              by_cases c103 : t620 = true
              ·subst c103
               have H1 : (laws_FnExactWalSteps.j2 kj57 t605 t604 (t619 != t571)) = some r := by rw [if_pos rfl] at H; exact H
               clear H
               have H := H1
               clear H1
               have H' := Aside0.mk H
               clear H
               obtain ⟨Ao104, co104, eo104⟩ := Kd.R_slice HO618.out
               subst eo104
               obtain ⟨Ao105, co105, eo105⟩ := Kd.R_slice HO_6.out
               subst eo105
               go_wp2_with (first | ((with_reducible refine gate_callee (f := 22) rfl ?_); refine goesL_ (some 104) rfl rfl Try.func22 (by kernel_rfl) rfl #[.slice Ao104 t616.length co104, .slice Ao105 t568.length co105] rfl bM ?_; (with_reducible refine (laws_eqSecStepS.calls kj57 _ _ t616 _ _ t568 true _ ?side1 ?side2 ?side3 ?side4 A102.out).mono ?_); (case side1 => exact pC (Kd.R_reads' HO618.out).2.2); (case side2 => exact (Kd.R_reads' HO618.out).2.1); (case side3 => exact pC (Kd.R_reads' HO_6.out).2.2); (case side4 => exact (Kd.R_reads' HO_6.out).2.1); rintro e w106 ⟨rfl, hb⟩; refine ⟨_, rfl, ?_⟩; have n0_ := Aside0.mk (Kd.R_below (pR HO_6.out) hb); have n1_ := Aside0.mk (Kd.R_below (pR HO_10.out) hb); have n2_ := Aside0.mk (Kd.R_below (pR HO_579000.out) hb); have n3_ := Aside0.mk (Kd.R_below (pR HO_579001.out) hb); have n4_ := Aside0.mk (Kd.R_below (pR HO609.out) hb); have n5_ := Aside0.mk (Kd.R_below (pR HO612.out) hb); have n6_ := Aside0.mk (Kd.R_below (pR HO615.out) hb); have n7_ := Aside0.mk (Kd.R_below (pR HO618.out) hb); have n8_ := Aside0.mk (blk_below (pK BK556.out) hb); have n9_ := Aside0.mk (blk_below (pK BK578.out) hb); have n10_ := Aside0.mk (below_step (pS HB.out) hb); clear HO_6; clear HO_10; clear HO_579000; clear HO_579001; clear HO609; clear HO612; clear HO615; clear HO618; clear BK556; clear BK578; clear HB; have HO_6 := n0_; have HO_10 := n1_; have HO_579000 := n2_; have HO_579001 := n3_; have HO609 := n4_; have HO612 := n5_; have HO615 := n6_; have HO618 := n7_; have BK556 := n8_; have BK578 := n9_; have HB := n10_; clear n0_ n1_ n2_ n3_ n4_ n5_ n6_ n7_ n8_ n9_ n10_; (try clear hb); (try clear hb2); (try clear hk); (try clear hi)))
               go_meet
               case rel => exact ⟨_, ((t619 != t571)), (by first | rfl | (simp; done) | (simp [*]; done)), H', ⟨by have := HJ18.out; have := HJ57.out; first | omega | exact Nat.le_refl _⟩, ⟨by (try simp only [hl579000_57]); (try simp only [hl579001_57]); (with_reducible repeat (first | apply Kd.R_alloc | apply Kd.R_drewN | apply Kd.R_drew)); exact Kd.R_mono HO_10.out (fun _ hk => trivial)⟩, ⟨by (try simp only [hl579000_57]); (try simp only [hl579001_57]); (with_reducible repeat (first | apply Kd.R_alloc | apply Kd.R_drewN | apply Kd.R_drew)); exact Kd.R_mono HO_579000.out (fun _ hk => trivial)⟩, ⟨by (try simp only [hl579000_57]); (try simp only [hl579001_57]); (with_reducible repeat (first | apply Kd.R_alloc | apply Kd.R_drewN | apply Kd.R_drew)); exact Kd.R_mono HO_579001.out (fun _ hk => trivial)⟩, ⟨by (try simp only [hl579000_57]); (try simp only [hl579001_57]); (with_reducible repeat (first | refine blk_drewN ?_ _ | refine blk_drew ?_ | refine blk_alloc ?_ _)); exact BK556.out⟩, ⟨by (try simp only [hl579000_57]); (try simp only [hl579001_57]); (with_reducible repeat (first | refine blk_drewN ?_ _ | refine blk_drew ?_ | refine blk_alloc ?_ _)); exact BK578.out⟩, ⟨pS HB.out⟩⟩
              ·replace c103 := Bool.eq_false_iff.mpr c103
               subst c103
               have H1 : (laws_FnExactWalSteps.j2 kj57 t605 t604 true) = some r := by rw [if_neg (show ¬ (false = true) by decide)] at H; exact H
               clear H
               have H := H1
               clear H1
               have H' := Aside0.mk H
               clear H
               obtain ⟨Ao107, co107, eo107⟩ := Kd.R_slice HO618.out
               subst eo107
               obtain ⟨Ao108, co108, eo108⟩ := Kd.R_slice HO_6.out
               subst eo108
               go_wp2_with (first | ((with_reducible refine gate_callee (f := 22) rfl ?_); refine goesL_ (some 104) rfl rfl Try.func22 (by kernel_rfl) rfl #[.slice Ao107 t616.length co107, .slice Ao108 t568.length co108] rfl bM ?_; (with_reducible refine (laws_eqSecStepS.calls kj57 _ _ t616 _ _ t568 false _ ?side1 ?side2 ?side3 ?side4 A102.out).mono ?_); (case side1 => exact pC (Kd.R_reads' HO618.out).2.2); (case side2 => exact (Kd.R_reads' HO618.out).2.1); (case side3 => exact pC (Kd.R_reads' HO_6.out).2.2); (case side4 => exact (Kd.R_reads' HO_6.out).2.1); rintro e w109 ⟨rfl, hb⟩; refine ⟨_, rfl, ?_⟩; have n0_ := Aside0.mk (Kd.R_below (pR HO_6.out) hb); have n1_ := Aside0.mk (Kd.R_below (pR HO_10.out) hb); have n2_ := Aside0.mk (Kd.R_below (pR HO_579000.out) hb); have n3_ := Aside0.mk (Kd.R_below (pR HO_579001.out) hb); have n4_ := Aside0.mk (Kd.R_below (pR HO609.out) hb); have n5_ := Aside0.mk (Kd.R_below (pR HO612.out) hb); have n6_ := Aside0.mk (Kd.R_below (pR HO615.out) hb); have n7_ := Aside0.mk (Kd.R_below (pR HO618.out) hb); have n8_ := Aside0.mk (blk_below (pK BK556.out) hb); have n9_ := Aside0.mk (blk_below (pK BK578.out) hb); have n10_ := Aside0.mk (below_step (pS HB.out) hb); clear HO_6; clear HO_10; clear HO_579000; clear HO_579001; clear HO609; clear HO612; clear HO615; clear HO618; clear BK556; clear BK578; clear HB; have HO_6 := n0_; have HO_10 := n1_; have HO_579000 := n2_; have HO_579001 := n3_; have HO609 := n4_; have HO612 := n5_; have HO615 := n6_; have HO618 := n7_; have BK556 := n8_; have BK578 := n9_; have HB := n10_; clear n0_ n1_ n2_ n3_ n4_ n5_ n6_ n7_ n8_ n9_ n10_; (try clear hb); (try clear hb2); (try clear hk); (try clear hi)))
               go_meet
               case rel => exact ⟨_, (true), (by first | rfl | (simp; done) | (simp [*]; done)), H', ⟨by have := HJ18.out; have := HJ57.out; first | omega | exact Nat.le_refl _⟩, ⟨by (try simp only [hl579000_57]); (try simp only [hl579001_57]); (with_reducible repeat (first | apply Kd.R_alloc | apply Kd.R_drewN | apply Kd.R_drew)); exact Kd.R_mono HO_10.out (fun _ hk => trivial)⟩, ⟨by (try simp only [hl579000_57]); (try simp only [hl579001_57]); (with_reducible repeat (first | apply Kd.R_alloc | apply Kd.R_drewN | apply Kd.R_drew)); exact Kd.R_mono HO_579000.out (fun _ hk => trivial)⟩, ⟨by (try simp only [hl579000_57]); (try simp only [hl579001_57]); (with_reducible repeat (first | apply Kd.R_alloc | apply Kd.R_drewN | apply Kd.R_drew)); exact Kd.R_mono HO_579001.out (fun _ hk => trivial)⟩, ⟨by (try simp only [hl579000_57]); (try simp only [hl579001_57]); (with_reducible repeat (first | refine blk_drewN ?_ _ | refine blk_drew ?_ | refine blk_alloc ?_ _)); exact BK556.out⟩, ⟨by (try simp only [hl579000_57]); (try simp only [hl579001_57]); (with_reducible repeat (first | refine blk_drewN ?_ _ | refine blk_drew ?_ | refine blk_alloc ?_ _)); exact BK578.out⟩, ⟨pS HB.out⟩⟩
             case rest =>
              clear HC90
              try clear c1
              try clear c2
              try clear p2
              try clear c3
              try clear c4
              try clear c4b0
              try clear c5
              try clear c6
              try clear c7
              try clear c8
              try clear c9
              try clear c9b0
              try clear c10
              try clear c11
              try clear c13
              try clear c15
              try clear c16
              try clear c17
              try clear c18
              try clear c22
              try clear c23
              try clear c24
              try clear c25
              try clear c26
              try clear c27
              try clear c28
              try clear c34
              try clear c42
              try clear c49
              try clear c52
              try clear c55
              try clear c66
              try clear c70
              try clear c70b0
              try clear c72
              try clear c79
              try clear c82
              try clear c82b0
              try clear c86
              try clear c86b0
              try clear c86b1
              try clear c94
              try clear c103
              try clear hcz11_0
              try clear hcz11_1
              try clear hcz21_0
              try clear hcz21_1
              try clear hcz23_0
              try clear hcz23_1
              try clear hcz30_0
              try clear hcz30_1
              try clear hcz35_0
              try clear hcz35_1
              try clear hcz38_0
              try clear hcz38_1
              try clear hcz67_0
              try clear hcz67_1
              try clear hcz6_0
              try clear hcz6_1
              try clear hcz95_0
              try clear hcz95_1
              try clear hfz11_0
              try clear hfz11_1
              try clear hfz21_0
              try clear hfz21_1
              try clear hfz23_0
              try clear hfz23_1
              try clear hfz30_0
              try clear hfz30_1
              try clear hfz35_0
              try clear hfz35_1
              try clear hfz38_0
              try clear hfz38_1
              try clear hfz67_0
              try clear hfz67_1
              try clear hfz6_0
              try clear hfz6_1
              try clear hfz95_0
              try clear hfz95_1
              try clear p2
              obtain ⟨kq, x110_89, rfl, HA, HJ89, HO_10, HO_579000, HO_579001, BK556, BK578, HB⟩ := hcut
              have hl10_89 := (Kd.R_reads' HO_10.out).1
              rw [hl10_89] at HO_10
              (try simp only [hl10_89])
              (try simp only [hl10_89] at BK556)
              (try simp only [hl10_89] at BK578)
              (try simp only [hl10_89] at HO_579000)
              (try simp only [hl10_89] at HO_579001)
              cases kq with
              | zero => exact absurd HA.out (by simp [laws_FnExactWalSteps.j2])
              | succ kj89 =>
               have H := HA.out
               clear HA
               simp only [laws_FnExactWalSteps.j2] at H
               by_cases c110 : x110_89 = true
               ·subst c110
                have H1 : (some false) = some r := by rw [if_pos rfl] at H; exact H
                clear H
                have H := H1
                clear H1
                obtain rfl := Option.some.inj H
                go_wp2
                go_ret
                exact ⟨by first | rfl | (simp [errW_none, errW_some] <;> rfl) | (simp [*, errW_none, errW_some] <;> rfl), pS HB.out⟩
               ·replace c110 := Bool.eq_false_iff.mpr c110
                subst c110
                have H1 : ((laws_heldSecStepS.f kj89 t605 1).bind fun t621 => (if t621 < 0 then (some false) else (if t621 = t604 then (some true) else (some false)))) = some r := by rw [if_neg (show ¬ (false = true) by decide)] at H; exact H
                clear H
                have H := H1
                clear H1
                replace H := Option.bind_eq_some_iff.mp H
                obtain ⟨t621, A1110, H⟩ := H
                replace H : (if t621 < 0 then (some false) else (if t621 = t604 then (some true) else (some false))) = some r := H
                have A111 := Aside0.mk A1110
                clear A1110
                by_cases c112 : t621 < 0
                ·rw [if_pos c112] at H
                 have c112b0 : decide (t621 < 0) = true := decide_eq_true c112
                 clear c112
                 obtain rfl := Option.some.inj H
                 go_wp2_with (first | ((with_reducible refine gate_callee (f := 24) rfl ?_); refine goesL_ (some 113) rfl rfl Try.func24 (by kernel_rfl) rfl #[.slice Ao91 t605.length co91, .int .i64 1] rfl bM ?_; (with_reducible refine (laws_heldSecStepS.calls kj89 _ _ t605 1 t621 _ ?side1 ?side2 A111.out).mono ?_); (case side1 => exact pC (Kd.R_reads' HO_10.out).2.2); (case side2 => exact (Kd.R_reads' HO_10.out).2.1); rintro e w113 ⟨rfl, hb⟩; refine ⟨_, rfl, ?_⟩; have n0_ := Aside0.mk (Kd.R_below (pR HO_10.out) hb); have n1_ := Aside0.mk (Kd.R_below (pR HO_579000.out) hb); have n2_ := Aside0.mk (Kd.R_below (pR HO_579001.out) hb); have n3_ := Aside0.mk (blk_below (pK BK556.out) hb); have n4_ := Aside0.mk (blk_below (pK BK578.out) hb); have n5_ := Aside0.mk (below_step (pS HB.out) hb); clear HO_10; clear HO_579000; clear HO_579001; clear BK556; clear BK578; clear HB; have HO_10 := n0_; have HO_579000 := n1_; have HO_579001 := n2_; have BK556 := n3_; have BK578 := n4_; have HB := n5_; clear n0_ n1_ n2_ n3_ n4_ n5_; (try clear hb); (try clear hb2); (try clear hk); (try clear hi)))
                 go_ret
                 exact ⟨by first | rfl | (simp [errW_none, errW_some] <;> rfl) | (simp [*, errW_none, errW_some] <;> rfl), pS HB.out⟩
                ·rw [if_neg c112] at H
                 have c112b0 : decide (t621 < 0) = false := decide_eq_false c112
                 clear c112
                 by_cases c114 : t621 = t604
                 ·rw [if_pos c114] at H
                  have c114b0 : (t621 == t604) = true := beq_iff_eq.mpr c114
                  have c114b1 : (t621 != t604) = false := bne_eq_false_iff_eq.mpr c114
                  clear c114
                  obtain rfl := Option.some.inj H
                  go_wp2_with (first | ((with_reducible refine gate_callee (f := 24) rfl ?_); refine goesL_ (some 113) rfl rfl Try.func24 (by kernel_rfl) rfl #[.slice Ao91 t605.length co91, .int .i64 1] rfl bM ?_; (with_reducible refine (laws_heldSecStepS.calls kj89 _ _ t605 1 t621 _ ?side1 ?side2 A111.out).mono ?_); (case side1 => exact pC (Kd.R_reads' HO_10.out).2.2); (case side2 => exact (Kd.R_reads' HO_10.out).2.1); rintro e w115 ⟨rfl, hb⟩; refine ⟨_, rfl, ?_⟩; have n0_ := Aside0.mk (Kd.R_below (pR HO_10.out) hb); have n1_ := Aside0.mk (Kd.R_below (pR HO_579000.out) hb); have n2_ := Aside0.mk (Kd.R_below (pR HO_579001.out) hb); have n3_ := Aside0.mk (blk_below (pK BK556.out) hb); have n4_ := Aside0.mk (blk_below (pK BK578.out) hb); have n5_ := Aside0.mk (below_step (pS HB.out) hb); clear HO_10; clear HO_579000; clear HO_579001; clear BK556; clear BK578; clear HB; have HO_10 := n0_; have HO_579000 := n1_; have HO_579001 := n2_; have BK556 := n3_; have BK578 := n4_; have HB := n5_; clear n0_ n1_ n2_ n3_ n4_ n5_; (try clear hb); (try clear hb2); (try clear hk); (try clear hi)))
                  go_ret
                  exact ⟨by first | rfl | (simp [errW_none, errW_some] <;> rfl) | (simp [*, errW_none, errW_some] <;> rfl), pS HB.out⟩
                 ·rw [if_neg c114] at H
                  have c114b0 : (t621 == t604) = false := beq_eq_false_iff_ne.mpr c114
                  have c114b1 : (t621 != t604) = true := bne_iff_ne.mpr c114
                  obtain rfl := Option.some.inj H
                  go_wp2_with (first | ((with_reducible refine gate_callee (f := 24) rfl ?_); refine goesL_ (some 113) rfl rfl Try.func24 (by kernel_rfl) rfl #[.slice Ao91 t605.length co91, .int .i64 1] rfl bM ?_; (with_reducible refine (laws_heldSecStepS.calls kj89 _ _ t605 1 t621 _ ?side1 ?side2 A111.out).mono ?_); (case side1 => exact pC (Kd.R_reads' HO_10.out).2.2); (case side2 => exact (Kd.R_reads' HO_10.out).2.1); rintro e w116 ⟨rfl, hb⟩; refine ⟨_, rfl, ?_⟩; have n0_ := Aside0.mk (Kd.R_below (pR HO_10.out) hb); have n1_ := Aside0.mk (Kd.R_below (pR HO_579000.out) hb); have n2_ := Aside0.mk (Kd.R_below (pR HO_579001.out) hb); have n3_ := Aside0.mk (blk_below (pK BK556.out) hb); have n4_ := Aside0.mk (blk_below (pK BK578.out) hb); have n5_ := Aside0.mk (below_step (pS HB.out) hb); clear HO_10; clear HO_579000; clear HO_579001; clear BK556; clear BK578; clear HB; have HO_10 := n0_; have HO_579000 := n1_; have HO_579001 := n2_; have BK556 := n3_; have BK578 := n4_; have HB := n5_; clear n0_ n1_ n2_ n3_ n4_ n5_; (try clear hb); (try clear hb2); (try clear hk); (try clear hi)))
                  go_ret
                  exact ⟨by first | rfl | (simp [errW_none, errW_some] <;> rfl) | (simp [*, errW_none, errW_some] <;> rfl), pS HB.out⟩
            ·rw [if_neg c86] at H
             have c86b0 : (t606 == t604) = false := beq_eq_false_iff_ne.mpr c86
             have c86b1 : (t606 != t604) = true := bne_iff_ne.mpr c86
             obtain rfl := Option.some.inj H
             obtain ⟨Ao117, co117, eo117⟩ := Kd.R_slice HO_10.out
             subst eo117
             go_wp2_with (first | ((with_reducible refine gate_callee (f := 23) rfl ?_); refine goesL_ (some 85) rfl rfl Try.func23 (by kernel_rfl) rfl #[.slice Ao117 t582.length co117, .int .i64 1] rfl bM ?_; (with_reducible refine (laws_markSecStepS.calls kj57 (fun k_ => some k_ = (.slice Ao117 t582.length co117 : Value).ownBlock) (.slice Ao117 t582.length co117) t582 1 t604 t605 w _ ?side1 ?side2 A80.out).mono ?_); (case side1 => repeat (first | (with_reducible first | exact HB.out | apply below_alloc | apply pw_below_drewN | apply below_drew1 | refine below_set ?_ GE556.out | refine below_set ?_ GE578.out) | exact HB.out)); (case side2 => exact Kd.R_tight rfl HO_10.out); rintro e w118 ⟨rfl, hy0, hb, hkp⟩; refine ⟨_, rfl, ?_⟩; have n0_ := Aside0.mk (Kd.R_mono (ok' := fun k_ => some k_ ≠ (.slice Ao117 t582.length co117 : Value).ownBlock) (Kd.R_keptB (HO_6.out) hkp (fun k_ hk_ hs_ => (hk_) hs_)) (fun k_ hk_ => hk_.1)); have n1_ := Aside0.mk (Kd.R_reok rfl hy0 (fun k_ e_ => HO_10.out.1 k_ e_)); have n2_ := Aside0.mk (Kd.R_mono (ok' := fun k_ => True) (Kd.R_keptB ((Kd.R_apart' HO_579000.out (Kd.R_typed HO_10.out) (by decide))) hkp (fun k_ hk_ hs_ => (hk_.2) hs_)) (fun k_ hk_ => trivial)); have n3_ := Aside0.mk (Kd.R_mono (ok' := fun k_ => True) (Kd.R_keptB ((Kd.R_apart' HO_579001.out (Kd.R_typed HO_10.out) (by decide))) hkp (fun k_ hk_ hs_ => (hk_.2) hs_)) (fun k_ hk_ => trivial)); have n4_ := Aside0.mk (blk_kept (pK BK556.out) hkp (fun hs_ => (fun e_ => (Kd.R_ne HO_10.out BK556.out (by decide)) e_) hs_)); have n5_ := Aside0.mk (blk_kept (pK BK578.out) hkp (fun hs_ => (fun e_ => (Kd.R_ne HO_10.out BK578.out (by decide)) e_) hs_)); have n6_ := Aside0.mk (hb); clear HO_6; clear HO_10; clear HO_579000; clear HO_579001; clear BK556; clear BK578; clear HB; have HO_6 := n0_; have HO_10 := n1_; have HO_579000 := n2_; have HO_579001 := n3_; have BK556 := n4_; have BK578 := n5_; have HB := n6_; clear n0_ n1_ n2_ n3_ n4_ n5_ n6_; (try clear hb); (try clear hkp); (try clear hy0)) | ((with_reducible refine gate_callee (f := 24) rfl ?_); refine goesL_ (some 88) rfl rfl Try.func24 (by kernel_rfl) rfl #[.slice Ao117 t605.length co117, .int .i64 1] rfl (by (try simp only [List.map_toArray, List.map_cons, List.map_nil]); first | done | (rw [show t605.length = t582.length from (Kd.R_reads' HO_10.out).1.symm] <;> rfl) | rfl | (simp only [List.length_drop, List.length_take]; rfl)) ?_; (with_reducible refine (laws_heldSecStepS.calls kj57 _ _ t605 1 t606 _ ?side1 ?side2 A81.out).mono ?_); (case side1 => exact pC (Kd.R_reads' HO_10.out).2.2); (case side2 => rw [show t605.length = t582.length from (Kd.R_reads' HO_10.out).1.symm]; exact (Kd.R_reads' HO_10.out).2.1); rintro e w119 ⟨rfl, hb⟩; refine ⟨_, rfl, ?_⟩; have n0_ := Aside0.mk (Kd.R_below (pR HO_6.out) hb); have n1_ := Aside0.mk (Kd.R_below (pR HO_10.out) hb); have n2_ := Aside0.mk (Kd.R_below (pR HO_579000.out) hb); have n3_ := Aside0.mk (Kd.R_below (pR HO_579001.out) hb); have n4_ := Aside0.mk (blk_below (pK BK556.out) hb); have n5_ := Aside0.mk (blk_below (pK BK578.out) hb); have n6_ := Aside0.mk (below_step (pS HB.out) hb); clear HO_6; clear HO_10; clear HO_579000; clear HO_579001; clear BK556; clear BK578; clear HB; have HO_6 := n0_; have HO_10 := n1_; have HO_579000 := n2_; have HO_579001 := n3_; have BK556 := n4_; have BK578 := n5_; have HB := n6_; clear n0_ n1_ n2_ n3_ n4_ n5_ n6_; (try clear hb); (try clear hb2); (try clear hk); (try clear hi)))
             go_ret
             exact ⟨by first | rfl | (simp [errW_none, errW_some] <;> rfl) | (simp [*, errW_none, errW_some] <;> rfl), pS HB.out⟩
       ·replace c55 := Bool.eq_false_iff.mpr c55
        subst c55
        have H1 : (some false) = some r := by rw [if_neg (show ¬ (false = true) by decide)] at H; exact H
        clear H
        have H := H1
        clear H1
        obtain rfl := Option.some.inj H
        try go_wp2
        have n0_ := Aside0.mk (Kd.R_drew HO_6.out)
        have n1_ := Aside0.mk (Kd.R_drew HO_9.out)
        have n2_ := Aside0.mk (Kd.R_drew HO_10.out)
        have n3_ := Aside0.mk (Kd.R_drew HO_579000.out)
        have n4_ := Aside0.mk (Kd.R_drew HO_579001.out)
        have n5_ := Aside0.mk (blk_drew BK556.out)
        have n6_ := Aside0.mk (blk_drew BK578.out)
        have n7_ := Aside0.mk (below_drew1 HB.out)
        clear HO_6
        clear HO_9
        clear HO_10
        clear HO_579000
        clear HO_579001
        clear BK556
        clear BK578
        clear HB
        have HO_6 := n0_
        have HO_9 := n1_
        have HO_10 := n2_
        have HO_579000 := n3_
        have HO_579001 := n4_
        have BK556 := n5_
        have BK578 := n6_
        have HB := n7_
        clear n0_ n1_ n2_ n3_ n4_ n5_ n6_ n7_
        refine start_ (n := 5) (S := fun w' => w'.cell? ⟨gb578, 0, none⟩ = some (.slice Ao33 t572.length co33) ∧ w'.cell? ⟨gb578, 1, none⟩ = some (.slice Ao36 t575.length co36) ∧ w'.cell? ⟨gb556, 0, none⟩ = some (.slice A0_0 l0_0.length c0_0) ∧ w'.cell? ⟨gb556, 1, none⟩ = some (.slice A0_1 l0_1.length c0_1)) (ds := []) #[false, false, false, false, false] (by kernel_rfl) rfl rfl ⟨(blk_cell BK578.out 0).trans rfl, (blk_cell BK578.out 1).trans rfl, (blk_cell BK556.out 0).trans rfl, (blk_cell BK556.out 1).trans rfl⟩ (fun hHeld => ?_)
        generalize wc.drew = w120 at HO_6 HO_9 HO_10 HO_579000 HO_579001 BK556 BK578 HB hHeld ⊢
        refine take_ (i := 0) (N := some 54) (v := ?_) (a' := ?_) #[true, false, false, false, false] rfl rfl (by kernel_rfl) (fun _ _ _ h => h) (Or.inl ⟨by rfl, ?_⟩) hHeld ?_ ?_
        rotate_left
        ·rintro w' ⟨s0, s1, s2, s3⟩
         go_simp
         with_reducible rfl
        rotate_left
        ·simp only [Act.put, List.setIfInBounds_toArray, List.set_cons_zero, List.set_cons_succ, i64_w, i32_w]
         rfl
        refine take_ (i := 1) (N := some 55) (v := ?_) (a' := ?_) #[true, true, false, false, false] rfl rfl (by kernel_rfl) (fun _ _ _ h => h) (Or.inl ⟨by rfl, ?_⟩) hHeld ?_ ?_
        rotate_left
        ·rintro w' ⟨s0, s1, s2, s3⟩
         go_simp
         with_reducible rfl
        rotate_left
        ·simp only [Act.put, List.setIfInBounds_toArray, List.set_cons_zero, List.set_cons_succ, i64_w, i32_w]
         rfl
        refine one_ (i := 2) (N := some 56) #[true, true, true, false, false] rfl rfl (by kernel_rfl) (by decide) (fun K hK => ?_)
        refine goes_ Try.func13 (by kernel_rfl) rfl #[.agg #[.slice A0_0 l0_0.length c0_0, .slice A0_1 l0_1.length c0_1]] (by rfl) rfl rfl bM ?_
        with_reducible refine (laws_toSecDisk.calls kj18 _ _ l0_0 _ _ l0_1 t587 t590 _ ?side1 ?side2 ?side3 ?side4 A50.out).mono ?_
        (case side1 => exact pC (Kd.C_below HR0_0.out HB.out))
        (case side2 => exact HC0_0.out)
        (case side3 => exact pC (Kd.C_below HR0_1.out HB.out))
        (case side4 => exact HC0_1.out)
        rintro e w121 ⟨v588, v591, rfl, ho0, ho1, hb⟩
        refine ⟨_, rfl, ?_⟩
        have n0_ := Aside0.mk (Kd.R_below (pR HO_6.out) hb)
        have n1_ := Aside0.mk (Kd.R_elder' (pR HO_9.out) (Kd.R_base ho0) hb)
        have n2_ := Aside0.mk (Kd.R_below (pR HO_10.out) hb)
        have n3_ := Aside0.mk (Kd.R_elder' (pR HO_579000.out) (Kd.R_base ho0) hb)
        have n4_ := Aside0.mk (Kd.R_elder' (pR HO_579001.out) (Kd.R_base ho1) hb)
        have n5_ := Aside0.mk (Kd.R_lower (Kd.R_new' (Kd.R_new' ho0 (Kd.R_lt (pR HO_9.out))) (Kd.R_lt (pR HO_579000.out))) (below_size (pS HB.out)))
        have n6_ := Aside0.mk (Kd.R_lower (Kd.R_new' ho1 (Kd.R_lt (pR HO_579001.out))) (below_size (pS HB.out)))
        have n7_ := Aside0.mk (blk_below (pK BK556.out) hb)
        have n8_ := Aside0.mk (blk_below (pK BK578.out) hb)
        have n9_ := Aside0.mk (below_step (pS HB.out) hb)
        clear HO_6
        clear HO_9
        clear HO_10
        clear HO_579000
        clear HO_579001
        clear BK556
        clear BK578
        clear HB
        have HO_6 := n0_
        have HO_9 := n1_
        have HO_10 := n2_
        have HO_579000 := n3_
        have HO_579001 := n4_
        have HO589 := n5_
        have HO592 := n6_
        have BK556 := n7_
        have BK578 := n8_
        have HB := n9_
        clear n0_ n1_ n2_ n3_ n4_ n5_ n6_ n7_ n8_ n9_
        (try clear hb)
        (try clear hb2)
        (try clear hk)
        (try clear hi)
        (try clear ho0)
        (try clear ho1)
        obtain ⟨Ao122, co122, eo122⟩ := Kd.R_slice HO589.out
        (first | subst eo122 | (injection eo122 with f1_ f2_ f3_; have f4_ := f1_.symm; have f5_ := f3_.symm; clear f1_ f2_ f3_; subst f4_; subst f5_))
        obtain ⟨Ao123, co123, eo123⟩ := Kd.R_slice HO592.out
        (first | subst eo123 | (injection eo123 with f1_ f2_ f3_; have f4_ := f1_.symm; have f5_ := f3_.symm; clear f1_ f2_ f3_; subst f4_; subst f5_))
        refine hK.out _ _ ⟨(blk_cell BK578.out 0).trans rfl, (blk_cell BK578.out 1).trans rfl, (blk_cell BK556.out 0).trans rfl, (blk_cell BK556.out 1).trans rfl⟩ (fun hHeld => ?_)
        clear hK K
        refine norm_ (a' := ?_) ?_ ?_
        rotate_left
        ·show Act.put _ (some 56) _ = _
         simp only [Act.put, List.setIfInBounds_toArray, List.set_cons_zero, List.set_cons_succ, i64_w, i32_w]
         rfl
        refine one_ (i := 3) (N := some 57) #[true, true, true, true, false] rfl rfl (by kernel_rfl) (by decide) (fun K hK => ?_)
        refine goes_ Try.func16 (by kernel_rfl) rfl #[.agg #[.slice Ao33 t572.length co33, .slice Ao36 t575.length co36], .agg #[.slice Ao122 t587.length co122, .slice Ao123 t590.length co123]] (by rfl) rfl rfl bM ?_
        with_reducible refine (laws_eqSecDisk.calls kj18 _ _ t572 _ _ t575 _ _ t587 _ _ t590 true _ ?side1 ?side2 ?side3 ?side4 ?side5 ?side6 ?side7 ?side8 A51.out).mono ?_
        (case side1 => exact pC (Kd.R_reads' HO_579000.out).2.2)
        (case side2 => exact (Kd.R_reads' HO_579000.out).2.1)
        (case side3 => exact pC (Kd.R_reads' HO_579001.out).2.2)
        (case side4 => exact (Kd.R_reads' HO_579001.out).2.1)
        (case side5 => exact pC (Kd.R_reads' HO589.out).2.2)
        (case side6 => exact (Kd.R_reads' HO589.out).2.1)
        (case side7 => exact pC (Kd.R_reads' HO592.out).2.2)
        (case side8 => exact (Kd.R_reads' HO592.out).2.1)
        rintro e w124 ⟨rfl, hb⟩
        refine ⟨_, rfl, ?_⟩
        have n0_ := Aside0.mk (Kd.R_below (pR HO_6.out) hb)
        have n1_ := Aside0.mk (Kd.R_below (pR HO_9.out) hb)
        have n2_ := Aside0.mk (Kd.R_below (pR HO_10.out) hb)
        have n3_ := Aside0.mk (Kd.R_below (pR HO_579000.out) hb)
        have n4_ := Aside0.mk (Kd.R_below (pR HO_579001.out) hb)
        have n5_ := Aside0.mk (Kd.R_below (pR HO589.out) hb)
        have n6_ := Aside0.mk (Kd.R_below (pR HO592.out) hb)
        have n7_ := Aside0.mk (blk_below (pK BK556.out) hb)
        have n8_ := Aside0.mk (blk_below (pK BK578.out) hb)
        have n9_ := Aside0.mk (below_step (pS HB.out) hb)
        clear HO_6
        clear HO_9
        clear HO_10
        clear HO_579000
        clear HO_579001
        clear HO589
        clear HO592
        clear BK556
        clear BK578
        clear HB
        have HO_6 := n0_
        have HO_9 := n1_
        have HO_10 := n2_
        have HO_579000 := n3_
        have HO_579001 := n4_
        have HO589 := n5_
        have HO592 := n6_
        have BK556 := n7_
        have BK578 := n8_
        have HB := n9_
        clear n0_ n1_ n2_ n3_ n4_ n5_ n6_ n7_ n8_ n9_
        (try clear hb)
        (try clear hb2)
        (try clear hk)
        (try clear hi)
        refine hK.out _ _ ⟨(blk_cell BK578.out 0).trans rfl, (blk_cell BK578.out 1).trans rfl, (blk_cell BK556.out 0).trans rfl, (blk_cell BK556.out 1).trans rfl⟩ (fun hHeld => ?_)
        clear hK K
        refine norm_ (a' := ?_) ?_ ?_
        rotate_left
        ·show Act.put _ (some 57) _ = _
         simp only [Act.put, List.setIfInBounds_toArray, List.set_cons_zero, List.set_cons_succ, i64_w, i32_w]
         rfl
        refine pure_ (i := 4) (N := some 58) (v := ?_) (a' := ?_) #[true, true, true, true, true] rfl rfl (by kernel_rfl) (fun _ _ _ h => h) (Or.inl ⟨by rfl, ?_⟩) ?_ ?_
        rotate_left
        ·intro w'
         go_simp
         with_reducible rfl
        rotate_left
        ·simp only [Act.put, List.setIfInBounds_toArray, List.set_cons_zero, List.set_cons_succ, i64_w, i32_w]
         rfl
        refine done_ (by kernel_rfl) ?_
        try go_wp2_with (first | ((with_reducible refine gate_callee (f := 27) rfl ?_); refine goesL_ (some 61) rfl rfl Try.func27 (by kernel_rfl) rfl #[.slice A1 l1.length c1] rfl bM ?_; (with_reducible refine (laws_toStringS.calls kj18 _ _ l1 t594 _ ?side1 ?side2 A53.out).mono ?_); (case side1 => exact pC (Kd.C_below HR1.out HB.out)); (case side2 => exact HC1.out); rintro e w125 ⟨v595, rfl, ho0, hb⟩; refine ⟨_, rfl, ?_⟩; have n0_ := Aside0.mk (Kd.R_below (pR HO_6.out) hb); have n1_ := Aside0.mk (Kd.R_elder' (pR HO_9.out) (Kd.R_base ho0) hb); have n2_ := Aside0.mk (Kd.R_below (pR HO_10.out) hb); have n3_ := Aside0.mk (Kd.R_elder' (pR HO_579000.out) (Kd.R_base ho0) hb); have n4_ := Aside0.mk (Kd.R_below (pR HO_579001.out) hb); have n5_ := Aside0.mk (Kd.R_elder' (pR HO589.out) (Kd.R_base ho0) hb); have n6_ := Aside0.mk (Kd.R_below (pR HO592.out) hb); have n7_ := Aside0.mk (Kd.R_lower (Kd.R_new' (Kd.R_new' (Kd.R_new' ho0 (Kd.R_lt (pR HO_9.out))) (Kd.R_lt (pR HO_579000.out))) (Kd.R_lt (pR HO589.out))) (below_size (pS HB.out))); have n8_ := Aside0.mk (blk_below (pK BK556.out) hb); have n9_ := Aside0.mk (blk_below (pK BK578.out) hb); have n10_ := Aside0.mk (below_step (pS HB.out) hb); clear HO_6; clear HO_9; clear HO_10; clear HO_579000; clear HO_579001; clear HO589; clear HO592; clear BK556; clear BK578; clear HB; have HO_6 := n0_; have HO_9 := n1_; have HO_10 := n2_; have HO_579000 := n3_; have HO_579001 := n4_; have HO589 := n5_; have HO592 := n6_; have HO596 := n7_; have BK556 := n8_; have BK578 := n9_; have HB := n10_; clear n0_ n1_ n2_ n3_ n4_ n5_ n6_ n7_ n8_ n9_ n10_; (try clear hb); (try clear hb2); (try clear hk); (try clear hi); (try clear ho0); obtain ⟨Ao126, co126, eo126⟩ := Kd.R_slice HO596.out; subst eo126) | ((with_reducible refine gate_callee (f := 15) rfl ?_); refine goesL_ (some 62) rfl rfl Try.func15 (by kernel_rfl) rfl #[.slice Ao39 t579.length co39, .slice Ao126 t594.length co126] rfl bM ?_; (with_reducible refine (laws_eqStringS.calls kj18 _ _ t579 _ _ t594 false _ ?side1 ?side2 ?side3 ?side4 A54.out).mono ?_); (case side1 => exact pC (Kd.R_reads' HO_9.out).2.2); (case side2 => exact (Kd.R_reads' HO_9.out).2.1); (case side3 => exact pC (Kd.R_reads' HO596.out).2.2); (case side4 => exact (Kd.R_reads' HO596.out).2.1); rintro e w' ⟨rfl, ⟨nd, rfl⟩⟩; refine ⟨_, rfl, ?_⟩))
        go_ret
        exact ⟨by first | rfl | (simp [errW_none, errW_some] <;> rfl) | (simp [*, errW_none, errW_some] <;> rfl), pS HB.out⟩
      ·replace c52 := Bool.eq_false_iff.mpr c52
       subst c52
       have H1 : (some false) = some r := by rw [if_neg (show ¬ (false = true) by decide)] at H; exact H
       clear H
       have H := H1
       clear H1
       obtain rfl := Option.some.inj H
       try go_wp2
       have n0_ := Aside0.mk (Kd.R_drew HO_6.out)
       have n1_ := Aside0.mk (Kd.R_drew HO_9.out)
       have n2_ := Aside0.mk (Kd.R_drew HO_10.out)
       have n3_ := Aside0.mk (Kd.R_drew HO_579000.out)
       have n4_ := Aside0.mk (Kd.R_drew HO_579001.out)
       have n5_ := Aside0.mk (blk_drew BK556.out)
       have n6_ := Aside0.mk (blk_drew BK578.out)
       have n7_ := Aside0.mk (below_drew1 HB.out)
       clear HO_6
       clear HO_9
       clear HO_10
       clear HO_579000
       clear HO_579001
       clear BK556
       clear BK578
       clear HB
       have HO_6 := n0_
       have HO_9 := n1_
       have HO_10 := n2_
       have HO_579000 := n3_
       have HO_579001 := n4_
       have BK556 := n5_
       have BK578 := n6_
       have HB := n7_
       clear n0_ n1_ n2_ n3_ n4_ n5_ n6_ n7_
       refine start_ (n := 5) (S := fun w' => w'.cell? ⟨gb578, 0, none⟩ = some (.slice Ao33 t572.length co33) ∧ w'.cell? ⟨gb578, 1, none⟩ = some (.slice Ao36 t575.length co36) ∧ w'.cell? ⟨gb556, 0, none⟩ = some (.slice A0_0 l0_0.length c0_0) ∧ w'.cell? ⟨gb556, 1, none⟩ = some (.slice A0_1 l0_1.length c0_1)) (ds := []) #[false, false, false, false, false] (by kernel_rfl) rfl rfl ⟨(blk_cell BK578.out 0).trans rfl, (blk_cell BK578.out 1).trans rfl, (blk_cell BK556.out 0).trans rfl, (blk_cell BK556.out 1).trans rfl⟩ (fun hHeld => ?_)
       generalize wc.drew = w127 at HO_6 HO_9 HO_10 HO_579000 HO_579001 BK556 BK578 HB hHeld ⊢
       refine take_ (i := 0) (N := some 54) (v := ?_) (a' := ?_) #[true, false, false, false, false] rfl rfl (by kernel_rfl) (fun _ _ _ h => h) (Or.inl ⟨by rfl, ?_⟩) hHeld ?_ ?_
       rotate_left
       ·rintro w' ⟨s0, s1, s2, s3⟩
        go_simp
        with_reducible rfl
       rotate_left
       ·simp only [Act.put, List.setIfInBounds_toArray, List.set_cons_zero, List.set_cons_succ, i64_w, i32_w]
        rfl
       refine take_ (i := 1) (N := some 55) (v := ?_) (a' := ?_) #[true, true, false, false, false] rfl rfl (by kernel_rfl) (fun _ _ _ h => h) (Or.inl ⟨by rfl, ?_⟩) hHeld ?_ ?_
       rotate_left
       ·rintro w' ⟨s0, s1, s2, s3⟩
        go_simp
        with_reducible rfl
       rotate_left
       ·simp only [Act.put, List.setIfInBounds_toArray, List.set_cons_zero, List.set_cons_succ, i64_w, i32_w]
        rfl
       refine one_ (i := 2) (N := some 56) #[true, true, true, false, false] rfl rfl (by kernel_rfl) (by decide) (fun K hK => ?_)
       refine goes_ Try.func13 (by kernel_rfl) rfl #[.agg #[.slice A0_0 l0_0.length c0_0, .slice A0_1 l0_1.length c0_1]] (by rfl) rfl rfl bM ?_
       with_reducible refine (laws_toSecDisk.calls kj18 _ _ l0_0 _ _ l0_1 t587 t590 _ ?side1 ?side2 ?side3 ?side4 A50.out).mono ?_
       (case side1 => exact pC (Kd.C_below HR0_0.out HB.out))
       (case side2 => exact HC0_0.out)
       (case side3 => exact pC (Kd.C_below HR0_1.out HB.out))
       (case side4 => exact HC0_1.out)
       rintro e w128 ⟨v588, v591, rfl, ho0, ho1, hb⟩
       refine ⟨_, rfl, ?_⟩
       have n0_ := Aside0.mk (Kd.R_below (pR HO_6.out) hb)
       have n1_ := Aside0.mk (Kd.R_elder' (pR HO_9.out) (Kd.R_base ho0) hb)
       have n2_ := Aside0.mk (Kd.R_below (pR HO_10.out) hb)
       have n3_ := Aside0.mk (Kd.R_elder' (pR HO_579000.out) (Kd.R_base ho0) hb)
       have n4_ := Aside0.mk (Kd.R_elder' (pR HO_579001.out) (Kd.R_base ho1) hb)
       have n5_ := Aside0.mk (Kd.R_lower (Kd.R_new' (Kd.R_new' ho0 (Kd.R_lt (pR HO_9.out))) (Kd.R_lt (pR HO_579000.out))) (below_size (pS HB.out)))
       have n6_ := Aside0.mk (Kd.R_lower (Kd.R_new' ho1 (Kd.R_lt (pR HO_579001.out))) (below_size (pS HB.out)))
       have n7_ := Aside0.mk (blk_below (pK BK556.out) hb)
       have n8_ := Aside0.mk (blk_below (pK BK578.out) hb)
       have n9_ := Aside0.mk (below_step (pS HB.out) hb)
       clear HO_6
       clear HO_9
       clear HO_10
       clear HO_579000
       clear HO_579001
       clear BK556
       clear BK578
       clear HB
       have HO_6 := n0_
       have HO_9 := n1_
       have HO_10 := n2_
       have HO_579000 := n3_
       have HO_579001 := n4_
       have HO589 := n5_
       have HO592 := n6_
       have BK556 := n7_
       have BK578 := n8_
       have HB := n9_
       clear n0_ n1_ n2_ n3_ n4_ n5_ n6_ n7_ n8_ n9_
       (try clear hb)
       (try clear hb2)
       (try clear hk)
       (try clear hi)
       (try clear ho0)
       (try clear ho1)
       obtain ⟨Ao129, co129, eo129⟩ := Kd.R_slice HO589.out
       (first | subst eo129 | (injection eo129 with f1_ f2_ f3_; have f4_ := f1_.symm; have f5_ := f3_.symm; clear f1_ f2_ f3_; subst f4_; subst f5_))
       obtain ⟨Ao130, co130, eo130⟩ := Kd.R_slice HO592.out
       (first | subst eo130 | (injection eo130 with f1_ f2_ f3_; have f4_ := f1_.symm; have f5_ := f3_.symm; clear f1_ f2_ f3_; subst f4_; subst f5_))
       refine hK.out _ _ ⟨(blk_cell BK578.out 0).trans rfl, (blk_cell BK578.out 1).trans rfl, (blk_cell BK556.out 0).trans rfl, (blk_cell BK556.out 1).trans rfl⟩ (fun hHeld => ?_)
       clear hK K
       refine norm_ (a' := ?_) ?_ ?_
       rotate_left
       ·show Act.put _ (some 56) _ = _
        simp only [Act.put, List.setIfInBounds_toArray, List.set_cons_zero, List.set_cons_succ, i64_w, i32_w]
        rfl
       refine one_ (i := 3) (N := some 57) #[true, true, true, true, false] rfl rfl (by kernel_rfl) (by decide) (fun K hK => ?_)
       refine goes_ Try.func16 (by kernel_rfl) rfl #[.agg #[.slice Ao33 t572.length co33, .slice Ao36 t575.length co36], .agg #[.slice Ao129 t587.length co129, .slice Ao130 t590.length co130]] (by rfl) rfl rfl bM ?_
       with_reducible refine (laws_eqSecDisk.calls kj18 _ _ t572 _ _ t575 _ _ t587 _ _ t590 false _ ?side1 ?side2 ?side3 ?side4 ?side5 ?side6 ?side7 ?side8 A51.out).mono ?_
       (case side1 => exact pC (Kd.R_reads' HO_579000.out).2.2)
       (case side2 => exact (Kd.R_reads' HO_579000.out).2.1)
       (case side3 => exact pC (Kd.R_reads' HO_579001.out).2.2)
       (case side4 => exact (Kd.R_reads' HO_579001.out).2.1)
       (case side5 => exact pC (Kd.R_reads' HO589.out).2.2)
       (case side6 => exact (Kd.R_reads' HO589.out).2.1)
       (case side7 => exact pC (Kd.R_reads' HO592.out).2.2)
       (case side8 => exact (Kd.R_reads' HO592.out).2.1)
       rintro e w131 ⟨rfl, hb⟩
       refine ⟨_, rfl, ?_⟩
       have n0_ := Aside0.mk (Kd.R_below (pR HO_6.out) hb)
       have n1_ := Aside0.mk (Kd.R_below (pR HO_9.out) hb)
       have n2_ := Aside0.mk (Kd.R_below (pR HO_10.out) hb)
       have n3_ := Aside0.mk (Kd.R_below (pR HO_579000.out) hb)
       have n4_ := Aside0.mk (Kd.R_below (pR HO_579001.out) hb)
       have n5_ := Aside0.mk (Kd.R_below (pR HO589.out) hb)
       have n6_ := Aside0.mk (Kd.R_below (pR HO592.out) hb)
       have n7_ := Aside0.mk (blk_below (pK BK556.out) hb)
       have n8_ := Aside0.mk (blk_below (pK BK578.out) hb)
       have n9_ := Aside0.mk (below_step (pS HB.out) hb)
       clear HO_6
       clear HO_9
       clear HO_10
       clear HO_579000
       clear HO_579001
       clear HO589
       clear HO592
       clear BK556
       clear BK578
       clear HB
       have HO_6 := n0_
       have HO_9 := n1_
       have HO_10 := n2_
       have HO_579000 := n3_
       have HO_579001 := n4_
       have HO589 := n5_
       have HO592 := n6_
       have BK556 := n7_
       have BK578 := n8_
       have HB := n9_
       clear n0_ n1_ n2_ n3_ n4_ n5_ n6_ n7_ n8_ n9_
       (try clear hb)
       (try clear hb2)
       (try clear hk)
       (try clear hi)
       refine hK.out _ _ ⟨(blk_cell BK578.out 0).trans rfl, (blk_cell BK578.out 1).trans rfl, (blk_cell BK556.out 0).trans rfl, (blk_cell BK556.out 1).trans rfl⟩ (fun hHeld => ?_)
       clear hK K
       refine norm_ (a' := ?_) ?_ ?_
       rotate_left
       ·show Act.put _ (some 57) _ = _
        simp only [Act.put, List.setIfInBounds_toArray, List.set_cons_zero, List.set_cons_succ, i64_w, i32_w]
        rfl
       refine pure_ (i := 4) (N := some 58) (v := ?_) (a' := ?_) #[true, true, true, true, true] rfl rfl (by kernel_rfl) (fun _ _ _ h => h) (Or.inl ⟨by rfl, ?_⟩) ?_ ?_
       rotate_left
       ·intro w'
        go_simp
        with_reducible rfl
       rotate_left
       ·simp only [Act.put, List.setIfInBounds_toArray, List.set_cons_zero, List.set_cons_succ, i64_w, i32_w]
        rfl
       refine done_ (by kernel_rfl) ?_
       try go_wp2
       go_ret
       exact ⟨by first | rfl | (simp [errW_none, errW_some] <;> rfl) | (simp [*, errW_none, errW_some] <;> rfl), pS HB.out⟩

/-- THE ONE PURE STATEMENT of laws_FnExactWalSteps. -/
def laws_FnExactWalSteps.Pure : Prop := ∀ (l0_0 : List ByteArray) (l0_1 : List (S105)) (l1 : List ByteArray), wf25 (⟨l0_0, l0_1⟩ : S25) → (l1.length ≤ maxLen ∧ ∀ z_ ∈ l1, z_.size ≤ maxLen) → ∃ k, laws_FnExactWalSteps.f k l0_0 l0_1 l1 = some true
theorem laws_FnExactWalSteps.walk (P : laws_FnExactWalSteps.Pure) (A0_0 : Option Addr) (c0_0 : Nat) (l0_0 : List ByteArray) (A0_1 : Option Addr) (c0_1 : Nat) (l0_1 : List (S105)) (A1 : Option Addr) (c1 : Nat) (l1 : List ByteArray) (w : World) (hw0 : wf25 (⟨l0_0, l0_1⟩ : S25)) (hw1 : (l1.length ≤ maxLen ∧ ∀ z_ ∈ l1, z_.size ≤ maxLen)) (hr0_0 : Kd.C Kd.string w A0_0 l0_0.length l0_0) (hc0_0 : l0_0.length ≤ c0_0) (hr0_1 : Kd.C k105 w A0_1 l0_1.length l0_1) (hc0_1 : l0_1.length ≤ c0_1) (hr1 : Kd.C Kd.string w A1 l1.length l1) (hc1 : l1.length ≤ c1) :
  Calls Try.prog 5 #[.agg #[.slice A0_0 l0_0.length c0_0, .slice A0_1 l0_1.length c0_1], .slice A1 l1.length c1] w fun e w' => e = .returned (.bool true) ∧ Below w.heap.size w w' := by
 obtain ⟨k, h⟩ := P l0_0 l0_1 l1 hw0 hw1
 refine (laws_FnExactWalSteps.calls k A0_0 c0_0 l0_0 A0_1 c0_1 l0_1 A1 c1 l1 true w hr0_0 hc0_0 hr0_1 hc0_1 hr1 hc1 h).mono ?_
 rintro e w' ⟨rfl, hd⟩
 exact ⟨rfl, hd⟩

end Go.Proofs.Ythjocaegapchaaa.P
