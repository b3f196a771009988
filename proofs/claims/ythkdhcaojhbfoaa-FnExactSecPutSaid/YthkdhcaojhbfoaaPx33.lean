-- printed by pprint.py (this session's program over the kit's printer) out of the translation. Lean checks it.
import Derived.Test.YthkdhcaojhbfoaaPx0
import Derived.Test.YthkdhcaojhbfoaaPx4
import Derived.Test.YthkdhcaojhbfoaaPx8
import Derived.Test.YthkdhcaojhbfoaaPx9
import Derived.Test.YthkdhcaojhbfoaaPx10
import Derived.Test.YthkdhcaojhbfoaaPx15
namespace Go.Proofs.Ythkdhcaojhbfoaa.P
open Go.RowKit Go.Proofs.YthkdhcaojhbfoaaX Go.Proofs.YthkdhcaojhbfoaaW.PrintWords Go.Proofs.YthkdhcaojhbfoaaW.PrintLast Go.Proofs.YthkdhcaojhbfoaaW.PrintMore
attribute [local go_sem] max2_int min2_int max_two min_two max_three min_three max_four min_four   -- for this text's walks alone
set_option linter.unusedVariables false
set_option linter.unusedSimpArgs false

/-! ### laws_FnExactSecPut: function 13 -/
mutual
def laws_FnExactSecPut.j0 : Nat → Int → ByteArray → Bool → Bool → Bool → List ByteArray → List (S79) → List ByteArray → List (S54) → List ByteArray → List (S54) → List ByteArray → List (S54) → Option (Bool)
 | 0, _, _, _, _, _, _, _, _, _, _, _, _, _ => none
 | k + 1, x1, x2, x9, x12, x51, x820000, x820001, x835000, x835001, x842000, x842001, x850000, x850001 => if x51 = true then (some false) else ((laws_toSecDisk.f k x820000 x820001).bind fun bt851 => ((laws_eqSecDisk.f k x842000 x842001 bt851.1 bt851.2).bind fun t857 => (if t857 = true then ((laws_markSecDisk.f k x842000 x842001 1).bind fun bt858 => (if bt858.1 < 0 then (laws_FnExactSecPut.j1 k x1 x2 x9 true x820000 x820001 x835000 x835001 x850000 x850001) else ((laws_eqSecDisk.f k x850000 x850001 x835000 x835001).bind fun t861 => (if t861 = true then (laws_FnExactSecPut.j1 k x1 x2 x9 (x12 != x9) x820000 x820001 x835000 x835001 x850000 x850001) else (laws_FnExactSecPut.j1 k x1 x2 x9 true x820000 x820001 x835000 x835001 x850000 x850001))))) else (some false))))
def laws_FnExactSecPut.j1 : Nat → Int → ByteArray → Bool → Bool → List ByteArray → List (S79) → List ByteArray → List (S54) → List ByteArray → List (S54) → Option (Bool)
 | 0, _, _, _, _, _, _, _, _, _, _ => none
 | k + 1, x1, x2, x9, x72, x820000, x820001, x835000, x835001, x850000, x850001 => if x72 = true then (some false) else ((laws_markSecDisk.f k x850000 x850001 1).bind fun bt862 => ((laws_heldSecDisk.f k bt862.2.1 bt862.2.2 1).bind fun t865 => (if t865 < 0 then (some false) else (if t865 = bt862.1 then ((laws_toSecDisk.f k x820000 x820001).bind fun bt866 => ((impl_SecPut.f k bt866.1 bt866.2 x1 x2).bind fun bt872 => ((laws_eqSecDisk.f k bt872.1 bt872.2.1 x835000 x835001).bind fun t880 => (if t880 = true then (laws_FnExactSecPut.j2 k bt862.1 (bt872.2.2 != x9) bt862.2.1 bt862.2.2) else (laws_FnExactSecPut.j2 k bt862.1 true bt862.2.1 bt862.2.2))))) else (some false)))))
def laws_FnExactSecPut.j2 : Nat → Int → Bool → List ByteArray → List (S54) → Option (Bool)
 | 0, _, _, _, _ => none
 | k + 1, x14, x100, x850000, x850001 => if x100 = true then (some false) else ((laws_heldSecDisk.f k x850000 x850001 1).bind fun t881 => (if t881 < 0 then (some false) else (if t881 = x14 then (some true) else (some false))))
end
def laws_FnExactSecPut.f (k : Nat) (l0_0 : List ByteArray) (l0_1 : List (S79)) (a1 : Int) (a2 : ByteArray) : Option (Bool) := if (a2.size : Int) > 1048576 then (some true) else ((laws_szSecDisk.f k l0_0 l0_1 1048576).bind fun t820 => (if t820 < 0 then (some true) else ((laws_toSecDisk.f k l0_0 l0_1).bind fun bt821 => ((spec_SecPut.f k bt821.1 bt821.2 a1 a2).bind fun bt827 => ((laws_toSecDisk.f k l0_0 l0_1).bind fun bt835 => ((impl_SecPut.f k bt835.1 bt835.2 a1 a2).bind fun bt842 => ((laws_eqSecDisk.f k bt842.1 bt842.2.1 bt827.1 bt827.2.1).bind fun t850 => (if t850 = true then (laws_FnExactSecPut.j0 k a1 a2 bt827.2.2 bt842.2.2 (bt842.2.2 != bt827.2.2) l0_0 l0_1 bt827.1 bt827.2.1 bt835.1 bt835.2 bt842.1 bt842.2.1) else (laws_FnExactSecPut.j0 k a1 a2 bt827.2.2 bt842.2.2 true l0_0 l0_1 bt827.1 bt827.2.1 bt835.1 bt835.2 bt842.1 bt842.2.1)))))))))
theorem laws_FnExactSecPut.mono_l : ∀ k, (∀ y0 y1 y2 y3 y4 y5 y6 y7 y8 y9 y10 y11 y12, LeO (laws_FnExactSecPut.j0 k y0 y1 y2 y3 y4 y5 y6 y7 y8 y9 y10 y11 y12) (laws_FnExactSecPut.j0 (k + 1) y0 y1 y2 y3 y4 y5 y6 y7 y8 y9 y10 y11 y12)) ∧ (∀ y0 y1 y2 y3 y4 y5 y6 y7 y8 y9, LeO (laws_FnExactSecPut.j1 k y0 y1 y2 y3 y4 y5 y6 y7 y8 y9) (laws_FnExactSecPut.j1 (k + 1) y0 y1 y2 y3 y4 y5 y6 y7 y8 y9)) ∧ (∀ y0 y1 y2 y3, LeO (laws_FnExactSecPut.j2 k y0 y1 y2 y3) (laws_FnExactSecPut.j2 (k + 1) y0 y1 y2 y3))
 | 0 => ⟨fun _ _ _ _ _ _ _ _ _ _ _ _ _ r h => by simp [laws_FnExactSecPut.j0] at h, fun _ _ _ _ _ _ _ _ _ _ r h => by simp [laws_FnExactSecPut.j1] at h, fun _ _ _ _ r h => by simp [laws_FnExactSecPut.j2] at h⟩
 | k + 1 => by
  obtain ⟨ih0, ih1, ih2⟩ := laws_FnExactSecPut.mono_l k
  refine ⟨?_, ?_, ?_⟩
  ·intro y0 y1 y2 y3 y4 y5 y6 y7 y8 y9 y10 y11 y12
   unfold laws_FnExactSecPut.j0
   repeat' first
   | (with_reducible exact ih0 _ _ _ _ _ _ _ _ _ _ _ _ _)
   | (with_reducible exact ih1 _ _ _ _ _ _ _ _ _ _)
   | (with_reducible exact ih2 _ _ _ _)
   | (with_reducible exact impl_SecPut.mono _ _ _ _ _)
   | (with_reducible exact laws_eqSecDisk.mono _ _ _ _ _)
   | (with_reducible exact laws_heldSecDisk.mono _ _ _ _)
   | (with_reducible exact laws_markSecDisk.mono _ _ _ _)
   | (with_reducible exact laws_szSecDisk.mono _ _ _ _)
   | (with_reducible exact laws_toSecDisk.mono _ _ _)
   | (with_reducible exact spec_SecPut.mono _ _ _ _ _)
   | (with_reducible exact LeO.refl _)
   | (with_reducible exact LeO.none _)
   | (with_reducible refine LeO.ite ?_ ?_)
   | (with_reducible refine LeO.bind ?_ (fun _ => ?_))
   | exact ih0 _ _ _ _ _ _ _ _ _ _ _ _ _
   | exact ih1 _ _ _ _ _ _ _ _ _ _
   | exact ih2 _ _ _ _
   | exact impl_SecPut.mono _ _ _ _ _
   | exact laws_eqSecDisk.mono _ _ _ _ _
   | exact laws_heldSecDisk.mono _ _ _ _
   | exact laws_markSecDisk.mono _ _ _ _
   | exact laws_szSecDisk.mono _ _ _ _
   | exact laws_toSecDisk.mono _ _ _
   | exact spec_SecPut.mono _ _ _ _ _
   | exact LeO.none _
   | refine LeO.ite ?_ ?_
   | refine LeO.bind ?_ (fun _ => ?_)
  ·intro y0 y1 y2 y3 y4 y5 y6 y7 y8 y9
   unfold laws_FnExactSecPut.j1
   repeat' first
   | (with_reducible exact ih0 _ _ _ _ _ _ _ _ _ _ _ _ _)
   | (with_reducible exact ih1 _ _ _ _ _ _ _ _ _ _)
   | (with_reducible exact ih2 _ _ _ _)
   | (with_reducible exact impl_SecPut.mono _ _ _ _ _)
   | (with_reducible exact laws_eqSecDisk.mono _ _ _ _ _)
   | (with_reducible exact laws_heldSecDisk.mono _ _ _ _)
   | (with_reducible exact laws_markSecDisk.mono _ _ _ _)
   | (with_reducible exact laws_szSecDisk.mono _ _ _ _)
   | (with_reducible exact laws_toSecDisk.mono _ _ _)
   | (with_reducible exact spec_SecPut.mono _ _ _ _ _)
   | (with_reducible exact LeO.refl _)
   | (with_reducible exact LeO.none _)
   | (with_reducible refine LeO.ite ?_ ?_)
   | (with_reducible refine LeO.bind ?_ (fun _ => ?_))
   | exact ih0 _ _ _ _ _ _ _ _ _ _ _ _ _
   | exact ih1 _ _ _ _ _ _ _ _ _ _
   | exact ih2 _ _ _ _
   | exact impl_SecPut.mono _ _ _ _ _
   | exact laws_eqSecDisk.mono _ _ _ _ _
   | exact laws_heldSecDisk.mono _ _ _ _
   | exact laws_markSecDisk.mono _ _ _ _
   | exact laws_szSecDisk.mono _ _ _ _
   | exact laws_toSecDisk.mono _ _ _
   | exact spec_SecPut.mono _ _ _ _ _
   | exact LeO.none _
   | refine LeO.ite ?_ ?_
   | refine LeO.bind ?_ (fun _ => ?_)
  ·intro y0 y1 y2 y3
   unfold laws_FnExactSecPut.j2
   repeat' first
   | (with_reducible exact ih0 _ _ _ _ _ _ _ _ _ _ _ _ _)
   | (with_reducible exact ih1 _ _ _ _ _ _ _ _ _ _)
   | (with_reducible exact ih2 _ _ _ _)
   | (with_reducible exact impl_SecPut.mono _ _ _ _ _)
   | (with_reducible exact laws_eqSecDisk.mono _ _ _ _ _)
   | (with_reducible exact laws_heldSecDisk.mono _ _ _ _)
   | (with_reducible exact laws_markSecDisk.mono _ _ _ _)
   | (with_reducible exact laws_szSecDisk.mono _ _ _ _)
   | (with_reducible exact laws_toSecDisk.mono _ _ _)
   | (with_reducible exact spec_SecPut.mono _ _ _ _ _)
   | (with_reducible exact LeO.refl _)
   | (with_reducible exact LeO.none _)
   | (with_reducible refine LeO.ite ?_ ?_)
   | (with_reducible refine LeO.bind ?_ (fun _ => ?_))
   | exact ih0 _ _ _ _ _ _ _ _ _ _ _ _ _
   | exact ih1 _ _ _ _ _ _ _ _ _ _
   | exact ih2 _ _ _ _
   | exact impl_SecPut.mono _ _ _ _ _
   | exact laws_eqSecDisk.mono _ _ _ _ _
   | exact laws_heldSecDisk.mono _ _ _ _
   | exact laws_markSecDisk.mono _ _ _ _
   | exact laws_szSecDisk.mono _ _ _ _
   | exact laws_toSecDisk.mono _ _ _
   | exact spec_SecPut.mono _ _ _ _ _
   | exact LeO.none _
   | refine LeO.ite ?_ ?_
   | refine LeO.bind ?_ (fun _ => ?_)
theorem laws_FnExactSecPut.mono : ∀ a0 a1 a2 a3 k, LeO (laws_FnExactSecPut.f k a0 a1 a2 a3) (laws_FnExactSecPut.f (k + 1) a0 a1 a2 a3) := by
 intro a0 a1 a2 a3 k
 obtain ⟨ih0, ih1, ih2⟩ := laws_FnExactSecPut.mono_l k
 unfold laws_FnExactSecPut.f
 repeat' first
   | (with_reducible exact ih0 _ _ _ _ _ _ _ _ _ _ _ _ _)
   | (with_reducible exact ih1 _ _ _ _ _ _ _ _ _ _)
   | (with_reducible exact ih2 _ _ _ _)
   | (with_reducible exact impl_SecPut.mono _ _ _ _ _)
   | (with_reducible exact laws_eqSecDisk.mono _ _ _ _ _)
   | (with_reducible exact laws_heldSecDisk.mono _ _ _ _)
   | (with_reducible exact laws_markSecDisk.mono _ _ _ _)
   | (with_reducible exact laws_szSecDisk.mono _ _ _ _)
   | (with_reducible exact laws_toSecDisk.mono _ _ _)
   | (with_reducible exact spec_SecPut.mono _ _ _ _ _)
   | (with_reducible exact LeO.refl _)
   | (with_reducible exact LeO.none _)
   | (with_reducible refine LeO.ite ?_ ?_)
   | (with_reducible refine LeO.bind ?_ (fun _ => ?_))
   | exact ih0 _ _ _ _ _ _ _ _ _ _ _ _ _
   | exact ih1 _ _ _ _ _ _ _ _ _ _
   | exact ih2 _ _ _ _
   | exact impl_SecPut.mono _ _ _ _ _
   | exact laws_eqSecDisk.mono _ _ _ _ _
   | exact laws_heldSecDisk.mono _ _ _ _
   | exact laws_markSecDisk.mono _ _ _ _
   | exact laws_szSecDisk.mono _ _ _ _
   | exact laws_toSecDisk.mono _ _ _
   | exact spec_SecPut.mono _ _ _ _ _
   | exact LeO.none _
   | refine LeO.ite ?_ ?_
   | refine LeO.bind ?_ (fun _ => ?_)
set_option maxHeartbeats 8000000 in
set_option maxRecDepth 100000 in
theorem laws_FnExactSecPut.calls (k : Nat) (A0_0 : Option Addr) (c0_0 : Nat) (l0_0 : List ByteArray) (A0_1 : Option Addr) (c0_1 : Nat) (l0_1 : List (S79)) (a1 : Int) (a2 : ByteArray) (r : Bool) (w : World) (hr0_0 : Kd.C Kd.string w A0_0 l0_0.length l0_0) (hc0_0 : l0_0.length ≤ c0_0) (hr0_1 : Kd.C k79 w A0_1 l0_1.length l0_1) (hc0_1 : l0_1.length ≤ c0_1) (h : laws_FnExactSecPut.f k l0_0 l0_1 a1 a2 = some r) :
  Calls Try.prog 13 #[.agg #[.slice A0_0 l0_0.length c0_0, .slice A0_1 l0_1.length c0_1], .int .i64 a1, .string a2] w fun e w' => e = .returned (.bool r) ∧ Below w.heap.size w w' := by
 have hu34 := Try.underlying34
 have hu26 := Try.underlying26
 have HR0_0 := Aside0.mk hr0_0
 have HC0_0 := Aside0.mk hc0_0
 clear hr0_0 hc0_0
 have HR0_1 := Aside0.mk hr0_1
 have HC0_1 := Aside0.mk hc0_1
 clear hr0_1 hc0_1
 have HB := Aside0.mk (Below.refl w.heap.size w)
 have H : (if (a2.size : Int) > 1048576 then (some true) else ((laws_szSecDisk.f k l0_0 l0_1 1048576).bind fun t820 => (if t820 < 0 then (some true) else ((laws_toSecDisk.f k l0_0 l0_1).bind fun bt821 => ((spec_SecPut.f k bt821.1 bt821.2 a1 a2).bind fun bt827 => ((laws_toSecDisk.f k l0_0 l0_1).bind fun bt835 => ((impl_SecPut.f k bt835.1 bt835.2 a1 a2).bind fun bt842 => ((laws_eqSecDisk.f k bt842.1 bt842.2.1 bt827.1 bt827.2.1).bind fun t850 => (if t850 = true then (laws_FnExactSecPut.j0 k a1 a2 bt827.2.2 bt842.2.2 (bt842.2.2 != bt827.2.2) l0_0 l0_1 bt827.1 bt827.2.1 bt835.1 bt835.2 bt842.1 bt842.2.1) else (laws_FnExactSecPut.j0 k a1 a2 bt827.2.2 bt842.2.2 true l0_0 l0_1 bt827.1 bt827.2.1 bt835.1 bt835.2 bt842.1 bt842.2.1)))))))))) = some r := h
 clear h
 by_cases c4 : (a2.size : Int) > 1048576
 ·rw [if_pos c4] at H
  have c4b0 : decide (1048576 < (a2.size : Int)) = true := decide_eq_true c4
  have c4b1 : decide (1048576 < a2.size) = true := decide_eq_true (by omega)
  clear c4
  obtain rfl := Option.some.inj H
  go_enter Try.func13, Try.ntmps13
  go_wp2_with (first | ((with_reducible refine gate_dst (N := 3) rfl ?_); refine box_event ?hg (N := 3) ?hd (cs := #[.slice A0_0 l0_0.length c0_0, .slice A0_1 l0_1.length c0_1]) (t := 34) ?hr ?_; (case hd => rfl); (case hg => rfl); (case hr => first | (go_simp; done) | (go_simp; rfl)); intro gb819 hg w5 hbox hb; have n0_ := Aside0.mk (below_step (pB HB.out) hb); have n1_ := Aside0.mk (hbox); have n2_ := Aside0.mk ((by rw [hg]; exact (below_size (pB HB.out)) : w.heap.size ≤ gb819)); have n3_ := Aside0.mk ((by rw [hg]; exact (below_size (pB HB.out)) : w.heap.size ≤ gb819)); clear HB; have HB := n0_; have BK819 := n1_; have GW819 := n2_; have GE819 := n3_; clear n0_ n1_ n2_ n3_; clear hb hbox hg))
  go_ret
  exact ⟨by first | rfl | (simp [errW_none, errW_some] <;> rfl) | (simp [*, errW_none, errW_some] <;> rfl), by repeat (first | (with_reducible first | exact HB.out | apply below_alloc | apply pw_below_drewN | apply below_drew1 | refine below_set ?_ GE819.out) | exact HB.out)⟩
 ·rw [if_neg c4] at H
  have c4b0 : decide (1048576 < (a2.size : Int)) = false := decide_eq_false c4
  have c4b1 : decide (1048576 < a2.size) = false := decide_eq_false (by omega)
  clear c4
  replace H := Option.bind_eq_some_iff.mp H
  obtain ⟨t820, A60, H⟩ := H
  replace H : (if t820 < 0 then (some true) else ((laws_toSecDisk.f k l0_0 l0_1).bind fun bt821 => ((spec_SecPut.f k bt821.1 bt821.2 a1 a2).bind fun bt827 => ((laws_toSecDisk.f k l0_0 l0_1).bind fun bt835 => ((impl_SecPut.f k bt835.1 bt835.2 a1 a2).bind fun bt842 => ((laws_eqSecDisk.f k bt842.1 bt842.2.1 bt827.1 bt827.2.1).bind fun t850 => (if t850 = true then (laws_FnExactSecPut.j0 k a1 a2 bt827.2.2 bt842.2.2 (bt842.2.2 != bt827.2.2) l0_0 l0_1 bt827.1 bt827.2.1 bt835.1 bt835.2 bt842.1 bt842.2.1) else (laws_FnExactSecPut.j0 k a1 a2 bt827.2.2 bt842.2.2 true l0_0 l0_1 bt827.1 bt827.2.1 bt835.1 bt835.2 bt842.1 bt842.2.1)))))))) = some r := H
  have A6 := Aside0.mk A60
  clear A60
  by_cases c7 : t820 < 0
  ·rw [if_pos c7] at H
   have c7b0 : decide (t820 < 0) = true := decide_eq_true c7
   clear c7
   obtain rfl := Option.some.inj H
   go_enter Try.func13, Try.ntmps13
   go_wp2_with (first | ((with_reducible refine gate_dst (N := 3) rfl ?_); refine box_event ?hg (N := 3) ?hd (cs := #[.slice A0_0 l0_0.length c0_0, .slice A0_1 l0_1.length c0_1]) (t := 34) ?hr ?_; (case hd => rfl); (case hg => rfl); (case hr => first | (go_simp; done) | (go_simp; rfl)); intro gb819 hg w8 hbox hb; have n0_ := Aside0.mk (below_step (pB HB.out) hb); have n1_ := Aside0.mk (hbox); have n2_ := Aside0.mk ((by rw [hg]; exact (below_size (pB HB.out)) : w.heap.size ≤ gb819)); have n3_ := Aside0.mk ((by rw [hg]; exact (below_size (pB HB.out)) : w.heap.size ≤ gb819)); clear HB; have HB := n0_; have BK819 := n1_; have GW819 := n2_; have GE819 := n3_; clear n0_ n1_ n2_ n3_; clear hb hbox hg; have hcz9_0 : w8.cell? ⟨gb819, 0, none⟩ = some (.slice A0_0 l0_0.length c0_0) := (blk_cell BK819.out 0).trans rfl; have hcz9_1 : w8.cell? ⟨gb819, 1, none⟩ = some (.slice A0_1 l0_1.length c0_1) := (blk_cell BK819.out 1).trans rfl; have hfz9_0 := blk_frozen BK819.out 0; have hfz9_1 := blk_frozen BK819.out 1) | ((with_reducible refine gate_callee (f := 22) rfl ?_); refine goesL_ (some 23) rfl rfl Try.func22 (by kernel_rfl) rfl #[.agg #[.slice A0_0 l0_0.length c0_0, .slice A0_1 l0_1.length c0_1], .int .i64 1048576] rfl bM ?_; (with_reducible refine (laws_szSecDisk.calls k _ _ l0_0 _ _ l0_1 1048576 t820 _ ?side1 ?side2 ?side3 ?side4 A6.out).mono ?_); (case side1 => repeat (first | exact (Kd.C_below HR0_0.out HB.out) | (with_reducible refine Kd.C_alloc ?_ _) | (with_reducible refine Kd.C_drewN ?_ _) | (with_reducible refine Kd.C_drew ?_))); (case side2 => exact HC0_0.out); (case side3 => repeat (first | exact (Kd.C_below HR0_1.out HB.out) | (with_reducible refine Kd.C_alloc ?_ _) | (with_reducible refine Kd.C_drewN ?_ _) | (with_reducible refine Kd.C_drew ?_))); (case side4 => exact HC0_1.out); rintro e w10 ⟨rfl, hb⟩; refine ⟨_, rfl, ?_⟩; have n0_ := Aside0.mk (blk_below (g := gb819) (o := .cells #[.slice A0_0 l0_0.length c0_0, .slice A0_1 l0_1.length c0_1] 34 (0, 0)) (pK BK819.out) hb); have n1_ := Aside0.mk (below_step (by repeat (first | (with_reducible first | exact HB.out | apply below_alloc | apply pw_below_drewN | apply below_drew1 | refine below_set ?_ GE819.out) | exact HB.out)) hb); clear BK819; clear HB; have BK819 := n0_; have HB := n1_; clear n0_ n1_; (try clear hb); (try clear hb2); (try clear hk); (try clear hi)))
   go_ret
   exact ⟨by first | rfl | (simp [errW_none, errW_some] <;> rfl) | (simp [*, errW_none, errW_some] <;> rfl), by repeat (first | (with_reducible first | exact HB.out | apply below_alloc | apply pw_below_drewN | apply below_drew1 | refine below_set ?_ GE819.out) | exact HB.out)⟩
  ·rw [if_neg c7] at H
   have c7b0 : decide (t820 < 0) = false := decide_eq_false c7
   clear c7
   replace H := Option.bind_eq_some_iff.mp H
   obtain ⟨⟨t821, t824⟩, A110, H⟩ := H
   replace H : ((spec_SecPut.f k t821 t824 a1 a2).bind fun bt827 => ((laws_toSecDisk.f k l0_0 l0_1).bind fun bt835 => ((impl_SecPut.f k bt835.1 bt835.2 a1 a2).bind fun bt842 => ((laws_eqSecDisk.f k bt842.1 bt842.2.1 bt827.1 bt827.2.1).bind fun t850 => (if t850 = true then (laws_FnExactSecPut.j0 k a1 a2 bt827.2.2 bt842.2.2 (bt842.2.2 != bt827.2.2) l0_0 l0_1 bt827.1 bt827.2.1 bt835.1 bt835.2 bt842.1 bt842.2.1) else (laws_FnExactSecPut.j0 k a1 a2 bt827.2.2 bt842.2.2 true l0_0 l0_1 bt827.1 bt827.2.1 bt835.1 bt835.2 bt842.1 bt842.2.1)))))) = some r := H
   have A11 := Aside0.mk A110
   clear A110
   replace H := Option.bind_eq_some_iff.mp H
   obtain ⟨⟨t827, t830, t833⟩, A120, H⟩ := H
   replace H : ((laws_toSecDisk.f k l0_0 l0_1).bind fun bt835 => ((impl_SecPut.f k bt835.1 bt835.2 a1 a2).bind fun bt842 => ((laws_eqSecDisk.f k bt842.1 bt842.2.1 t827 t830).bind fun t850 => (if t850 = true then (laws_FnExactSecPut.j0 k a1 a2 t833 bt842.2.2 (bt842.2.2 != t833) l0_0 l0_1 t827 t830 bt835.1 bt835.2 bt842.1 bt842.2.1) else (laws_FnExactSecPut.j0 k a1 a2 t833 bt842.2.2 true l0_0 l0_1 t827 t830 bt835.1 bt835.2 bt842.1 bt842.2.1))))) = some r := H
   have A12 := Aside0.mk A120
   clear A120
   replace H := Option.bind_eq_some_iff.mp H
   obtain ⟨⟨t835, t838⟩, A130, H⟩ := H
   replace H : ((impl_SecPut.f k t835 t838 a1 a2).bind fun bt842 => ((laws_eqSecDisk.f k bt842.1 bt842.2.1 t827 t830).bind fun t850 => (if t850 = true then (laws_FnExactSecPut.j0 k a1 a2 t833 bt842.2.2 (bt842.2.2 != t833) l0_0 l0_1 t827 t830 t835 t838 bt842.1 bt842.2.1) else (laws_FnExactSecPut.j0 k a1 a2 t833 bt842.2.2 true l0_0 l0_1 t827 t830 t835 t838 bt842.1 bt842.2.1)))) = some r := H
   have A13 := Aside0.mk A130
   clear A130
   replace H := Option.bind_eq_some_iff.mp H
   obtain ⟨⟨t842, t845, t848⟩, A140, H⟩ := H
   replace H : ((laws_eqSecDisk.f k t842 t845 t827 t830).bind fun t850 => (if t850 = true then (laws_FnExactSecPut.j0 k a1 a2 t833 t848 (t848 != t833) l0_0 l0_1 t827 t830 t835 t838 t842 t845) else (laws_FnExactSecPut.j0 k a1 a2 t833 t848 true l0_0 l0_1 t827 t830 t835 t838 t842 t845))) = some r := H
   have A14 := Aside0.mk A140
   clear A140
   have HC15 := Aside0.mk H
   clear H
   go_enter Try.func13, Try.ntmps13
   go_upto_region 10 with (first | ((with_reducible refine gate_dst (N := 3) rfl ?_); refine box_event ?hg (N := 3) ?hd (cs := #[.slice A0_0 l0_0.length c0_0, .slice A0_1 l0_1.length c0_1]) (t := 34) ?hr ?_; (case hd => rfl); (case hg => rfl); (case hr => first | (go_simp; done) | (go_simp; rfl)); intro gb819 hg w16 hbox hb; have n0_ := Aside0.mk (below_step (pB HB.out) hb); have n1_ := Aside0.mk (hbox); have n2_ := Aside0.mk ((by rw [hg]; exact (below_size (pB HB.out)) : w.heap.size ≤ gb819)); have n3_ := Aside0.mk ((by rw [hg]; exact (below_size (pB HB.out)) : w.heap.size ≤ gb819)); clear HB; have HB := n0_; have BK819 := n1_; have GW819 := n2_; have GE819 := n3_; clear n0_ n1_ n2_ n3_; clear hb hbox hg; have hcz17_0 : w16.cell? ⟨gb819, 0, none⟩ = some (.slice A0_0 l0_0.length c0_0) := (blk_cell BK819.out 0).trans rfl; have hcz17_1 : w16.cell? ⟨gb819, 1, none⟩ = some (.slice A0_1 l0_1.length c0_1) := (blk_cell BK819.out 1).trans rfl; have hfz17_0 := blk_frozen BK819.out 0; have hfz17_1 := blk_frozen BK819.out 1) | ((with_reducible refine gate_callee (f := 22) rfl ?_); refine goesL_ (some 23) rfl rfl Try.func22 (by kernel_rfl) rfl #[.agg #[.slice A0_0 l0_0.length c0_0, .slice A0_1 l0_1.length c0_1], .int .i64 1048576] rfl bM ?_; (with_reducible refine (laws_szSecDisk.calls k _ _ l0_0 _ _ l0_1 1048576 t820 _ ?side1 ?side2 ?side3 ?side4 A6.out).mono ?_); (case side1 => repeat (first | exact (Kd.C_below HR0_0.out HB.out) | (with_reducible refine Kd.C_alloc ?_ _) | (with_reducible refine Kd.C_drewN ?_ _) | (with_reducible refine Kd.C_drew ?_))); (case side2 => exact HC0_0.out); (case side3 => repeat (first | exact (Kd.C_below HR0_1.out HB.out) | (with_reducible refine Kd.C_alloc ?_ _) | (with_reducible refine Kd.C_drewN ?_ _) | (with_reducible refine Kd.C_drew ?_))); (case side4 => exact HC0_1.out); rintro e w18 ⟨rfl, hb⟩; refine ⟨_, rfl, ?_⟩; have n0_ := Aside0.mk (blk_below (g := gb819) (o := .cells #[.slice A0_0 l0_0.length c0_0, .slice A0_1 l0_1.length c0_1] 34 (0, 0)) (pK BK819.out) hb); have n1_ := Aside0.mk (below_step (by repeat (first | (with_reducible first | exact HB.out | apply below_alloc | apply pw_below_drewN | apply below_drew1 | refine below_set ?_ GE819.out) | exact HB.out)) hb); clear BK819; clear HB; have BK819 := n0_; have HB := n1_; clear n0_ n1_; (try clear hb); (try clear hb2); (try clear hk); (try clear hi); have hcz19_0 : w18.cell? ⟨gb819, 0, none⟩ = some (.slice A0_0 l0_0.length c0_0) := (blk_cell BK819.out 0).trans rfl; have hcz19_1 : w18.cell? ⟨gb819, 1, none⟩ = some (.slice A0_1 l0_1.length c0_1) := (blk_cell BK819.out 1).trans rfl; have hfz19_0 := blk_frozen BK819.out 0; have hfz19_1 := blk_frozen BK819.out 1) | ((with_reducible refine gate_callee (f := 24) rfl ?_); refine goesL_ (some 28) rfl rfl Try.func24 (by kernel_rfl) rfl #[.agg #[.slice A0_0 l0_0.length c0_0, .slice A0_1 l0_1.length c0_1]] rfl bM ?_; (with_reducible refine (laws_toSecDisk.calls k _ _ l0_0 _ _ l0_1 t821 t824 _ ?side1 ?side2 ?side3 ?side4 A11.out).mono ?_); (case side1 => repeat (first | exact (Kd.C_below HR0_0.out HB.out) | (with_reducible refine Kd.C_alloc ?_ _) | (with_reducible refine Kd.C_drewN ?_ _) | (with_reducible refine Kd.C_drew ?_))); (case side2 => exact HC0_0.out); (case side3 => repeat (first | exact (Kd.C_below HR0_1.out HB.out) | (with_reducible refine Kd.C_alloc ?_ _) | (with_reducible refine Kd.C_drewN ?_ _) | (with_reducible refine Kd.C_drew ?_))); (case side4 => exact HC0_1.out); rintro e w20 ⟨v822, v825, rfl, ho0, ho1, hb⟩; refine ⟨_, rfl, ?_⟩; have n0_ := Aside0.mk (Kd.R_lower ho0 (below_size (by repeat (first | (with_reducible first | exact HB.out | apply below_alloc | apply pw_below_drewN | apply below_drew1 | refine below_set ?_ GE819.out) | exact HB.out)))); have n1_ := Aside0.mk (Kd.R_lower ho1 (below_size (by repeat (first | (with_reducible first | exact HB.out | apply below_alloc | apply pw_below_drewN | apply below_drew1 | refine below_set ?_ GE819.out) | exact HB.out)))); have n2_ := Aside0.mk (blk_below (g := gb819) (o := .cells #[.slice A0_0 l0_0.length c0_0, .slice A0_1 l0_1.length c0_1] 34 (0, 0)) (pK BK819.out) hb); have n3_ := Aside0.mk (below_step (by repeat (first | (with_reducible first | exact HB.out | apply below_alloc | apply pw_below_drewN | apply below_drew1 | refine below_set ?_ GE819.out) | exact HB.out)) hb); clear BK819; clear HB; have HO823 := n0_; have HO826 := n1_; have BK819 := n2_; have HB := n3_; clear n0_ n1_ n2_ n3_; (try clear hb); (try clear hb2); (try clear hk); (try clear hi); (try clear ho0); (try clear ho1); obtain ⟨Ao21, co21, eo21⟩ := Kd.R_slice HO823.out; subst eo21; obtain ⟨Ao22, co22, eo22⟩ := Kd.R_slice HO826.out; subst eo22) | ((with_reducible refine gate_callee (f := 29) rfl ?_); refine goesL_ (some 31) rfl rfl Try.func29 (by kernel_rfl) rfl #[.agg #[.slice Ao21 t821.length co21, .slice Ao22 t824.length co22], .int .i64 a1, .string a2] rfl bM ?_; (with_reducible refine (spec_SecPut.calls k _ _ t821 _ _ t824 a1 a2 t827 t830 t833 _ ?side1 ?side2 ?side3 ?side4 A12.out).mono ?_); (case side1 => exact pC (Kd.R_reads' HO823.out).2.2); (case side2 => exact (Kd.R_reads' HO823.out).2.1); (case side3 => exact pC (Kd.R_reads' HO826.out).2.2); (case side4 => exact (Kd.R_reads' HO826.out).2.1); rintro e w23 ⟨v828, v831, rfl, ho0, ho1, hb⟩; refine ⟨_, rfl, ?_⟩; have n0_ := Aside0.mk (Kd.R_elder' (pR HO823.out) (Kd.R_base ho0) hb); have n1_ := Aside0.mk (Kd.R_elder' (pR HO826.out) (Kd.R_base ho1) hb); have n2_ := Aside0.mk (Kd.R_lower (Kd.R_new' ho0 (Kd.R_lt (pR HO823.out))) (below_size (by repeat (first | (with_reducible first | exact HB.out | apply below_alloc | apply pw_below_drewN | apply below_drew1 | refine below_set ?_ GE819.out) | exact HB.out)))); have n3_ := Aside0.mk (Kd.R_lower (Kd.R_new' ho1 (Kd.R_lt (pR HO826.out))) (below_size (by repeat (first | (with_reducible first | exact HB.out | apply below_alloc | apply pw_below_drewN | apply below_drew1 | refine below_set ?_ GE819.out) | exact HB.out)))); have n4_ := Aside0.mk (blk_below (g := gb819) (o := .cells #[.slice A0_0 l0_0.length c0_0, .slice A0_1 l0_1.length c0_1] 34 (0, 0)) (pK BK819.out) hb); have n5_ := Aside0.mk (below_step (by repeat (first | (with_reducible first | exact HB.out | apply below_alloc | apply pw_below_drewN | apply below_drew1 | refine below_set ?_ GE819.out) | exact HB.out)) hb); clear HO823; clear HO826; clear BK819; clear HB; have HO823 := n0_; have HO826 := n1_; have HO829 := n2_; have HO832 := n3_; have BK819 := n4_; have HB := n5_; clear n0_ n1_ n2_ n3_ n4_ n5_; (try clear hb); (try clear hb2); (try clear hk); (try clear hi); (try clear ho0); (try clear ho1)) | ((with_reducible refine gate_dst (N := 8) rfl ?_); refine box_event ?hg (N := 8) ?hd (cs := #[.slice none 0 0, .slice none 0 0]) (t := 26) ?hr ?_; (case hd => rfl); (case hg => rfl); (case hr => first | (go_simp; done) | (go_simp; rfl)); intro gb834 hg w24 hbox hb; have n0_ := Aside0.mk (Kd.R_below (pR HO823.out) hb); have n1_ := Aside0.mk (Kd.R_below (pR HO826.out) hb); have n2_ := Aside0.mk (Kd.R_below (pR HO829.out) hb); have n3_ := Aside0.mk (Kd.R_below (pR HO832.out) hb); have n4_ := Aside0.mk (blk_below (g := gb819) (o := .cells #[.slice A0_0 l0_0.length c0_0, .slice A0_1 l0_1.length c0_1] 34 (0, 0)) (pK BK819.out) hb); have n5_ := Aside0.mk (below_step (by repeat (first | (with_reducible first | exact HB.out | apply below_alloc | apply pw_below_drewN | apply below_drew1 | refine below_set ?_ GE819.out) | exact HB.out)) hb); have n6_ := Aside0.mk (hbox); have n7_ := Aside0.mk ((by rw [hg]; exact (below_size (by repeat (first | (with_reducible first | exact HB.out | apply below_alloc | apply pw_below_drewN | apply below_drew1 | refine below_set ?_ GE819.out) | exact HB.out))) : w.heap.size ≤ gb834)); have n8_ := Aside0.mk ((by rw [hg]; exact (below_size (by repeat (first | (with_reducible first | exact HB.out | apply below_alloc | apply pw_below_drewN | apply below_drew1 | refine below_set ?_ GE819.out) | exact HB.out))) : w.heap.size ≤ gb834)); have n9_ := Aside0.mk ((by rw [hg]; exact Nat.ne_of_lt (blk_lt (g := gb819) (o := .cells #[.slice A0_0 l0_0.length c0_0, .slice A0_1 l0_1.length c0_1] 34 (0, 0)) (pK BK819.out)) : gb819 ≠ gb834)); have n10_ := Aside0.mk ((by rw [hg]; exact Nat.ne_of_gt (blk_lt (g := gb819) (o := .cells #[.slice A0_0 l0_0.length c0_0, .slice A0_1 l0_1.length c0_1] 34 (0, 0)) (pK BK819.out)) : gb834 ≠ gb819)); clear HO823; clear HO826; clear HO829; clear HO832; clear BK819; clear HB; have HO823 := n0_; have HO826 := n1_; have HO829 := n2_; have HO832 := n3_; have BK819 := n4_; have HB := n5_; have BK834 := n6_; have GW834 := n7_; have GE834 := n8_; have NB819_834 := n9_; have NB834_819 := n10_; clear n0_ n1_ n2_ n3_ n4_ n5_ n6_ n7_ n8_ n9_ n10_; clear hb hbox hg; obtain ⟨Ao25, co25, eo25⟩ := Kd.R_slice HO829.out; subst eo25; have hnb26 := NB834_819.out; have hnc26 := NB819_834.out; have hcz27_0 : w24.cell? ⟨gb834, 0, none⟩ = some (.slice none 0 0) := (blk_cell BK834.out 0).trans rfl; have hcz27_1 : w24.cell? ⟨gb834, 1, none⟩ = some (.slice none 0 0) := (blk_cell BK834.out 1).trans rfl; have hfz27_0 := blk_frozen BK834.out 0; have hfz27_1 := blk_frozen BK834.out 1; obtain ⟨Ao28, co28, eo28⟩ := Kd.R_slice HO832.out; subst eo28; have hcz29_0 : w24.cell? ⟨gb819, 0, none⟩ = some (.slice A0_0 l0_0.length c0_0) := (blk_cell BK819.out 0).trans rfl; have hcz29_1 : w24.cell? ⟨gb819, 1, none⟩ = some (.slice A0_1 l0_1.length c0_1) := (blk_cell BK819.out 1).trans rfl; have hfz29_0 := blk_frozen BK819.out 0; have hfz29_1 := blk_frozen BK819.out 1) | ((with_reducible refine gate_callee (f := 24) rfl ?_); refine goesL_ (some 35) rfl rfl Try.func24 (by kernel_rfl) rfl #[.agg #[.slice A0_0 l0_0.length c0_0, .slice A0_1 l0_1.length c0_1]] rfl bM ?_; (with_reducible refine (laws_toSecDisk.calls k _ _ l0_0 _ _ l0_1 t835 t838 _ ?side1 ?side2 ?side3 ?side4 A13.out).mono ?_); (case side1 => exact Kd.C_below HR0_0.out (by repeat (first | (with_reducible first | exact HB.out | apply below_alloc | apply pw_below_drewN | apply below_drew1 | refine below_set ?_ GE819.out | refine below_set ?_ GE834.out) | exact HB.out))); (case side2 => exact HC0_0.out); (case side3 => exact Kd.C_below HR0_1.out (by repeat (first | (with_reducible first | exact HB.out | apply below_alloc | apply pw_below_drewN | apply below_drew1 | refine below_set ?_ GE819.out | refine below_set ?_ GE834.out) | exact HB.out))); (case side4 => exact HC0_1.out); rintro e w30 ⟨v836, v839, rfl, ho0, ho1, hb⟩; refine ⟨_, rfl, ?_⟩; have n0_ := Aside0.mk (Kd.R_elder' (pR (Kd.R_mono (Kd.R_far (p := ⟨gb834, 1, none⟩) (Kd.R_far (p := ⟨gb834, 0, none⟩) (Kd.R_types HO823.out BK834.out (by decide)) (fun _ hk => hk.2) (.slice Ao25 t827.length co25)) (fun _ hk => hk.2) (.slice Ao28 t830.length co28)) (fun _ h_ => h_.1))) (Kd.R_base ho0) hb); have n1_ := Aside0.mk (Kd.R_elder' (pR (Kd.R_mono (Kd.R_far (p := ⟨gb834, 1, none⟩) (Kd.R_far (p := ⟨gb834, 0, none⟩) (Kd.R_types HO826.out BK834.out (by decide)) (fun _ hk => hk.2) (.slice Ao25 t827.length co25)) (fun _ hk => hk.2) (.slice Ao28 t830.length co28)) (fun _ h_ => h_.1))) (Kd.R_base ho1) hb); have n2_ := Aside0.mk (Kd.R_elder' (pR (Kd.R_mono (Kd.R_far (p := ⟨gb834, 1, none⟩) (Kd.R_far (p := ⟨gb834, 0, none⟩) (Kd.R_types HO829.out BK834.out (by decide)) (fun _ hk => hk.2) (.slice Ao25 t827.length co25)) (fun _ hk => hk.2) (.slice Ao28 t830.length co28)) (fun _ h_ => h_.1))) (Kd.R_base ho0) hb); have n3_ := Aside0.mk (Kd.R_elder' (pR (Kd.R_mono (Kd.R_far (p := ⟨gb834, 1, none⟩) (Kd.R_far (p := ⟨gb834, 0, none⟩) (Kd.R_types HO832.out BK834.out (by decide)) (fun _ hk => hk.2) (.slice Ao25 t827.length co25)) (fun _ hk => hk.2) (.slice Ao28 t830.length co28)) (fun _ h_ => h_.1))) (Kd.R_base ho1) hb); have n4_ := Aside0.mk (Kd.R_lower (Kd.R_new' (Kd.R_new' ho0 (Kd.R_lt (pR (Kd.R_mono (Kd.R_far (p := ⟨gb834, 1, none⟩) (Kd.R_far (p := ⟨gb834, 0, none⟩) (Kd.R_types HO823.out BK834.out (by decide)) (fun _ hk => hk.2) (.slice Ao25 t827.length co25)) (fun _ hk => hk.2) (.slice Ao28 t830.length co28)) (fun _ h_ => h_.1))))) (Kd.R_lt (pR (Kd.R_mono (Kd.R_far (p := ⟨gb834, 1, none⟩) (Kd.R_far (p := ⟨gb834, 0, none⟩) (Kd.R_types HO829.out BK834.out (by decide)) (fun _ hk => hk.2) (.slice Ao25 t827.length co25)) (fun _ hk => hk.2) (.slice Ao28 t830.length co28)) (fun _ h_ => h_.1))))) (below_size (by repeat (first | (with_reducible first | exact HB.out | apply below_alloc | apply pw_below_drewN | apply below_drew1 | refine below_set ?_ GE819.out | refine below_set ?_ GE834.out) | exact HB.out)))); have n5_ := Aside0.mk (Kd.R_lower (Kd.R_new' (Kd.R_new' ho1 (Kd.R_lt (pR (Kd.R_mono (Kd.R_far (p := ⟨gb834, 1, none⟩) (Kd.R_far (p := ⟨gb834, 0, none⟩) (Kd.R_types HO826.out BK834.out (by decide)) (fun _ hk => hk.2) (.slice Ao25 t827.length co25)) (fun _ hk => hk.2) (.slice Ao28 t830.length co28)) (fun _ h_ => h_.1))))) (Kd.R_lt (pR (Kd.R_mono (Kd.R_far (p := ⟨gb834, 1, none⟩) (Kd.R_far (p := ⟨gb834, 0, none⟩) (Kd.R_types HO832.out BK834.out (by decide)) (fun _ hk => hk.2) (.slice Ao25 t827.length co25)) (fun _ hk => hk.2) (.slice Ao28 t830.length co28)) (fun _ h_ => h_.1))))) (below_size (by repeat (first | (with_reducible first | exact HB.out | apply below_alloc | apply pw_below_drewN | apply below_drew1 | refine below_set ?_ GE819.out | refine below_set ?_ GE834.out) | exact HB.out)))); have n6_ := Aside0.mk (blk_below (g := gb819) (o := .cells #[.slice A0_0 l0_0.length c0_0, .slice A0_1 l0_1.length c0_1] 34 (0, 0)) (by (with_reducible repeat (first | refine blk_drewN ?_ _ | refine blk_drew ?_ | refine blk_alloc ?_ _)); refine blk_far ?_ NB819_834.out _; (with_reducible repeat (first | refine blk_drewN ?_ _ | refine blk_drew ?_ | refine blk_alloc ?_ _)); refine blk_far ?_ NB819_834.out _; (with_reducible repeat (first | refine blk_drewN ?_ _ | refine blk_drew ?_ | refine blk_alloc ?_ _)); exact BK819.out) hb); have n7_ := Aside0.mk (blk_below (g := gb834) (o := .cells #[.slice Ao25 t827.length co25, .slice Ao28 t830.length co28] 26 (0, 0)) (by (with_reducible repeat (first | refine blk_drewN ?_ _ | refine blk_drew ?_ | refine blk_alloc ?_ _)); refine blk_put (cs := #[.slice Ao25 t827.length co25, .slice none 0 0]) ?_ 1 _ rfl; (with_reducible repeat (first | refine blk_drewN ?_ _ | refine blk_drew ?_ | refine blk_alloc ?_ _)); refine blk_put (cs := #[.slice none 0 0, .slice none 0 0]) ?_ 0 _ rfl; (with_reducible repeat (first | refine blk_drewN ?_ _ | refine blk_drew ?_ | refine blk_alloc ?_ _)); exact BK834.out) hb); have n8_ := Aside0.mk (below_step (by repeat (first | (with_reducible first | exact HB.out | apply below_alloc | apply pw_below_drewN | apply below_drew1 | refine below_set ?_ GE819.out | refine below_set ?_ GE834.out) | exact HB.out)) hb); clear HO823; clear HO826; clear HO829; clear HO832; clear BK819; clear BK834; clear HB; have HO823 := n0_; have HO826 := n1_; have HO829 := n2_; have HO832 := n3_; have HO837 := n4_; have HO840 := n5_; have BK819 := n6_; have BK834 := n7_; have HB := n8_; clear n0_ n1_ n2_ n3_ n4_ n5_ n6_ n7_ n8_; (try clear hb); (try clear hb2); (try clear hk); (try clear hi); (try clear ho0); (try clear ho1)) | ((with_reducible refine gate_dst (N := 10) rfl ?_); refine box_event ?hg (N := 10) ?hd (cs := #[.slice none 0 0, .slice none 0 0]) (t := 26) ?hr ?_; (case hd => rfl); (case hg => rfl); (case hr => first | (go_simp; done) | (go_simp; rfl)); intro gb841 hg w31 hbox hb; have n0_ := Aside0.mk (Kd.R_below (pR HO823.out) hb); have n1_ := Aside0.mk (Kd.R_below (pR HO826.out) hb); have n2_ := Aside0.mk (Kd.R_below (pR HO829.out) hb); have n3_ := Aside0.mk (Kd.R_below (pR HO832.out) hb); have n4_ := Aside0.mk (Kd.R_below (pR HO837.out) hb); have n5_ := Aside0.mk (Kd.R_below (pR HO840.out) hb); have n6_ := Aside0.mk (blk_below (g := gb819) (o := .cells #[.slice A0_0 l0_0.length c0_0, .slice A0_1 l0_1.length c0_1] 34 (0, 0)) (pK BK819.out) hb); have n7_ := Aside0.mk (blk_below (g := gb834) (o := .cells #[.slice Ao25 t827.length co25, .slice Ao28 t830.length co28] 26 (0, 0)) (pK BK834.out) hb); have n8_ := Aside0.mk (below_step (by repeat (first | (with_reducible first | exact HB.out | apply below_alloc | apply pw_below_drewN | apply below_drew1 | refine below_set ?_ GE819.out | refine below_set ?_ GE834.out) | exact HB.out)) hb); have n9_ := Aside0.mk (hbox); have n10_ := Aside0.mk ((by rw [hg]; exact (below_size (by repeat (first | (with_reducible first | exact HB.out | apply below_alloc | apply pw_below_drewN | apply below_drew1 | refine below_set ?_ GE819.out | refine below_set ?_ GE834.out) | exact HB.out))) : w.heap.size ≤ gb841)); have n11_ := Aside0.mk ((by rw [hg]; exact (below_size (by repeat (first | (with_reducible first | exact HB.out | apply below_alloc | apply pw_below_drewN | apply below_drew1 | refine below_set ?_ GE819.out | refine below_set ?_ GE834.out) | exact HB.out))) : w.heap.size ≤ gb841)); have n12_ := Aside0.mk ((by rw [hg]; exact Nat.ne_of_lt (blk_lt (g := gb819) (o := .cells #[.slice A0_0 l0_0.length c0_0, .slice A0_1 l0_1.length c0_1] 34 (0, 0)) (pK BK819.out)) : gb819 ≠ gb841)); have n13_ := Aside0.mk ((by rw [hg]; exact Nat.ne_of_gt (blk_lt (g := gb819) (o := .cells #[.slice A0_0 l0_0.length c0_0, .slice A0_1 l0_1.length c0_1] 34 (0, 0)) (pK BK819.out)) : gb841 ≠ gb819)); have n14_ := Aside0.mk ((by rw [hg]; exact Nat.ne_of_lt (blk_lt (g := gb834) (o := .cells #[.slice Ao25 t827.length co25, .slice Ao28 t830.length co28] 26 (0, 0)) (pK BK834.out)) : gb834 ≠ gb841)); have n15_ := Aside0.mk ((by rw [hg]; exact Nat.ne_of_gt (blk_lt (g := gb834) (o := .cells #[.slice Ao25 t827.length co25, .slice Ao28 t830.length co28] 26 (0, 0)) (pK BK834.out)) : gb841 ≠ gb834)); clear HO823; clear HO826; clear HO829; clear HO832; clear HO837; clear HO840; clear BK819; clear BK834; clear HB; have HO823 := n0_; have HO826 := n1_; have HO829 := n2_; have HO832 := n3_; have HO837 := n4_; have HO840 := n5_; have BK819 := n6_; have BK834 := n7_; have HB := n8_; have BK841 := n9_; have GW841 := n10_; have GE841 := n11_; have NB819_841 := n12_; have NB841_819 := n13_; have NB834_841 := n14_; have NB841_834 := n15_; clear n0_ n1_ n2_ n3_ n4_ n5_ n6_ n7_ n8_ n9_ n10_ n11_ n12_ n13_ n14_ n15_; clear hb hbox hg; obtain ⟨Ao32, co32, eo32⟩ := Kd.R_slice HO837.out; subst eo32; have hnb33 := NB841_819.out; have hnc33 := NB819_841.out; have hnb34 := NB841_834.out; have hnc34 := NB834_841.out; have hcz35_0 : w31.cell? ⟨gb841, 0, none⟩ = some (.slice none 0 0) := (blk_cell BK841.out 0).trans rfl; have hcz35_1 : w31.cell? ⟨gb841, 1, none⟩ = some (.slice none 0 0) := (blk_cell BK841.out 1).trans rfl; have hfz35_0 := blk_frozen BK841.out 0; have hfz35_1 := blk_frozen BK841.out 1; obtain ⟨Ao36, co36, eo36⟩ := Kd.R_slice HO840.out; subst eo36) | ((with_reducible refine gate_callee (f := 30) rfl ?_); refine goesL_ (some 40) rfl rfl Try.func30 (by kernel_rfl) rfl #[.agg #[.slice Ao32 t835.length co32, .slice Ao36 t838.length co36], .int .i64 a1, .string a2] rfl bM ?_; (with_reducible refine (impl_SecPut.calls k _ _ t835 _ _ t838 a1 a2 t842 t845 t848 _ ?side1 ?side2 ?side3 ?side4 A14.out).mono ?_); (case side1 => refine (Kd.R_reads' (e := 9) (base := w.heap.size) (ok := fun k_ => ((True ∧ some k_ ≠ (.slice Ao21 t821.length co21 : Value).ownBlock) ∧ some k_ ≠ (.slice Ao25 t827.length co25 : Value).ownBlock)) (n := t835.length) (c := co32) ?_).2.2; exact (pR (Kd.R_mono (Kd.R_far (p := ⟨gb841, 1, none⟩) (Kd.R_far (p := ⟨gb841, 0, none⟩) (Kd.R_types HO837.out BK841.out (by decide)) (fun _ hk => hk.2) (.slice Ao32 t835.length co32)) (fun _ hk => hk.2) (.slice Ao36 t838.length co36)) (fun _ h_ => h_.1)))); (case side2 => exact (Kd.R_reads' HO837.out).2.1); (case side3 => refine (Kd.R_reads' (e := 54) (base := w.heap.size) (ok := fun k_ => ((True ∧ some k_ ≠ (.slice Ao22 t824.length co22 : Value).ownBlock) ∧ some k_ ≠ (.slice Ao28 t830.length co28 : Value).ownBlock)) (n := t838.length) (c := co36) ?_).2.2; exact (pR (Kd.R_mono (Kd.R_far (p := ⟨gb841, 1, none⟩) (Kd.R_far (p := ⟨gb841, 0, none⟩) (Kd.R_types HO840.out BK841.out (by decide)) (fun _ hk => hk.2) (.slice Ao32 t835.length co32)) (fun _ hk => hk.2) (.slice Ao36 t838.length co36)) (fun _ h_ => h_.1)))); (case side4 => exact (Kd.R_reads' HO840.out).2.1); rintro e w37 ⟨v843, v846, rfl, ho0, ho1, hb⟩; refine ⟨_, rfl, ?_⟩; have n0_ := Aside0.mk (Kd.R_elder' (pR (Kd.R_mono (Kd.R_far (p := ⟨gb841, 1, none⟩) (Kd.R_far (p := ⟨gb841, 0, none⟩) (Kd.R_types HO823.out BK841.out (by decide)) (fun _ hk => hk.2) (.slice Ao32 t835.length co32)) (fun _ hk => hk.2) (.slice Ao36 t838.length co36)) (fun _ h_ => h_.1))) (Kd.R_base ho0) hb); have n1_ := Aside0.mk (Kd.R_elder' (pR (Kd.R_mono (Kd.R_far (p := ⟨gb841, 1, none⟩) (Kd.R_far (p := ⟨gb841, 0, none⟩) (Kd.R_types HO826.out BK841.out (by decide)) (fun _ hk => hk.2) (.slice Ao32 t835.length co32)) (fun _ hk => hk.2) (.slice Ao36 t838.length co36)) (fun _ h_ => h_.1))) (Kd.R_base ho1) hb); have n2_ := Aside0.mk (Kd.R_elder' (pR (Kd.R_mono (Kd.R_far (p := ⟨gb841, 1, none⟩) (Kd.R_far (p := ⟨gb841, 0, none⟩) (Kd.R_types HO829.out BK841.out (by decide)) (fun _ hk => hk.2) (.slice Ao32 t835.length co32)) (fun _ hk => hk.2) (.slice Ao36 t838.length co36)) (fun _ h_ => h_.1))) (Kd.R_base ho0) hb); have n3_ := Aside0.mk (Kd.R_elder' (pR (Kd.R_mono (Kd.R_far (p := ⟨gb841, 1, none⟩) (Kd.R_far (p := ⟨gb841, 0, none⟩) (Kd.R_types HO832.out BK841.out (by decide)) (fun _ hk => hk.2) (.slice Ao32 t835.length co32)) (fun _ hk => hk.2) (.slice Ao36 t838.length co36)) (fun _ h_ => h_.1))) (Kd.R_base ho1) hb); have n4_ := Aside0.mk (Kd.R_elder' (pR (Kd.R_mono (Kd.R_far (p := ⟨gb841, 1, none⟩) (Kd.R_far (p := ⟨gb841, 0, none⟩) (Kd.R_types HO837.out BK841.out (by decide)) (fun _ hk => hk.2) (.slice Ao32 t835.length co32)) (fun _ hk => hk.2) (.slice Ao36 t838.length co36)) (fun _ h_ => h_.1))) (Kd.R_base ho0) hb); have n5_ := Aside0.mk (Kd.R_elder' (pR (Kd.R_mono (Kd.R_far (p := ⟨gb841, 1, none⟩) (Kd.R_far (p := ⟨gb841, 0, none⟩) (Kd.R_types HO840.out BK841.out (by decide)) (fun _ hk => hk.2) (.slice Ao32 t835.length co32)) (fun _ hk => hk.2) (.slice Ao36 t838.length co36)) (fun _ h_ => h_.1))) (Kd.R_base ho1) hb); have n6_ := Aside0.mk (Kd.R_lower (Kd.R_new' (Kd.R_new' (Kd.R_new' ho0 (Kd.R_lt (pR (Kd.R_mono (Kd.R_far (p := ⟨gb841, 1, none⟩) (Kd.R_far (p := ⟨gb841, 0, none⟩) (Kd.R_types HO823.out BK841.out (by decide)) (fun _ hk => hk.2) (.slice Ao32 t835.length co32)) (fun _ hk => hk.2) (.slice Ao36 t838.length co36)) (fun _ h_ => h_.1))))) (Kd.R_lt (pR (Kd.R_mono (Kd.R_far (p := ⟨gb841, 1, none⟩) (Kd.R_far (p := ⟨gb841, 0, none⟩) (Kd.R_types HO829.out BK841.out (by decide)) (fun _ hk => hk.2) (.slice Ao32 t835.length co32)) (fun _ hk => hk.2) (.slice Ao36 t838.length co36)) (fun _ h_ => h_.1))))) (Kd.R_lt (pR (Kd.R_mono (Kd.R_far (p := ⟨gb841, 1, none⟩) (Kd.R_far (p := ⟨gb841, 0, none⟩) (Kd.R_types HO837.out BK841.out (by decide)) (fun _ hk => hk.2) (.slice Ao32 t835.length co32)) (fun _ hk => hk.2) (.slice Ao36 t838.length co36)) (fun _ h_ => h_.1))))) (below_size (by repeat (first | (with_reducible first | exact HB.out | apply below_alloc | apply pw_below_drewN | apply below_drew1 | refine below_set ?_ GE819.out | refine below_set ?_ GE834.out | refine below_set ?_ GE841.out) | exact HB.out)))); have n7_ := Aside0.mk (Kd.R_lower (Kd.R_new' (Kd.R_new' (Kd.R_new' ho1 (Kd.R_lt (pR (Kd.R_mono (Kd.R_far (p := ⟨gb841, 1, none⟩) (Kd.R_far (p := ⟨gb841, 0, none⟩) (Kd.R_types HO826.out BK841.out (by decide)) (fun _ hk => hk.2) (.slice Ao32 t835.length co32)) (fun _ hk => hk.2) (.slice Ao36 t838.length co36)) (fun _ h_ => h_.1))))) (Kd.R_lt (pR (Kd.R_mono (Kd.R_far (p := ⟨gb841, 1, none⟩) (Kd.R_far (p := ⟨gb841, 0, none⟩) (Kd.R_types HO832.out BK841.out (by decide)) (fun _ hk => hk.2) (.slice Ao32 t835.length co32)) (fun _ hk => hk.2) (.slice Ao36 t838.length co36)) (fun _ h_ => h_.1))))) (Kd.R_lt (pR (Kd.R_mono (Kd.R_far (p := ⟨gb841, 1, none⟩) (Kd.R_far (p := ⟨gb841, 0, none⟩) (Kd.R_types HO840.out BK841.out (by decide)) (fun _ hk => hk.2) (.slice Ao32 t835.length co32)) (fun _ hk => hk.2) (.slice Ao36 t838.length co36)) (fun _ h_ => h_.1))))) (below_size (by repeat (first | (with_reducible first | exact HB.out | apply below_alloc | apply pw_below_drewN | apply below_drew1 | refine below_set ?_ GE819.out | refine below_set ?_ GE834.out | refine below_set ?_ GE841.out) | exact HB.out)))); have n8_ := Aside0.mk (blk_below (g := gb819) (o := .cells #[.slice A0_0 l0_0.length c0_0, .slice A0_1 l0_1.length c0_1] 34 (0, 0)) (by (with_reducible repeat (first | refine blk_drewN ?_ _ | refine blk_drew ?_ | refine blk_alloc ?_ _)); refine blk_far ?_ NB819_841.out _; (with_reducible repeat (first | refine blk_drewN ?_ _ | refine blk_drew ?_ | refine blk_alloc ?_ _)); refine blk_far ?_ NB819_841.out _; (with_reducible repeat (first | refine blk_drewN ?_ _ | refine blk_drew ?_ | refine blk_alloc ?_ _)); exact BK819.out) hb); have n9_ := Aside0.mk (blk_below (g := gb834) (o := .cells #[.slice Ao25 t827.length co25, .slice Ao28 t830.length co28] 26 (0, 0)) (by (with_reducible repeat (first | refine blk_drewN ?_ _ | refine blk_drew ?_ | refine blk_alloc ?_ _)); refine blk_far ?_ NB834_841.out _; (with_reducible repeat (first | refine blk_drewN ?_ _ | refine blk_drew ?_ | refine blk_alloc ?_ _)); refine blk_far ?_ NB834_841.out _; (with_reducible repeat (first | refine blk_drewN ?_ _ | refine blk_drew ?_ | refine blk_alloc ?_ _)); exact BK834.out) hb); have n10_ := Aside0.mk (blk_below (g := gb841) (o := .cells #[.slice Ao32 t835.length co32, .slice Ao36 t838.length co36] 26 (0, 0)) (by (with_reducible repeat (first | refine blk_drewN ?_ _ | refine blk_drew ?_ | refine blk_alloc ?_ _)); refine blk_put (cs := #[.slice Ao32 t835.length co32, .slice none 0 0]) ?_ 1 _ rfl; (with_reducible repeat (first | refine blk_drewN ?_ _ | refine blk_drew ?_ | refine blk_alloc ?_ _)); refine blk_put (cs := #[.slice none 0 0, .slice none 0 0]) ?_ 0 _ rfl; (with_reducible repeat (first | refine blk_drewN ?_ _ | refine blk_drew ?_ | refine blk_alloc ?_ _)); exact BK841.out) hb); have n11_ := Aside0.mk (below_step (by repeat (first | (with_reducible first | exact HB.out | apply below_alloc | apply pw_below_drewN | apply below_drew1 | refine below_set ?_ GE819.out | refine below_set ?_ GE834.out | refine below_set ?_ GE841.out) | exact HB.out)) hb); clear HO823; clear HO826; clear HO829; clear HO832; clear HO837; clear HO840; clear BK819; clear BK834; clear BK841; clear HB; have HO823 := n0_; have HO826 := n1_; have HO829 := n2_; have HO832 := n3_; have HO837 := n4_; have HO840 := n5_; have HO844 := n6_; have HO847 := n7_; have BK819 := n8_; have BK834 := n9_; have BK841 := n10_; have HB := n11_; clear n0_ n1_ n2_ n3_ n4_ n5_ n6_ n7_ n8_ n9_ n10_ n11_; (try clear hb); (try clear hb2); (try clear hk); (try clear hi); (try clear ho0); (try clear ho1)) | ((with_reducible refine gate_dst (N := 11) rfl ?_); refine box_event ?hg (N := 11) ?hd (cs := #[.slice none 0 0, .slice none 0 0]) (t := 26) ?hr ?_; (case hd => rfl); (case hg => rfl); (case hr => first | (go_simp; done) | (go_simp; rfl)); intro gb849 hg w38 hbox hb; have n0_ := Aside0.mk (Kd.R_below (pR HO823.out) hb); have n1_ := Aside0.mk (Kd.R_below (pR HO826.out) hb); have n2_ := Aside0.mk (Kd.R_below (pR HO829.out) hb); have n3_ := Aside0.mk (Kd.R_below (pR HO832.out) hb); have n4_ := Aside0.mk (Kd.R_below (pR HO837.out) hb); have n5_ := Aside0.mk (Kd.R_below (pR HO840.out) hb); have n6_ := Aside0.mk (Kd.R_below (pR HO844.out) hb); have n7_ := Aside0.mk (Kd.R_below (pR HO847.out) hb); have n8_ := Aside0.mk (blk_below (g := gb819) (o := .cells #[.slice A0_0 l0_0.length c0_0, .slice A0_1 l0_1.length c0_1] 34 (0, 0)) (pK BK819.out) hb); have n9_ := Aside0.mk (blk_below (g := gb834) (o := .cells #[.slice Ao25 t827.length co25, .slice Ao28 t830.length co28] 26 (0, 0)) (pK BK834.out) hb); have n10_ := Aside0.mk (blk_below (g := gb841) (o := .cells #[.slice Ao32 t835.length co32, .slice Ao36 t838.length co36] 26 (0, 0)) (pK BK841.out) hb); have n11_ := Aside0.mk (below_step (by repeat (first | (with_reducible first | exact HB.out | apply below_alloc | apply pw_below_drewN | apply below_drew1 | refine below_set ?_ GE819.out | refine below_set ?_ GE834.out | refine below_set ?_ GE841.out) | exact HB.out)) hb); have n12_ := Aside0.mk (hbox); have n13_ := Aside0.mk ((by rw [hg]; exact (below_size (by repeat (first | (with_reducible first | exact HB.out | apply below_alloc | apply pw_below_drewN | apply below_drew1 | refine below_set ?_ GE819.out | refine below_set ?_ GE834.out | refine below_set ?_ GE841.out) | exact HB.out))) : w.heap.size ≤ gb849)); have n14_ := Aside0.mk ((by rw [hg]; exact (below_size (by repeat (first | (with_reducible first | exact HB.out | apply below_alloc | apply pw_below_drewN | apply below_drew1 | refine below_set ?_ GE819.out | refine below_set ?_ GE834.out | refine below_set ?_ GE841.out) | exact HB.out))) : w.heap.size ≤ gb849)); have n15_ := Aside0.mk ((by rw [hg]; exact Nat.ne_of_lt (blk_lt (g := gb819) (o := .cells #[.slice A0_0 l0_0.length c0_0, .slice A0_1 l0_1.length c0_1] 34 (0, 0)) (pK BK819.out)) : gb819 ≠ gb849)); have n16_ := Aside0.mk ((by rw [hg]; exact Nat.ne_of_gt (blk_lt (g := gb819) (o := .cells #[.slice A0_0 l0_0.length c0_0, .slice A0_1 l0_1.length c0_1] 34 (0, 0)) (pK BK819.out)) : gb849 ≠ gb819)); have n17_ := Aside0.mk ((by rw [hg]; exact Nat.ne_of_lt (blk_lt (g := gb834) (o := .cells #[.slice Ao25 t827.length co25, .slice Ao28 t830.length co28] 26 (0, 0)) (pK BK834.out)) : gb834 ≠ gb849)); have n18_ := Aside0.mk ((by rw [hg]; exact Nat.ne_of_gt (blk_lt (g := gb834) (o := .cells #[.slice Ao25 t827.length co25, .slice Ao28 t830.length co28] 26 (0, 0)) (pK BK834.out)) : gb849 ≠ gb834)); have n19_ := Aside0.mk ((by rw [hg]; exact Nat.ne_of_lt (blk_lt (g := gb841) (o := .cells #[.slice Ao32 t835.length co32, .slice Ao36 t838.length co36] 26 (0, 0)) (pK BK841.out)) : gb841 ≠ gb849)); have n20_ := Aside0.mk ((by rw [hg]; exact Nat.ne_of_gt (blk_lt (g := gb841) (o := .cells #[.slice Ao32 t835.length co32, .slice Ao36 t838.length co36] 26 (0, 0)) (pK BK841.out)) : gb849 ≠ gb841)); clear HO823; clear HO826; clear HO829; clear HO832; clear HO837; clear HO840; clear HO844; clear HO847; clear BK819; clear BK834; clear BK841; clear HB; have HO823 := n0_; have HO826 := n1_; have HO829 := n2_; have HO832 := n3_; have HO837 := n4_; have HO840 := n5_; have HO844 := n6_; have HO847 := n7_; have BK819 := n8_; have BK834 := n9_; have BK841 := n10_; have HB := n11_; have BK849 := n12_; have GW849 := n13_; have GE849 := n14_; have NB819_849 := n15_; have NB849_819 := n16_; have NB834_849 := n17_; have NB849_834 := n18_; have NB841_849 := n19_; have NB849_841 := n20_; clear n0_ n1_ n2_ n3_ n4_ n5_ n6_ n7_ n8_ n9_ n10_ n11_ n12_ n13_ n14_ n15_ n16_ n17_ n18_ n19_ n20_; clear hb hbox hg; obtain ⟨Ao39, co39, eo39⟩ := Kd.R_slice HO844.out; subst eo39; have hnb40 := NB849_819.out; have hnc40 := NB819_849.out; have hnb41 := NB849_834.out; have hnc41 := NB834_849.out; have hnb42 := NB849_841.out; have hnc42 := NB841_849.out; have hcz43_0 : w38.cell? ⟨gb849, 0, none⟩ = some (.slice none 0 0) := (blk_cell BK849.out 0).trans rfl; have hcz43_1 : w38.cell? ⟨gb849, 1, none⟩ = some (.slice none 0 0) := (blk_cell BK849.out 1).trans rfl; have hfz43_0 := blk_frozen BK849.out 0; have hfz43_1 := blk_frozen BK849.out 1; obtain ⟨Ao44, co44, eo44⟩ := Kd.R_slice HO847.out; subst eo44))
   (try simp only [Act.put, List.setIfInBounds_toArray, List.set_cons_zero, List.set_cons_succ])
   go_cut [51] (fun v51 wc => ∃ (kq : Nat) (x51_14 : Bool), v51 = .bool x51_14 ∧ Aside0 (laws_FnExactSecPut.j0 kq a1 a2 t833 t848 x51_14 l0_0 l0_1 t827 t830 t835 t838 t842 t845 = some r) ∧ Aside0 (kq ≤ k) ∧ Aside0 (Kd.R Kd.string 9 wc w.heap.size (fun k_ => some k_ ≠ ((.slice Ao32 t835.length co32) : Value).ownBlock ∧ some k_ ≠ ((.slice Ao39 t842.length co39) : Value).ownBlock) (.slice Ao25 t827.length co25) t827) ∧ Aside0 (Kd.R k54 54 wc w.heap.size (fun k_ => some k_ ≠ ((.slice Ao36 t838.length co36) : Value).ownBlock ∧ some k_ ≠ ((.slice Ao44 t845.length co44) : Value).ownBlock) (.slice Ao28 t830.length co28) t830) ∧ Aside0 (Kd.R Kd.string 9 wc w.heap.size (fun k_ => some k_ ≠ ((.slice Ao25 t827.length co25) : Value).ownBlock ∧ some k_ ≠ ((.slice Ao39 t842.length co39) : Value).ownBlock) (.slice Ao32 t835.length co32) t835) ∧ Aside0 (Kd.R k54 54 wc w.heap.size (fun k_ => some k_ ≠ ((.slice Ao28 t830.length co28) : Value).ownBlock ∧ some k_ ≠ ((.slice Ao44 t845.length co44) : Value).ownBlock) (.slice Ao36 t838.length co36) t838) ∧ Aside0 (Kd.R Kd.string 9 wc w.heap.size (fun k_ => some k_ ≠ ((.slice Ao25 t827.length co25) : Value).ownBlock ∧ some k_ ≠ ((.slice Ao32 t835.length co32) : Value).ownBlock) (.slice Ao39 t842.length co39) t842) ∧ Aside0 (Kd.R k54 54 wc w.heap.size (fun k_ => some k_ ≠ ((.slice Ao28 t830.length co28) : Value).ownBlock ∧ some k_ ≠ ((.slice Ao36 t838.length co36) : Value).ownBlock) (.slice Ao44 t845.length co44) t845) ∧ Aside0 (wc.heap[gb819]? = some (.cells #[(.slice A0_0 l0_0.length c0_0), (.slice A0_1 l0_1.length c0_1)] 34 (0, 0))) ∧ Aside0 (wc.heap[gb834]? = some (.cells #[(.slice Ao25 t827.length co25), (.slice Ao28 t830.length co28)] 26 (0, 0))) ∧ Aside0 (wc.heap[gb841]? = some (.cells #[(.slice Ao32 t835.length co32), (.slice Ao36 t838.length co36)] 26 (0, 0))) ∧ Aside0 (wc.heap[gb849]? = some (.cells #[(.slice Ao39 t842.length co39), (.slice Ao44 t845.length co44)] 26 (0, 0))) ∧ Aside0 (Below w.heap.size w wc))
   case first =>
    have H := HC15.out
    clear HC15
    replace H := Option.bind_eq_some_iff.mp H
    obtain ⟨t850, A450, H⟩ := H
    replace H : (if t850 = true then (laws_FnExactSecPut.j0 k a1 a2 t833 t848 (t848 != t833) l0_0 l0_1 t827 t830 t835 t838 t842 t845) else (laws_FnExactSecPut.j0 k a1 a2 t833 t848 true l0_0 l0_1 t827 t830 t835 t838 t842 t845)) = some r := H
    have A45 := Aside0.mk A450
    clear A450
    by_cases c46 : t850 = true
    ·subst c46
     have H1 : (laws_FnExactSecPut.j0 k a1 a2 t833 t848 (t848 != t833) l0_0 l0_1 t827 t830 t835 t838 t842 t845) = some r := by rw [if_pos rfl] at H; exact H
     clear H
     have H := H1
     clear H1
     have H' := Aside0.mk H
     clear H
     have hnb47 := NB849_819.out
     have hnc47 := NB819_849.out
     have hnb48 := NB849_834.out
     have hnc48 := NB834_849.out
     have hnb49 := NB849_841.out
     have hnc49 := NB841_849.out
     have hcz50_0 : w38.cell? ⟨gb849, 0, none⟩ = some (.slice none 0 0) := (blk_cell BK849.out 0).trans rfl
     have hcz50_1 : w38.cell? ⟨gb849, 1, none⟩ = some (.slice none 0 0) := (blk_cell BK849.out 1).trans rfl
     have hfz50_0 := blk_frozen BK849.out 0
     have hfz50_1 := blk_frozen BK849.out 1
     have hnb51 := NB834_819.out
     have hnc51 := NB819_834.out
     have hnb52 := NB834_841.out
     have hnc52 := NB841_834.out
     have hcz53_0 : w38.cell? ⟨gb834, 0, none⟩ = some (.slice Ao25 t827.length co25) := (blk_cell BK834.out 0).trans rfl
     have hcz53_1 : w38.cell? ⟨gb834, 1, none⟩ = some (.slice Ao28 t830.length co28) := (blk_cell BK834.out 1).trans rfl
     have hfz53_0 := blk_frozen BK834.out 0
     have hfz53_1 := blk_frozen BK834.out 1
     go_wp2_with (first | ((with_reducible refine gate_callee (f := 17) rfl ?_); refine goesL_ (some 45) rfl rfl Try.func17 (by kernel_rfl) rfl #[.agg #[.slice Ao39 t842.length co39, .slice Ao44 t845.length co44], .agg #[.slice Ao25 t827.length co25, .slice Ao28 t830.length co28]] rfl bM ?_; (with_reducible refine (laws_eqSecDisk.calls k _ _ t842 _ _ t845 _ _ t827 _ _ t830 true _ ?side1 ?side2 ?side3 ?side4 ?side5 ?side6 ?side7 ?side8 A45.out).mono ?_); (case side1 => refine (Kd.R_reads' (e := 9) (base := w.heap.size) (ok := fun k_ => (((True ∧ some k_ ≠ (.slice Ao21 t821.length co21 : Value).ownBlock) ∧ some k_ ≠ (.slice Ao25 t827.length co25 : Value).ownBlock) ∧ some k_ ≠ (.slice Ao32 t835.length co32 : Value).ownBlock)) (n := t842.length) (c := co39) ?_).2.2; exact (pR (Kd.R_mono (Kd.R_far (p := ⟨gb849, 1, none⟩) (Kd.R_far (p := ⟨gb849, 0, none⟩) (Kd.R_types HO844.out BK849.out (by decide)) (fun _ hk => hk.2) (.slice Ao39 t842.length co39)) (fun _ hk => hk.2) (.slice Ao44 t845.length co44)) (fun _ h_ => h_.1)))); (case side2 => exact (Kd.R_reads' HO844.out).2.1); (case side3 => refine (Kd.R_reads' (e := 54) (base := w.heap.size) (ok := fun k_ => (((True ∧ some k_ ≠ (.slice Ao22 t824.length co22 : Value).ownBlock) ∧ some k_ ≠ (.slice Ao28 t830.length co28 : Value).ownBlock) ∧ some k_ ≠ (.slice Ao36 t838.length co36 : Value).ownBlock)) (n := t845.length) (c := co44) ?_).2.2; exact (pR (Kd.R_mono (Kd.R_far (p := ⟨gb849, 1, none⟩) (Kd.R_far (p := ⟨gb849, 0, none⟩) (Kd.R_types HO847.out BK849.out (by decide)) (fun _ hk => hk.2) (.slice Ao39 t842.length co39)) (fun _ hk => hk.2) (.slice Ao44 t845.length co44)) (fun _ h_ => h_.1)))); (case side4 => exact (Kd.R_reads' HO847.out).2.1); (case side5 => refine (Kd.R_reads' (e := 9) (base := w.heap.size) (ok := fun k_ => (((True ∧ some k_ ≠ (.slice Ao21 t821.length co21 : Value).ownBlock) ∧ some k_ ≠ (.slice Ao32 t835.length co32 : Value).ownBlock) ∧ some k_ ≠ (.slice Ao39 t842.length co39 : Value).ownBlock)) (n := t827.length) (c := co25) ?_).2.2; exact (pR (Kd.R_mono (Kd.R_far (p := ⟨gb849, 1, none⟩) (Kd.R_far (p := ⟨gb849, 0, none⟩) (Kd.R_types HO829.out BK849.out (by decide)) (fun _ hk => hk.2) (.slice Ao39 t842.length co39)) (fun _ hk => hk.2) (.slice Ao44 t845.length co44)) (fun _ h_ => h_.1)))); (case side6 => exact (Kd.R_reads' HO829.out).2.1); (case side7 => refine (Kd.R_reads' (e := 54) (base := w.heap.size) (ok := fun k_ => (((True ∧ some k_ ≠ (.slice Ao22 t824.length co22 : Value).ownBlock) ∧ some k_ ≠ (.slice Ao36 t838.length co36 : Value).ownBlock) ∧ some k_ ≠ (.slice Ao44 t845.length co44 : Value).ownBlock)) (n := t830.length) (c := co28) ?_).2.2; exact (pR (Kd.R_mono (Kd.R_far (p := ⟨gb849, 1, none⟩) (Kd.R_far (p := ⟨gb849, 0, none⟩) (Kd.R_types HO832.out BK849.out (by decide)) (fun _ hk => hk.2) (.slice Ao39 t842.length co39)) (fun _ hk => hk.2) (.slice Ao44 t845.length co44)) (fun _ h_ => h_.1)))); (case side8 => exact (Kd.R_reads' HO832.out).2.1); rintro e w54 ⟨rfl, hb⟩; refine ⟨_, rfl, ?_⟩; have n0_ := Aside0.mk (Kd.R_below (pR (Kd.R_mono (Kd.R_far (p := ⟨gb849, 1, none⟩) (Kd.R_far (p := ⟨gb849, 0, none⟩) (Kd.R_types HO823.out BK849.out (by decide)) (fun _ hk => hk.2) (.slice Ao39 t842.length co39)) (fun _ hk => hk.2) (.slice Ao44 t845.length co44)) (fun _ h_ => h_.1))) hb); have n1_ := Aside0.mk (Kd.R_below (pR (Kd.R_mono (Kd.R_far (p := ⟨gb849, 1, none⟩) (Kd.R_far (p := ⟨gb849, 0, none⟩) (Kd.R_types HO826.out BK849.out (by decide)) (fun _ hk => hk.2) (.slice Ao39 t842.length co39)) (fun _ hk => hk.2) (.slice Ao44 t845.length co44)) (fun _ h_ => h_.1))) hb); have n2_ := Aside0.mk (Kd.R_below (pR (Kd.R_mono (Kd.R_far (p := ⟨gb849, 1, none⟩) (Kd.R_far (p := ⟨gb849, 0, none⟩) (Kd.R_types HO829.out BK849.out (by decide)) (fun _ hk => hk.2) (.slice Ao39 t842.length co39)) (fun _ hk => hk.2) (.slice Ao44 t845.length co44)) (fun _ h_ => h_.1))) hb); have n3_ := Aside0.mk (Kd.R_below (pR (Kd.R_mono (Kd.R_far (p := ⟨gb849, 1, none⟩) (Kd.R_far (p := ⟨gb849, 0, none⟩) (Kd.R_types HO832.out BK849.out (by decide)) (fun _ hk => hk.2) (.slice Ao39 t842.length co39)) (fun _ hk => hk.2) (.slice Ao44 t845.length co44)) (fun _ h_ => h_.1))) hb); have n4_ := Aside0.mk (Kd.R_below (pR (Kd.R_mono (Kd.R_far (p := ⟨gb849, 1, none⟩) (Kd.R_far (p := ⟨gb849, 0, none⟩) (Kd.R_types HO837.out BK849.out (by decide)) (fun _ hk => hk.2) (.slice Ao39 t842.length co39)) (fun _ hk => hk.2) (.slice Ao44 t845.length co44)) (fun _ h_ => h_.1))) hb); have n5_ := Aside0.mk (Kd.R_below (pR (Kd.R_mono (Kd.R_far (p := ⟨gb849, 1, none⟩) (Kd.R_far (p := ⟨gb849, 0, none⟩) (Kd.R_types HO840.out BK849.out (by decide)) (fun _ hk => hk.2) (.slice Ao39 t842.length co39)) (fun _ hk => hk.2) (.slice Ao44 t845.length co44)) (fun _ h_ => h_.1))) hb); have n6_ := Aside0.mk (Kd.R_below (pR (Kd.R_mono (Kd.R_far (p := ⟨gb849, 1, none⟩) (Kd.R_far (p := ⟨gb849, 0, none⟩) (Kd.R_types HO844.out BK849.out (by decide)) (fun _ hk => hk.2) (.slice Ao39 t842.length co39)) (fun _ hk => hk.2) (.slice Ao44 t845.length co44)) (fun _ h_ => h_.1))) hb); have n7_ := Aside0.mk (Kd.R_below (pR (Kd.R_mono (Kd.R_far (p := ⟨gb849, 1, none⟩) (Kd.R_far (p := ⟨gb849, 0, none⟩) (Kd.R_types HO847.out BK849.out (by decide)) (fun _ hk => hk.2) (.slice Ao39 t842.length co39)) (fun _ hk => hk.2) (.slice Ao44 t845.length co44)) (fun _ h_ => h_.1))) hb); have n8_ := Aside0.mk (blk_below (g := gb819) (o := .cells #[.slice A0_0 l0_0.length c0_0, .slice A0_1 l0_1.length c0_1] 34 (0, 0)) (by (with_reducible repeat (first | refine blk_drewN ?_ _ | refine blk_drew ?_ | refine blk_alloc ?_ _)); refine blk_far ?_ NB819_849.out _; (with_reducible repeat (first | refine blk_drewN ?_ _ | refine blk_drew ?_ | refine blk_alloc ?_ _)); refine blk_far ?_ NB819_849.out _; (with_reducible repeat (first | refine blk_drewN ?_ _ | refine blk_drew ?_ | refine blk_alloc ?_ _)); exact BK819.out) hb); have n9_ := Aside0.mk (blk_below (g := gb834) (o := .cells #[.slice Ao25 t827.length co25, .slice Ao28 t830.length co28] 26 (0, 0)) (by (with_reducible repeat (first | refine blk_drewN ?_ _ | refine blk_drew ?_ | refine blk_alloc ?_ _)); refine blk_far ?_ NB834_849.out _; (with_reducible repeat (first | refine blk_drewN ?_ _ | refine blk_drew ?_ | refine blk_alloc ?_ _)); refine blk_far ?_ NB834_849.out _; (with_reducible repeat (first | refine blk_drewN ?_ _ | refine blk_drew ?_ | refine blk_alloc ?_ _)); exact BK834.out) hb); have n10_ := Aside0.mk (blk_below (g := gb841) (o := .cells #[.slice Ao32 t835.length co32, .slice Ao36 t838.length co36] 26 (0, 0)) (by (with_reducible repeat (first | refine blk_drewN ?_ _ | refine blk_drew ?_ | refine blk_alloc ?_ _)); refine blk_far ?_ NB841_849.out _; (with_reducible repeat (first | refine blk_drewN ?_ _ | refine blk_drew ?_ | refine blk_alloc ?_ _)); refine blk_far ?_ NB841_849.out _; (with_reducible repeat (first | refine blk_drewN ?_ _ | refine blk_drew ?_ | refine blk_alloc ?_ _)); exact BK841.out) hb); have n11_ := Aside0.mk (blk_below (g := gb849) (o := .cells #[.slice Ao39 t842.length co39, .slice Ao44 t845.length co44] 26 (0, 0)) (by (with_reducible repeat (first | refine blk_drewN ?_ _ | refine blk_drew ?_ | refine blk_alloc ?_ _)); refine blk_put (cs := #[.slice Ao39 t842.length co39, .slice none 0 0]) ?_ 1 _ rfl; (with_reducible repeat (first | refine blk_drewN ?_ _ | refine blk_drew ?_ | refine blk_alloc ?_ _)); refine blk_put (cs := #[.slice none 0 0, .slice none 0 0]) ?_ 0 _ rfl; (with_reducible repeat (first | refine blk_drewN ?_ _ | refine blk_drew ?_ | refine blk_alloc ?_ _)); exact BK849.out) hb); have n12_ := Aside0.mk (below_step (by repeat (first | (with_reducible first | exact HB.out | apply below_alloc | apply pw_below_drewN | apply below_drew1 | refine below_set ?_ GE819.out | refine below_set ?_ GE834.out | refine below_set ?_ GE841.out | refine below_set ?_ GE849.out) | exact HB.out)) hb); clear HO823; clear HO826; clear HO829; clear HO832; clear HO837; clear HO840; clear HO844; clear HO847; clear BK819; clear BK834; clear BK841; clear BK849; clear HB; have HO823 := n0_; have HO826 := n1_; have HO829 := n2_; have HO832 := n3_; have HO837 := n4_; have HO840 := n5_; have HO844 := n6_; have HO847 := n7_; have BK819 := n8_; have BK834 := n9_; have BK841 := n10_; have BK849 := n11_; have HB := n12_; clear n0_ n1_ n2_ n3_ n4_ n5_ n6_ n7_ n8_ n9_ n10_ n11_ n12_; (try clear hb); (try clear hb2); (try clear hk); (try clear hi)))
     go_meet
     case rel => exact ⟨_, ((t848 != t833)), (by first | rfl | (simp; done) | (simp [*]; done)), H', ⟨by first | omega | exact Nat.le_refl _⟩, ⟨pR (Kd.R_mono HO829.out (fun _ hk => ⟨hk.1.2, hk.2⟩))⟩, ⟨pR (Kd.R_mono HO832.out (fun _ hk => ⟨hk.1.2, hk.2⟩))⟩, ⟨pR (Kd.R_mono HO837.out (fun _ hk => ⟨hk.1.2, hk.2⟩))⟩, ⟨pR (Kd.R_mono HO840.out (fun _ hk => ⟨hk.1.2, hk.2⟩))⟩, ⟨pR (Kd.R_mono HO844.out (fun _ hk => ⟨hk.1.2, hk.2⟩))⟩, ⟨pR (Kd.R_mono HO847.out (fun _ hk => ⟨hk.1.2, hk.2⟩))⟩, ⟨pK BK819.out⟩, ⟨pK BK834.out⟩, ⟨pK BK841.out⟩, ⟨pK BK849.out⟩, ⟨by repeat (first | (with_reducible first | exact HB.out | apply below_alloc | apply pw_below_drewN | apply below_drew1 | refine below_set ?_ GE819.out | refine below_set ?_ GE834.out | refine below_set ?_ GE841.out | refine below_set ?_ GE849.out) | exact HB.out)⟩⟩
    ·replace c46 := Bool.eq_false_iff.mpr c46
     subst c46
     have H1 : (laws_FnExactSecPut.j0 k a1 a2 t833 t848 true l0_0 l0_1 t827 t830 t835 t838 t842 t845) = some r := by rw [if_neg (show ¬ (false = true) by decide)] at H; exact H
     clear H
     have H := H1
     clear H1
     have H' := Aside0.mk H
     clear H
     have hnb55 := NB849_819.out
     have hnc55 := NB819_849.out
     have hnb56 := NB849_834.out
     have hnc56 := NB834_849.out
     have hnb57 := NB849_841.out
     have hnc57 := NB841_849.out
     have hcz58_0 : w38.cell? ⟨gb849, 0, none⟩ = some (.slice none 0 0) := (blk_cell BK849.out 0).trans rfl
     have hcz58_1 : w38.cell? ⟨gb849, 1, none⟩ = some (.slice none 0 0) := (blk_cell BK849.out 1).trans rfl
     have hfz58_0 := blk_frozen BK849.out 0
     have hfz58_1 := blk_frozen BK849.out 1
     have hnb59 := NB834_819.out
     have hnc59 := NB819_834.out
     have hnb60 := NB834_841.out
     have hnc60 := NB841_834.out
     have hcz61_0 : w38.cell? ⟨gb834, 0, none⟩ = some (.slice Ao25 t827.length co25) := (blk_cell BK834.out 0).trans rfl
     have hcz61_1 : w38.cell? ⟨gb834, 1, none⟩ = some (.slice Ao28 t830.length co28) := (blk_cell BK834.out 1).trans rfl
     have hfz61_0 := blk_frozen BK834.out 0
     have hfz61_1 := blk_frozen BK834.out 1
     go_wp2_with (first | ((with_reducible refine gate_callee (f := 17) rfl ?_); refine goesL_ (some 45) rfl rfl Try.func17 (by kernel_rfl) rfl #[.agg #[.slice Ao39 t842.length co39, .slice Ao44 t845.length co44], .agg #[.slice Ao25 t827.length co25, .slice Ao28 t830.length co28]] rfl bM ?_; (with_reducible refine (laws_eqSecDisk.calls k _ _ t842 _ _ t845 _ _ t827 _ _ t830 false _ ?side1 ?side2 ?side3 ?side4 ?side5 ?side6 ?side7 ?side8 A45.out).mono ?_); (case side1 => refine (Kd.R_reads' (e := 9) (base := w.heap.size) (ok := fun k_ => (((True ∧ some k_ ≠ (.slice Ao21 t821.length co21 : Value).ownBlock) ∧ some k_ ≠ (.slice Ao25 t827.length co25 : Value).ownBlock) ∧ some k_ ≠ (.slice Ao32 t835.length co32 : Value).ownBlock)) (n := t842.length) (c := co39) ?_).2.2; exact (pR (Kd.R_mono (Kd.R_far (p := ⟨gb849, 1, none⟩) (Kd.R_far (p := ⟨gb849, 0, none⟩) (Kd.R_types HO844.out BK849.out (by decide)) (fun _ hk => hk.2) (.slice Ao39 t842.length co39)) (fun _ hk => hk.2) (.slice Ao44 t845.length co44)) (fun _ h_ => h_.1)))); (case side2 => exact (Kd.R_reads' HO844.out).2.1); (case side3 => refine (Kd.R_reads' (e := 54) (base := w.heap.size) (ok := fun k_ => (((True ∧ some k_ ≠ (.slice Ao22 t824.length co22 : Value).ownBlock) ∧ some k_ ≠ (.slice Ao28 t830.length co28 : Value).ownBlock) ∧ some k_ ≠ (.slice Ao36 t838.length co36 : Value).ownBlock)) (n := t845.length) (c := co44) ?_).2.2; exact (pR (Kd.R_mono (Kd.R_far (p := ⟨gb849, 1, none⟩) (Kd.R_far (p := ⟨gb849, 0, none⟩) (Kd.R_types HO847.out BK849.out (by decide)) (fun _ hk => hk.2) (.slice Ao39 t842.length co39)) (fun _ hk => hk.2) (.slice Ao44 t845.length co44)) (fun _ h_ => h_.1)))); (case side4 => exact (Kd.R_reads' HO847.out).2.1); (case side5 => refine (Kd.R_reads' (e := 9) (base := w.heap.size) (ok := fun k_ => (((True ∧ some k_ ≠ (.slice Ao21 t821.length co21 : Value).ownBlock) ∧ some k_ ≠ (.slice Ao32 t835.length co32 : Value).ownBlock) ∧ some k_ ≠ (.slice Ao39 t842.length co39 : Value).ownBlock)) (n := t827.length) (c := co25) ?_).2.2; exact (pR (Kd.R_mono (Kd.R_far (p := ⟨gb849, 1, none⟩) (Kd.R_far (p := ⟨gb849, 0, none⟩) (Kd.R_types HO829.out BK849.out (by decide)) (fun _ hk => hk.2) (.slice Ao39 t842.length co39)) (fun _ hk => hk.2) (.slice Ao44 t845.length co44)) (fun _ h_ => h_.1)))); (case side6 => exact (Kd.R_reads' HO829.out).2.1); (case side7 => refine (Kd.R_reads' (e := 54) (base := w.heap.size) (ok := fun k_ => (((True ∧ some k_ ≠ (.slice Ao22 t824.length co22 : Value).ownBlock) ∧ some k_ ≠ (.slice Ao36 t838.length co36 : Value).ownBlock) ∧ some k_ ≠ (.slice Ao44 t845.length co44 : Value).ownBlock)) (n := t830.length) (c := co28) ?_).2.2; exact (pR (Kd.R_mono (Kd.R_far (p := ⟨gb849, 1, none⟩) (Kd.R_far (p := ⟨gb849, 0, none⟩) (Kd.R_types HO832.out BK849.out (by decide)) (fun _ hk => hk.2) (.slice Ao39 t842.length co39)) (fun _ hk => hk.2) (.slice Ao44 t845.length co44)) (fun _ h_ => h_.1)))); (case side8 => exact (Kd.R_reads' HO832.out).2.1); rintro e w62 ⟨rfl, hb⟩; refine ⟨_, rfl, ?_⟩; have n0_ := Aside0.mk (Kd.R_below (pR (Kd.R_mono (Kd.R_far (p := ⟨gb849, 1, none⟩) (Kd.R_far (p := ⟨gb849, 0, none⟩) (Kd.R_types HO823.out BK849.out (by decide)) (fun _ hk => hk.2) (.slice Ao39 t842.length co39)) (fun _ hk => hk.2) (.slice Ao44 t845.length co44)) (fun _ h_ => h_.1))) hb); have n1_ := Aside0.mk (Kd.R_below (pR (Kd.R_mono (Kd.R_far (p := ⟨gb849, 1, none⟩) (Kd.R_far (p := ⟨gb849, 0, none⟩) (Kd.R_types HO826.out BK849.out (by decide)) (fun _ hk => hk.2) (.slice Ao39 t842.length co39)) (fun _ hk => hk.2) (.slice Ao44 t845.length co44)) (fun _ h_ => h_.1))) hb); have n2_ := Aside0.mk (Kd.R_below (pR (Kd.R_mono (Kd.R_far (p := ⟨gb849, 1, none⟩) (Kd.R_far (p := ⟨gb849, 0, none⟩) (Kd.R_types HO829.out BK849.out (by decide)) (fun _ hk => hk.2) (.slice Ao39 t842.length co39)) (fun _ hk => hk.2) (.slice Ao44 t845.length co44)) (fun _ h_ => h_.1))) hb); have n3_ := Aside0.mk (Kd.R_below (pR (Kd.R_mono (Kd.R_far (p := ⟨gb849, 1, none⟩) (Kd.R_far (p := ⟨gb849, 0, none⟩) (Kd.R_types HO832.out BK849.out (by decide)) (fun _ hk => hk.2) (.slice Ao39 t842.length co39)) (fun _ hk => hk.2) (.slice Ao44 t845.length co44)) (fun _ h_ => h_.1))) hb); have n4_ := Aside0.mk (Kd.R_below (pR (Kd.R_mono (Kd.R_far (p := ⟨gb849, 1, none⟩) (Kd.R_far (p := ⟨gb849, 0, none⟩) (Kd.R_types HO837.out BK849.out (by decide)) (fun _ hk => hk.2) (.slice Ao39 t842.length co39)) (fun _ hk => hk.2) (.slice Ao44 t845.length co44)) (fun _ h_ => h_.1))) hb); have n5_ := Aside0.mk (Kd.R_below (pR (Kd.R_mono (Kd.R_far (p := ⟨gb849, 1, none⟩) (Kd.R_far (p := ⟨gb849, 0, none⟩) (Kd.R_types HO840.out BK849.out (by decide)) (fun _ hk => hk.2) (.slice Ao39 t842.length co39)) (fun _ hk => hk.2) (.slice Ao44 t845.length co44)) (fun _ h_ => h_.1))) hb); have n6_ := Aside0.mk (Kd.R_below (pR (Kd.R_mono (Kd.R_far (p := ⟨gb849, 1, none⟩) (Kd.R_far (p := ⟨gb849, 0, none⟩) (Kd.R_types HO844.out BK849.out (by decide)) (fun _ hk => hk.2) (.slice Ao39 t842.length co39)) (fun _ hk => hk.2) (.slice Ao44 t845.length co44)) (fun _ h_ => h_.1))) hb); have n7_ := Aside0.mk (Kd.R_below (pR (Kd.R_mono (Kd.R_far (p := ⟨gb849, 1, none⟩) (Kd.R_far (p := ⟨gb849, 0, none⟩) (Kd.R_types HO847.out BK849.out (by decide)) (fun _ hk => hk.2) (.slice Ao39 t842.length co39)) (fun _ hk => hk.2) (.slice Ao44 t845.length co44)) (fun _ h_ => h_.1))) hb); have n8_ := Aside0.mk (blk_below (g := gb819) (o := .cells #[.slice A0_0 l0_0.length c0_0, .slice A0_1 l0_1.length c0_1] 34 (0, 0)) (by (with_reducible repeat (first | refine blk_drewN ?_ _ | refine blk_drew ?_ | refine blk_alloc ?_ _)); refine blk_far ?_ NB819_849.out _; (with_reducible repeat (first | refine blk_drewN ?_ _ | refine blk_drew ?_ | refine blk_alloc ?_ _)); refine blk_far ?_ NB819_849.out _; (with_reducible repeat (first | refine blk_drewN ?_ _ | refine blk_drew ?_ | refine blk_alloc ?_ _)); exact BK819.out) hb); have n9_ := Aside0.mk (blk_below (g := gb834) (o := .cells #[.slice Ao25 t827.length co25, .slice Ao28 t830.length co28] 26 (0, 0)) (by (with_reducible repeat (first | refine blk_drewN ?_ _ | refine blk_drew ?_ | refine blk_alloc ?_ _)); refine blk_far ?_ NB834_849.out _; (with_reducible repeat (first | refine blk_drewN ?_ _ | refine blk_drew ?_ | refine blk_alloc ?_ _)); refine blk_far ?_ NB834_849.out _; (with_reducible repeat (first | refine blk_drewN ?_ _ | refine blk_drew ?_ | refine blk_alloc ?_ _)); exact BK834.out) hb); have n10_ := Aside0.mk (blk_below (g := gb841) (o := .cells #[.slice Ao32 t835.length co32, .slice Ao36 t838.length co36] 26 (0, 0)) (by (with_reducible repeat (first | refine blk_drewN ?_ _ | refine blk_drew ?_ | refine blk_alloc ?_ _)); refine blk_far ?_ NB841_849.out _; (with_reducible repeat (first | refine blk_drewN ?_ _ | refine blk_drew ?_ | refine blk_alloc ?_ _)); refine blk_far ?_ NB841_849.out _; (with_reducible repeat (first | refine blk_drewN ?_ _ | refine blk_drew ?_ | refine blk_alloc ?_ _)); exact BK841.out) hb); have n11_ := Aside0.mk (blk_below (g := gb849) (o := .cells #[.slice Ao39 t842.length co39, .slice Ao44 t845.length co44] 26 (0, 0)) (by (with_reducible repeat (first | refine blk_drewN ?_ _ | refine blk_drew ?_ | refine blk_alloc ?_ _)); refine blk_put (cs := #[.slice Ao39 t842.length co39, .slice none 0 0]) ?_ 1 _ rfl; (with_reducible repeat (first | refine blk_drewN ?_ _ | refine blk_drew ?_ | refine blk_alloc ?_ _)); refine blk_put (cs := #[.slice none 0 0, .slice none 0 0]) ?_ 0 _ rfl; (with_reducible repeat (first | refine blk_drewN ?_ _ | refine blk_drew ?_ | refine blk_alloc ?_ _)); exact BK849.out) hb); have n12_ := Aside0.mk (below_step (by repeat (first | (with_reducible first | exact HB.out | apply below_alloc | apply pw_below_drewN | apply below_drew1 | refine below_set ?_ GE819.out | refine below_set ?_ GE834.out | refine below_set ?_ GE841.out | refine below_set ?_ GE849.out) | exact HB.out)) hb); clear HO823; clear HO826; clear HO829; clear HO832; clear HO837; clear HO840; clear HO844; clear HO847; clear BK819; clear BK834; clear BK841; clear BK849; clear HB; have HO823 := n0_; have HO826 := n1_; have HO829 := n2_; have HO832 := n3_; have HO837 := n4_; have HO840 := n5_; have HO844 := n6_; have HO847 := n7_; have BK819 := n8_; have BK834 := n9_; have BK841 := n10_; have BK849 := n11_; have HB := n12_; clear n0_ n1_ n2_ n3_ n4_ n5_ n6_ n7_ n8_ n9_ n10_ n11_ n12_; (try clear hb); (try clear hb2); (try clear hk); (try clear hi)))
     go_meet
     case rel => exact ⟨_, (true), (by first | rfl | (simp; done) | (simp [*]; done)), H', ⟨by first | omega | exact Nat.le_refl _⟩, ⟨pR (Kd.R_mono HO829.out (fun _ hk => ⟨hk.1.2, hk.2⟩))⟩, ⟨pR (Kd.R_mono HO832.out (fun _ hk => ⟨hk.1.2, hk.2⟩))⟩, ⟨pR (Kd.R_mono HO837.out (fun _ hk => ⟨hk.1.2, hk.2⟩))⟩, ⟨pR (Kd.R_mono HO840.out (fun _ hk => ⟨hk.1.2, hk.2⟩))⟩, ⟨pR (Kd.R_mono HO844.out (fun _ hk => ⟨hk.1.2, hk.2⟩))⟩, ⟨pR (Kd.R_mono HO847.out (fun _ hk => ⟨hk.1.2, hk.2⟩))⟩, ⟨pK BK819.out⟩, ⟨pK BK834.out⟩, ⟨pK BK841.out⟩, ⟨pK BK849.out⟩, ⟨by repeat (first | (with_reducible first | exact HB.out | apply below_alloc | apply pw_below_drewN | apply below_drew1 | refine below_set ?_ GE819.out | refine below_set ?_ GE834.out | refine below_set ?_ GE841.out | refine below_set ?_ GE849.out) | exact HB.out)⟩⟩
   case rest =>
    clear HC15
    try clear c1
    try clear c2
    try clear p2
    try clear c3
    try clear c4
    try clear c4b0
    try clear c4b1
    try clear c5
    try clear c6
    try clear c7
    try clear c7b0
    try clear c13
    try clear c17
    try clear c22
    try clear c24
    try clear c26
    try clear c29
    try clear c30
    try clear c33
    try clear c34
    try clear c40
    try clear c41
    try clear c42
    try clear c46
    try clear c47
    try clear c48
    try clear c49
    try clear c51
    try clear c52
    try clear c55
    try clear c56
    try clear c57
    try clear c59
    try clear c60
    try clear hcz17_0
    try clear hcz17_1
    try clear hcz19_0
    try clear hcz19_1
    try clear hcz27_0
    try clear hcz27_1
    try clear hcz29_0
    try clear hcz29_1
    try clear hcz35_0
    try clear hcz35_1
    try clear hcz43_0
    try clear hcz43_1
    try clear hcz50_0
    try clear hcz50_1
    try clear hcz53_0
    try clear hcz53_1
    try clear hcz58_0
    try clear hcz58_1
    try clear hcz61_0
    try clear hcz61_1
    try clear hcz9_0
    try clear hcz9_1
    try clear hfz17_0
    try clear hfz17_1
    try clear hfz19_0
    try clear hfz19_1
    try clear hfz27_0
    try clear hfz27_1
    try clear hfz29_0
    try clear hfz29_1
    try clear hfz35_0
    try clear hfz35_1
    try clear hfz43_0
    try clear hfz43_1
    try clear hfz50_0
    try clear hfz50_1
    try clear hfz53_0
    try clear hfz53_1
    try clear hfz58_0
    try clear hfz58_1
    try clear hfz61_0
    try clear hfz61_1
    try clear hfz9_0
    try clear hfz9_1
    obtain ⟨kq, x51_14, rfl, HA, HJ14, HO_835000, HO_835001, HO_842000, HO_842001, HO_850000, HO_850001, BK819, BK834, BK841, BK849, HB⟩ := hcut
    cases kq with
    | zero => exact absurd HA.out (by simp [laws_FnExactSecPut.j0])
    | succ kj14 =>
     have H := HA.out
     clear HA
     simp only [laws_FnExactSecPut.j0] at H
     by_cases c63 : x51_14 = true
     ·subst c63
      have H1 : (some false) = some r := by rw [if_pos rfl] at H; exact H
      clear H
      have H := H1
      clear H1
      obtain rfl := Option.some.inj H
      go_wp2
      go_ret
      exact ⟨by first | rfl | (simp [errW_none, errW_some] <;> rfl) | (simp [*, errW_none, errW_some] <;> rfl), by repeat (first | (with_reducible first | exact HB.out | apply below_alloc | apply pw_below_drewN | apply below_drew1 | refine below_set ?_ GE819.out | refine below_set ?_ GE834.out | refine below_set ?_ GE841.out | refine below_set ?_ GE849.out) | exact HB.out)⟩
     ·replace c63 := Bool.eq_false_iff.mpr c63
      subst c63
      have H1 : ((laws_toSecDisk.f kj14 l0_0 l0_1).bind fun bt851 => ((laws_eqSecDisk.f kj14 t835 t838 bt851.1 bt851.2).bind fun t857 => (if t857 = true then ((laws_markSecDisk.f kj14 t835 t838 1).bind fun bt858 => (if bt858.1 < 0 then (laws_FnExactSecPut.j1 kj14 a1 a2 t833 true l0_0 l0_1 t827 t830 t842 t845) else ((laws_eqSecDisk.f kj14 t842 t845 t827 t830).bind fun t861 => (if t861 = true then (laws_FnExactSecPut.j1 kj14 a1 a2 t833 (t848 != t833) l0_0 l0_1 t827 t830 t842 t845) else (laws_FnExactSecPut.j1 kj14 a1 a2 t833 true l0_0 l0_1 t827 t830 t842 t845))))) else (some false)))) = some r := by rw [if_neg (show ¬ (false = true) by decide)] at H; exact H
      clear H
      have H := H1
      clear H1
      replace H := Option.bind_eq_some_iff.mp H
      obtain ⟨⟨t851, t854⟩, A640, H⟩ := H
      replace H : ((laws_eqSecDisk.f kj14 t835 t838 t851 t854).bind fun t857 => (if t857 = true then ((laws_markSecDisk.f kj14 t835 t838 1).bind fun bt858 => (if bt858.1 < 0 then (laws_FnExactSecPut.j1 kj14 a1 a2 t833 true l0_0 l0_1 t827 t830 t842 t845) else ((laws_eqSecDisk.f kj14 t842 t845 t827 t830).bind fun t861 => (if t861 = true then (laws_FnExactSecPut.j1 kj14 a1 a2 t833 (t848 != t833) l0_0 l0_1 t827 t830 t842 t845) else (laws_FnExactSecPut.j1 kj14 a1 a2 t833 true l0_0 l0_1 t827 t830 t842 t845))))) else (some false))) = some r := H
      have A64 := Aside0.mk A640
      clear A640
      replace H := Option.bind_eq_some_iff.mp H
      obtain ⟨t857, A650, H⟩ := H
      replace H : (if t857 = true then ((laws_markSecDisk.f kj14 t835 t838 1).bind fun bt858 => (if bt858.1 < 0 then (laws_FnExactSecPut.j1 kj14 a1 a2 t833 true l0_0 l0_1 t827 t830 t842 t845) else ((laws_eqSecDisk.f kj14 t842 t845 t827 t830).bind fun t861 => (if t861 = true then (laws_FnExactSecPut.j1 kj14 a1 a2 t833 (t848 != t833) l0_0 l0_1 t827 t830 t842 t845) else (laws_FnExactSecPut.j1 kj14 a1 a2 t833 true l0_0 l0_1 t827 t830 t842 t845))))) else (some false)) = some r := H
      have A65 := Aside0.mk A650
      clear A650
      by_cases c66 : t857 = true
      ·subst c66
       have H1 : ((laws_markSecDisk.f kj14 t835 t838 1).bind fun bt858 => (if bt858.1 < 0 then (laws_FnExactSecPut.j1 kj14 a1 a2 t833 true l0_0 l0_1 t827 t830 t842 t845) else ((laws_eqSecDisk.f kj14 t842 t845 t827 t830).bind fun t861 => (if t861 = true then (laws_FnExactSecPut.j1 kj14 a1 a2 t833 (t848 != t833) l0_0 l0_1 t827 t830 t842 t845) else (laws_FnExactSecPut.j1 kj14 a1 a2 t833 true l0_0 l0_1 t827 t830 t842 t845))))) = some r := by rw [if_pos rfl] at H; exact H
       clear H
       have H := H1
       clear H1
       replace H := Option.bind_eq_some_iff.mp H
       obtain ⟨⟨t858, t859, t860⟩, A670, H⟩ := H
       replace H : (if t858 < 0 then (laws_FnExactSecPut.j1 kj14 a1 a2 t833 true l0_0 l0_1 t827 t830 t842 t845) else ((laws_eqSecDisk.f kj14 t842 t845 t827 t830).bind fun t861 => (if t861 = true then (laws_FnExactSecPut.j1 kj14 a1 a2 t833 (t848 != t833) l0_0 l0_1 t827 t830 t842 t845) else (laws_FnExactSecPut.j1 kj14 a1 a2 t833 true l0_0 l0_1 t827 t830 t842 t845)))) = some r := H
       have A67 := Aside0.mk A670
       clear A670
       have HC68 := Aside0.mk H
       clear H
       try go_wp2
       have n0_ := Aside0.mk (Kd.R_drew HO_835000.out)
       have n1_ := Aside0.mk (Kd.R_drew HO_835001.out)
       have n2_ := Aside0.mk (Kd.R_drew HO_842000.out)
       have n3_ := Aside0.mk (Kd.R_drew HO_842001.out)
       have n4_ := Aside0.mk (Kd.R_drew HO_850000.out)
       have n5_ := Aside0.mk (Kd.R_drew HO_850001.out)
       have n6_ := Aside0.mk (blk_drew BK819.out)
       have n7_ := Aside0.mk (blk_drew BK834.out)
       have n8_ := Aside0.mk (blk_drew BK841.out)
       have n9_ := Aside0.mk (blk_drew BK849.out)
       have n10_ := Aside0.mk (below_drew1 HB.out)
       clear HO_835000
       clear HO_835001
       clear HO_842000
       clear HO_842001
       clear HO_850000
       clear HO_850001
       clear BK819
       clear BK834
       clear BK841
       clear BK849
       clear HB
       have HO_835000 := n0_
       have HO_835001 := n1_
       have HO_842000 := n2_
       have HO_842001 := n3_
       have HO_850000 := n4_
       have HO_850001 := n5_
       have BK819 := n6_
       have BK834 := n7_
       have BK841 := n8_
       have BK849 := n9_
       have HB := n10_
       clear n0_ n1_ n2_ n3_ n4_ n5_ n6_ n7_ n8_ n9_ n10_
       refine start_ (n := 5) (S := fun w' => w'.cell? ⟨gb841, 0, none⟩ = some (.slice Ao32 t835.length co32) ∧ w'.cell? ⟨gb841, 1, none⟩ = some (.slice Ao36 t838.length co36) ∧ w'.cell? ⟨gb819, 0, none⟩ = some (.slice A0_0 l0_0.length c0_0) ∧ w'.cell? ⟨gb819, 1, none⟩ = some (.slice A0_1 l0_1.length c0_1)) (ds := []) #[false, false, false, false, false] (by kernel_rfl) rfl rfl ⟨(blk_cell BK841.out 0).trans rfl, (blk_cell BK841.out 1).trans rfl, (blk_cell BK819.out 0).trans rfl, (blk_cell BK819.out 1).trans rfl⟩ (fun hHeld => ?_)
       generalize wc.drew = w69 at HO_835000 HO_835001 HO_842000 HO_842001 HO_850000 HO_850001 BK819 BK834 BK841 BK849 HB hHeld ⊢
       refine take_ (i := 0) (N := some 52) (v := ?_) (a' := ?_) #[true, false, false, false, false] rfl rfl (by kernel_rfl) (fun _ _ _ h => h) (Or.inl ⟨by rfl, ?_⟩) hHeld ?_ ?_
       rotate_left
       ·rintro w' ⟨s0, s1, s2, s3⟩
        go_simp
        with_reducible rfl
       rotate_left
       ·simp only [Act.put, List.setIfInBounds_toArray, List.set_cons_zero, List.set_cons_succ, i64_w, i32_w]
        rfl
       refine take_ (i := 1) (N := some 53) (v := ?_) (a' := ?_) #[true, true, false, false, false] rfl rfl (by kernel_rfl) (fun _ _ _ h => h) (Or.inl ⟨by rfl, ?_⟩) hHeld ?_ ?_
       rotate_left
       ·rintro w' ⟨s0, s1, s2, s3⟩
        go_simp
        with_reducible rfl
       rotate_left
       ·simp only [Act.put, List.setIfInBounds_toArray, List.set_cons_zero, List.set_cons_succ, i64_w, i32_w]
        rfl
       refine one_ (i := 2) (N := some 54) #[true, true, true, false, false] rfl rfl (by kernel_rfl) (by decide) (fun K hK => ?_)
       refine goes_ Try.func24 (by kernel_rfl) rfl #[.agg #[.slice A0_0 l0_0.length c0_0, .slice A0_1 l0_1.length c0_1]] (by rfl) rfl rfl bM ?_
       with_reducible refine (laws_toSecDisk.calls kj14 _ _ l0_0 _ _ l0_1 t851 t854 _ ?side1 ?side2 ?side3 ?side4 A64.out).mono ?_
       (case side1 => repeat (first | exact (Kd.C_below HR0_0.out HB.out) | (with_reducible refine Kd.C_alloc ?_ _) | (with_reducible refine Kd.C_drewN ?_ _) | (with_reducible refine Kd.C_drew ?_)))
       (case side2 => exact HC0_0.out)
       (case side3 => repeat (first | exact (Kd.C_below HR0_1.out HB.out) | (with_reducible refine Kd.C_alloc ?_ _) | (with_reducible refine Kd.C_drewN ?_ _) | (with_reducible refine Kd.C_drew ?_)))
       (case side4 => exact HC0_1.out)
       rintro e w70 ⟨v852, v855, rfl, ho0, ho1, hb⟩
       refine ⟨_, rfl, ?_⟩
       have n0_ := Aside0.mk (Kd.R_elder' (pR HO_835000.out) (Kd.R_base ho0) hb)
       have n1_ := Aside0.mk (Kd.R_elder' (pR HO_835001.out) (Kd.R_base ho1) hb)
       have n2_ := Aside0.mk (Kd.R_elder' (pR HO_842000.out) (Kd.R_base ho0) hb)
       have n3_ := Aside0.mk (Kd.R_elder' (pR HO_842001.out) (Kd.R_base ho1) hb)
       have n4_ := Aside0.mk (Kd.R_elder' (pR HO_850000.out) (Kd.R_base ho0) hb)
       have n5_ := Aside0.mk (Kd.R_elder' (pR HO_850001.out) (Kd.R_base ho1) hb)
       have n6_ := Aside0.mk (Kd.R_lower (Kd.R_new' (Kd.R_new' (Kd.R_new' ho0 (Kd.R_lt (pR HO_835000.out))) (Kd.R_lt (pR HO_842000.out))) (Kd.R_lt (pR HO_850000.out))) (below_size (by repeat (first | (with_reducible first | exact HB.out | apply below_alloc | apply pw_below_drewN | apply below_drew1 | refine below_set ?_ GE819.out | refine below_set ?_ GE834.out | refine below_set ?_ GE841.out | refine below_set ?_ GE849.out) | exact HB.out))))
       have n7_ := Aside0.mk (Kd.R_lower (Kd.R_new' (Kd.R_new' (Kd.R_new' ho1 (Kd.R_lt (pR HO_835001.out))) (Kd.R_lt (pR HO_842001.out))) (Kd.R_lt (pR HO_850001.out))) (below_size (by repeat (first | (with_reducible first | exact HB.out | apply below_alloc | apply pw_below_drewN | apply below_drew1 | refine below_set ?_ GE819.out | refine below_set ?_ GE834.out | refine below_set ?_ GE841.out | refine below_set ?_ GE849.out) | exact HB.out))))
       have n8_ := Aside0.mk (blk_below (g := gb819) (o := .cells #[.slice A0_0 l0_0.length c0_0, .slice A0_1 l0_1.length c0_1] 34 (0, 0)) (pK BK819.out) hb)
       have n9_ := Aside0.mk (blk_below (g := gb834) (o := .cells #[.slice Ao25 t827.length co25, .slice Ao28 t830.length co28] 26 (0, 0)) (pK BK834.out) hb)
       have n10_ := Aside0.mk (blk_below (g := gb841) (o := .cells #[.slice Ao32 t835.length co32, .slice Ao36 t838.length co36] 26 (0, 0)) (pK BK841.out) hb)
       have n11_ := Aside0.mk (blk_below (g := gb849) (o := .cells #[.slice Ao39 t842.length co39, .slice Ao44 t845.length co44] 26 (0, 0)) (pK BK849.out) hb)
       have n12_ := Aside0.mk (below_step (by repeat (first | (with_reducible first | exact HB.out | apply below_alloc | apply pw_below_drewN | apply below_drew1 | refine below_set ?_ GE819.out | refine below_set ?_ GE834.out | refine below_set ?_ GE841.out | refine below_set ?_ GE849.out) | exact HB.out)) hb)
       clear HO_835000
       clear HO_835001
       clear HO_842000
       clear HO_842001
       clear HO_850000
       clear HO_850001
       clear BK819
       clear BK834
       clear BK841
       clear BK849
       clear HB
       have HO_835000 := n0_
       have HO_835001 := n1_
       have HO_842000 := n2_
       have HO_842001 := n3_
       have HO_850000 := n4_
       have HO_850001 := n5_
       have HO853 := n6_
       have HO856 := n7_
       have BK819 := n8_
       have BK834 := n9_
       have BK841 := n10_
       have BK849 := n11_
       have HB := n12_
       clear n0_ n1_ n2_ n3_ n4_ n5_ n6_ n7_ n8_ n9_ n10_ n11_ n12_
       (try clear hb)
       (try clear hb2)
       (try clear hk)
       (try clear hi)
       (try clear ho0)
       (try clear ho1)
       obtain ⟨Ao71, co71, eo71⟩ := Kd.R_slice HO853.out
       (first | subst eo71 | (injection eo71 with f1_ f2_ f3_; have f4_ := f1_.symm; have f5_ := f3_.symm; clear f1_ f2_ f3_; subst f4_; subst f5_))
       obtain ⟨Ao72, co72, eo72⟩ := Kd.R_slice HO856.out
       (first | subst eo72 | (injection eo72 with f1_ f2_ f3_; have f4_ := f1_.symm; have f5_ := f3_.symm; clear f1_ f2_ f3_; subst f4_; subst f5_))
       refine hK.out _ _ ⟨(blk_cell BK841.out 0).trans rfl, (blk_cell BK841.out 1).trans rfl, (blk_cell BK819.out 0).trans rfl, (blk_cell BK819.out 1).trans rfl⟩ (fun hHeld => ?_)
       clear hK K
       refine norm_ (a' := ?_) ?_ ?_
       rotate_left
       ·show Act.put _ (some 54) _ = _
        simp only [Act.put, List.setIfInBounds_toArray, List.set_cons_zero, List.set_cons_succ, i64_w, i32_w]
        rfl
       refine one_ (i := 3) (N := some 55) #[true, true, true, true, false] rfl rfl (by kernel_rfl) (by decide) (fun K hK => ?_)
       refine goes_ Try.func17 (by kernel_rfl) rfl #[.agg #[.slice Ao32 t835.length co32, .slice Ao36 t838.length co36], .agg #[.slice Ao71 t851.length co71, .slice Ao72 t854.length co72]] (by rfl) rfl rfl bM ?_
       with_reducible refine (laws_eqSecDisk.calls kj14 _ _ t835 _ _ t838 _ _ t851 _ _ t854 true _ ?side1 ?side2 ?side3 ?side4 ?side5 ?side6 ?side7 ?side8 A65.out).mono ?_
       (case side1 => exact pC (Kd.R_reads' HO_842000.out).2.2)
       (case side2 => exact (Kd.R_reads' HO_842000.out).2.1)
       (case side3 => exact pC (Kd.R_reads' HO_842001.out).2.2)
       (case side4 => exact (Kd.R_reads' HO_842001.out).2.1)
       (case side5 => exact pC (Kd.R_reads' HO853.out).2.2)
       (case side6 => exact (Kd.R_reads' HO853.out).2.1)
       (case side7 => exact pC (Kd.R_reads' HO856.out).2.2)
       (case side8 => exact (Kd.R_reads' HO856.out).2.1)
       rintro e w73 ⟨rfl, hb⟩
       refine ⟨_, rfl, ?_⟩
       have n0_ := Aside0.mk (Kd.R_below (pR HO_835000.out) hb)
       have n1_ := Aside0.mk (Kd.R_below (pR HO_835001.out) hb)
       have n2_ := Aside0.mk (Kd.R_below (pR HO_842000.out) hb)
       have n3_ := Aside0.mk (Kd.R_below (pR HO_842001.out) hb)
       have n4_ := Aside0.mk (Kd.R_below (pR HO_850000.out) hb)
       have n5_ := Aside0.mk (Kd.R_below (pR HO_850001.out) hb)
       have n6_ := Aside0.mk (Kd.R_below (pR HO853.out) hb)
       have n7_ := Aside0.mk (Kd.R_below (pR HO856.out) hb)
       have n8_ := Aside0.mk (blk_below (g := gb819) (o := .cells #[.slice A0_0 l0_0.length c0_0, .slice A0_1 l0_1.length c0_1] 34 (0, 0)) (pK BK819.out) hb)
       have n9_ := Aside0.mk (blk_below (g := gb834) (o := .cells #[.slice Ao25 t827.length co25, .slice Ao28 t830.length co28] 26 (0, 0)) (pK BK834.out) hb)
       have n10_ := Aside0.mk (blk_below (g := gb841) (o := .cells #[.slice Ao32 t835.length co32, .slice Ao36 t838.length co36] 26 (0, 0)) (pK BK841.out) hb)
       have n11_ := Aside0.mk (blk_below (g := gb849) (o := .cells #[.slice Ao39 t842.length co39, .slice Ao44 t845.length co44] 26 (0, 0)) (pK BK849.out) hb)
       have n12_ := Aside0.mk (below_step (by repeat (first | (with_reducible first | exact HB.out | apply below_alloc | apply pw_below_drewN | apply below_drew1 | refine below_set ?_ GE819.out | refine below_set ?_ GE834.out | refine below_set ?_ GE841.out | refine below_set ?_ GE849.out) | exact HB.out)) hb)
       clear HO_835000
       clear HO_835001
       clear HO_842000
       clear HO_842001
       clear HO_850000
       clear HO_850001
       clear HO853
       clear HO856
       clear BK819
       clear BK834
       clear BK841
       clear BK849
       clear HB
       have HO_835000 := n0_
       have HO_835001 := n1_
       have HO_842000 := n2_
       have HO_842001 := n3_
       have HO_850000 := n4_
       have HO_850001 := n5_
       have HO853 := n6_
       have HO856 := n7_
       have BK819 := n8_
       have BK834 := n9_
       have BK841 := n10_
       have BK849 := n11_
       have HB := n12_
       clear n0_ n1_ n2_ n3_ n4_ n5_ n6_ n7_ n8_ n9_ n10_ n11_ n12_
       (try clear hb)
       (try clear hb2)
       (try clear hk)
       (try clear hi)
       refine hK.out _ _ ⟨(blk_cell BK841.out 0).trans rfl, (blk_cell BK841.out 1).trans rfl, (blk_cell BK819.out 0).trans rfl, (blk_cell BK819.out 1).trans rfl⟩ (fun hHeld => ?_)
       clear hK K
       refine norm_ (a' := ?_) ?_ ?_
       rotate_left
       ·show Act.put _ (some 55) _ = _
        simp only [Act.put, List.setIfInBounds_toArray, List.set_cons_zero, List.set_cons_succ, i64_w, i32_w]
        rfl
       refine pure_ (i := 4) (N := some 56) (v := ?_) (a' := ?_) #[true, true, true, true, true] rfl rfl (by kernel_rfl) (fun _ _ _ h => h) (Or.inl ⟨by rfl, ?_⟩) ?_ ?_
       rotate_left
       ·intro w'
        go_simp
        with_reducible rfl
       rotate_left
       ·simp only [Act.put, List.setIfInBounds_toArray, List.set_cons_zero, List.set_cons_succ, i64_w, i32_w]
        rfl
       refine done_ (by kernel_rfl) ?_
       have hnb74 := NB841_819.out
       have hnc74 := NB819_841.out
       have hnb75 := NB841_834.out
       have hnc75 := NB834_841.out
       have hnb76 := NB841_849.out
       have hnc76 := NB849_841.out
       have hcz77_0 : w73.cell? ⟨gb841, 0, none⟩ = some (.slice Ao32 t835.length co32) := (blk_cell BK841.out 0).trans rfl
       have hcz77_1 : w73.cell? ⟨gb841, 1, none⟩ = some (.slice Ao36 t838.length co36) := (blk_cell BK841.out 1).trans rfl
       have hfz77_0 := blk_frozen BK841.out 0
       have hfz77_1 := blk_frozen BK841.out 1
       go_upto_region 16 with (first | ((with_reducible refine gate_callee (f := 18) rfl ?_); refine goesL_ (some 59) rfl rfl Try.func18 (by kernel_rfl) rfl #[.agg #[.slice Ao32 t835.length co32, .slice Ao36 t838.length co36], .int .i64 1] rfl bM ?_; (with_reducible refine (laws_markSecDisk.calls kj14 (fun k_ => some k_ = (.slice Ao32 t835.length co32 : Value).ownBlock) (.slice Ao32 t835.length co32) t835 (fun k_ => some k_ = (.slice Ao36 t838.length co36 : Value).ownBlock) (.slice Ao36 t838.length co36) t838 1 t858 t859 t860 w _ ?side1 ?side2 ?side3 A67.out).mono ?_); (case side1 => repeat (first | (with_reducible first | exact HB.out | apply below_alloc | apply pw_below_drewN | apply below_drew1 | refine below_set ?_ GE819.out | refine below_set ?_ GE834.out | refine below_set ?_ GE841.out | refine below_set ?_ GE849.out) | exact HB.out)); (case side2 => exact Kd.R_tight rfl HO_842000.out); (case side3 => exact Kd.R_tight rfl HO_842001.out); rintro e w78 ⟨rfl, hy0, hy1, hb, hkp⟩; refine ⟨_, rfl, ?_⟩; have n0_ := Aside0.mk (Kd.R_mono (ok' := fun k_ => some k_ ≠ (.slice Ao32 t835.length co32 : Value).ownBlock ∧ some k_ ≠ (.slice Ao39 t842.length co39 : Value).ownBlock ∧ some k_ ≠ (.slice Ao71 t851.length co71 : Value).ownBlock) (Kd.R_keptB ((Kd.R_apart' HO_835000.out (Kd.R_typed HO_842001.out) (by decide))) hkp (fun k_ hk_ hs_ => Or.elim hs_ (fun e_ => (hk_.1.1.1) e_) (fun e_ => (hk_.2) e_))) (fun k_ hk_ => ⟨hk_.1.1.1.1, hk_.1.1.1.2, hk_.1.1.2⟩)); have n1_ := Aside0.mk (Kd.R_mono (ok' := fun k_ => some k_ ≠ (.slice Ao36 t838.length co36 : Value).ownBlock ∧ some k_ ≠ (.slice Ao44 t845.length co44 : Value).ownBlock ∧ some k_ ≠ (.slice Ao72 t854.length co72 : Value).ownBlock) (Kd.R_keptB ((Kd.R_apart' HO_835001.out (Kd.R_typed HO_842000.out) (by decide))) hkp (fun k_ hk_ hs_ => Or.elim hs_ (fun e_ => (hk_.2) e_) (fun e_ => (hk_.1.1.1) e_))) (fun k_ hk_ => ⟨hk_.1.1.1.1, hk_.1.1.1.2, hk_.1.1.2⟩)); have n2_ := Aside0.mk (Kd.R_reok rfl hy0 (fun k_ e_ => HO_842000.out.1 k_ e_)); have n3_ := Aside0.mk (Kd.R_reok rfl hy1 (fun k_ e_ => HO_842001.out.1 k_ e_)); have n4_ := Aside0.mk (Kd.R_mono (ok' := fun k_ => some k_ ≠ (.slice Ao25 t827.length co25 : Value).ownBlock ∧ some k_ ≠ (.slice Ao32 t835.length co32 : Value).ownBlock ∧ some k_ ≠ (.slice Ao71 t851.length co71 : Value).ownBlock) (Kd.R_keptB ((Kd.R_apart' HO_850000.out (Kd.R_typed HO_842001.out) (by decide))) hkp (fun k_ hk_ hs_ => Or.elim hs_ (fun e_ => (hk_.1.1.2) e_) (fun e_ => (hk_.2) e_))) (fun k_ hk_ => ⟨hk_.1.1.1.1, hk_.1.1.1.2, hk_.1.1.2⟩)); have n5_ := Aside0.mk (Kd.R_mono (ok' := fun k_ => some k_ ≠ (.slice Ao28 t830.length co28 : Value).ownBlock ∧ some k_ ≠ (.slice Ao36 t838.length co36 : Value).ownBlock ∧ some k_ ≠ (.slice Ao72 t854.length co72 : Value).ownBlock) (Kd.R_keptB ((Kd.R_apart' HO_850001.out (Kd.R_typed HO_842000.out) (by decide))) hkp (fun k_ hk_ hs_ => Or.elim hs_ (fun e_ => (hk_.2) e_) (fun e_ => (hk_.1.1.2) e_))) (fun k_ hk_ => ⟨hk_.1.1.1.1, hk_.1.1.1.2, hk_.1.1.2⟩)); have n6_ := Aside0.mk (blk_kept (pK BK819.out) hkp (fun hs_ => Or.elim hs_ (fun e_ => (fun e_ => (Kd.R_ne HO_842000.out BK819.out (by decide)) e_) e_) (fun e_ => (fun e_ => (Kd.R_ne HO_842001.out BK819.out (by decide)) e_) e_))); have n7_ := Aside0.mk (blk_kept (pK BK834.out) hkp (fun hs_ => Or.elim hs_ (fun e_ => (fun e_ => (Kd.R_ne HO_842000.out BK834.out (by decide)) e_) e_) (fun e_ => (fun e_ => (Kd.R_ne HO_842001.out BK834.out (by decide)) e_) e_))); have n8_ := Aside0.mk (blk_kept (pK BK841.out) hkp (fun hs_ => Or.elim hs_ (fun e_ => (fun e_ => (Kd.R_ne HO_842000.out BK841.out (by decide)) e_) e_) (fun e_ => (fun e_ => (Kd.R_ne HO_842001.out BK841.out (by decide)) e_) e_))); have n9_ := Aside0.mk (blk_kept (pK BK849.out) hkp (fun hs_ => Or.elim hs_ (fun e_ => (fun e_ => (Kd.R_ne HO_842000.out BK849.out (by decide)) e_) e_) (fun e_ => (fun e_ => (Kd.R_ne HO_842001.out BK849.out (by decide)) e_) e_))); have n10_ := Aside0.mk (Kd.R_mono (ok' := fun k_ => some k_ ≠ (.slice Ao25 t827.length co25 : Value).ownBlock ∧ some k_ ≠ (.slice Ao32 t835.length co32 : Value).ownBlock ∧ some k_ ≠ (.slice Ao39 t842.length co39 : Value).ownBlock) (Kd.R_keptB ((Kd.R_apart' HO853.out (Kd.R_typed HO_842001.out) (by decide))) hkp (fun k_ hk_ hs_ => Or.elim hs_ (fun e_ => (hk_.1.1.2) e_) (fun e_ => (hk_.2) e_))) (fun k_ hk_ => ⟨hk_.1.1.1.1.2, hk_.1.1.1.2, hk_.1.1.2⟩)); have n11_ := Aside0.mk (Kd.R_mono (ok' := fun k_ => some k_ ≠ (.slice Ao28 t830.length co28 : Value).ownBlock ∧ some k_ ≠ (.slice Ao36 t838.length co36 : Value).ownBlock ∧ some k_ ≠ (.slice Ao44 t845.length co44 : Value).ownBlock) (Kd.R_keptB ((Kd.R_apart' HO856.out (Kd.R_typed HO_842000.out) (by decide))) hkp (fun k_ hk_ hs_ => Or.elim hs_ (fun e_ => (hk_.2) e_) (fun e_ => (hk_.1.1.2) e_))) (fun k_ hk_ => ⟨hk_.1.1.1.1.2, hk_.1.1.1.2, hk_.1.1.2⟩)); have n12_ := Aside0.mk (hb); clear HO_835000; clear HO_835001; clear HO_842000; clear HO_842001; clear HO_850000; clear HO_850001; clear BK819; clear BK834; clear BK841; clear BK849; clear HO853; clear HO856; clear HB; have HO_835000 := n0_; have HO_835001 := n1_; have HO_842000 := n2_; have HO_842001 := n3_; have HO_850000 := n4_; have HO_850001 := n5_; have BK819 := n6_; have BK834 := n7_; have BK841 := n8_; have BK849 := n9_; have HO853 := n10_; have HO856 := n11_; have HB := n12_; clear n0_ n1_ n2_ n3_ n4_ n5_ n6_ n7_ n8_ n9_ n10_ n11_ n12_; (try clear hb); (try clear hkp); (try clear hy0); (try clear hy1)))
       (try simp only [Act.put, List.setIfInBounds_toArray, List.set_cons_zero, List.set_cons_succ])
       go_cut [72] (fun v72 wc => ∃ (kq : Nat) (x72_67 : Bool), v72 = .bool x72_67 ∧ Aside0 (laws_FnExactSecPut.j1 kq a1 a2 t833 x72_67 l0_0 l0_1 t827 t830 t842 t845 = some r) ∧ Aside0 (kq ≤ kj14) ∧ Aside0 (Kd.R Kd.string 9 wc w.heap.size (fun k_ => some k_ ≠ ((.slice Ao32 t835.length co32) : Value).ownBlock ∧ some k_ ≠ ((.slice Ao39 t842.length co39) : Value).ownBlock) (.slice Ao25 t827.length co25) t827) ∧ Aside0 (Kd.R k54 54 wc w.heap.size (fun k_ => some k_ ≠ ((.slice Ao36 t838.length co36) : Value).ownBlock ∧ some k_ ≠ ((.slice Ao44 t845.length co44) : Value).ownBlock) (.slice Ao28 t830.length co28) t830) ∧ Aside0 (Kd.R Kd.string 9 wc w.heap.size (fun k_ => some k_ ≠ ((.slice Ao25 t827.length co25) : Value).ownBlock ∧ some k_ ≠ ((.slice Ao39 t842.length co39) : Value).ownBlock) (.slice Ao32 t835.length co32) t859) ∧ Aside0 (Kd.R k54 54 wc w.heap.size (fun k_ => some k_ ≠ ((.slice Ao28 t830.length co28) : Value).ownBlock ∧ some k_ ≠ ((.slice Ao44 t845.length co44) : Value).ownBlock) (.slice Ao36 t838.length co36) t860) ∧ Aside0 (Kd.R Kd.string 9 wc w.heap.size (fun k_ => some k_ ≠ ((.slice Ao25 t827.length co25) : Value).ownBlock ∧ some k_ ≠ ((.slice Ao32 t835.length co32) : Value).ownBlock) (.slice Ao39 t842.length co39) t842) ∧ Aside0 (Kd.R k54 54 wc w.heap.size (fun k_ => some k_ ≠ ((.slice Ao28 t830.length co28) : Value).ownBlock ∧ some k_ ≠ ((.slice Ao36 t838.length co36) : Value).ownBlock) (.slice Ao44 t845.length co44) t845) ∧ Aside0 (wc.heap[gb819]? = some (.cells #[(.slice A0_0 l0_0.length c0_0), (.slice A0_1 l0_1.length c0_1)] 34 (0, 0))) ∧ Aside0 (wc.heap[gb834]? = some (.cells #[(.slice Ao25 t827.length co25), (.slice Ao28 t830.length co28)] 26 (0, 0))) ∧ Aside0 (wc.heap[gb841]? = some (.cells #[(.slice Ao32 t835.length co32), (.slice Ao36 t838.length co36)] 26 (0, 0))) ∧ Aside0 (wc.heap[gb849]? = some (.cells #[(.slice Ao39 t842.length co39), (.slice Ao44 t845.length co44)] 26 (0, 0))) ∧ Aside0 (Below w.heap.size w wc))
       case first =>
        have H := HC68.out
        clear HC68
        by_cases c79 : t858 < 0
        ·rw [if_pos c79] at H
         have c79b0 : decide (t858 < 0) = true := decide_eq_true c79
         clear c79
         (first | rw [c79b0] | (simp only [i64_w, i32_w]; rw [c79b0]) | skip)
         have H' := Aside0.mk H
         clear H
         go_wp2
         go_meet
         case rel => exact ⟨_, (true), (by first | rfl | (simp; done) | (simp [*]; done)), H', ⟨by have := HJ14.out; first | omega | exact Nat.le_refl _⟩, ⟨pR (Kd.R_mono HO_835000.out (fun _ hk => ⟨hk.1, hk.2.1⟩))⟩, ⟨pR (Kd.R_mono HO_835001.out (fun _ hk => ⟨hk.1, hk.2.1⟩))⟩, ⟨pR (Kd.R_mono HO_842000.out (fun _ hk => ⟨hk.1.1, hk.1.2⟩))⟩, ⟨pR (Kd.R_mono HO_842001.out (fun _ hk => ⟨hk.1.1, hk.1.2⟩))⟩, ⟨pR (Kd.R_mono HO_850000.out (fun _ hk => ⟨hk.1, hk.2.1⟩))⟩, ⟨pR (Kd.R_mono HO_850001.out (fun _ hk => ⟨hk.1, hk.2.1⟩))⟩, ⟨pK BK819.out⟩, ⟨pK BK834.out⟩, ⟨pK BK841.out⟩, ⟨pK BK849.out⟩, ⟨by repeat (first | (with_reducible first | exact HB.out | apply below_alloc | apply pw_below_drewN | apply below_drew1 | refine below_set ?_ GE819.out | refine below_set ?_ GE834.out | refine below_set ?_ GE841.out | refine below_set ?_ GE849.out) | exact HB.out)⟩⟩
        ·rw [if_neg c79] at H
         have c79b0 : decide (t858 < 0) = false := decide_eq_false c79
         clear c79
         (first | rw [c79b0] | (simp only [i64_w, i32_w]; rw [c79b0]) | skip)
         replace H := Option.bind_eq_some_iff.mp H
         obtain ⟨t861, A800, H⟩ := H
         replace H : (if t861 = true then (laws_FnExactSecPut.j1 kj14 a1 a2 t833 (t848 != t833) l0_0 l0_1 t827 t830 t842 t845) else (laws_FnExactSecPut.j1 kj14 a1 a2 t833 true l0_0 l0_1 t827 t830 t842 t845)) = some r := H
         have A80 := Aside0.mk A800
         clear A800
         by_cases c81 : t861 = true
         ·subst c81
          have H1 : (laws_FnExactSecPut.j1 kj14 a1 a2 t833 (t848 != t833) l0_0 l0_1 t827 t830 t842 t845) = some r := by rw [if_pos rfl] at H; exact H
          clear H
          have H := H1
          clear H1
          have H' := Aside0.mk H
          clear H
          have hnb82 := NB849_819.out
          have hnc82 := NB819_849.out
          have hnb83 := NB849_834.out
          have hnc83 := NB834_849.out
          have hnb84 := NB849_841.out
          have hnc84 := NB841_849.out
          have hcz85_0 : w78.cell? ⟨gb849, 0, none⟩ = some (.slice Ao39 t842.length co39) := (blk_cell BK849.out 0).trans rfl
          have hcz85_1 : w78.cell? ⟨gb849, 1, none⟩ = some (.slice Ao44 t845.length co44) := (blk_cell BK849.out 1).trans rfl
          have hfz85_0 := blk_frozen BK849.out 0
          have hfz85_1 := blk_frozen BK849.out 1
          have hnb86 := NB834_819.out
          have hnc86 := NB819_834.out
          have hnb87 := NB834_841.out
          have hnc87 := NB841_834.out
          have hcz88_0 : w78.cell? ⟨gb834, 0, none⟩ = some (.slice Ao25 t827.length co25) := (blk_cell BK834.out 0).trans rfl
          have hcz88_1 : w78.cell? ⟨gb834, 1, none⟩ = some (.slice Ao28 t830.length co28) := (blk_cell BK834.out 1).trans rfl
          have hfz88_0 := blk_frozen BK834.out 0
          have hfz88_1 := blk_frozen BK834.out 1
          go_wp2_with (first | (go_at_call 17; (with_reducible refine (laws_eqSecDisk.calls kj14 _ _ t842 _ _ t845 _ _ t827 _ _ t830 true _ ?side1 ?side2 ?side3 ?side4 ?side5 ?side6 ?side7 ?side8 A80.out).mono ?_); (case side1 => exact pC (Kd.R_reads' HO_850000.out).2.2); (case side2 => exact (Kd.R_reads' HO_850000.out).2.1); (case side3 => exact pC (Kd.R_reads' HO_850001.out).2.2); (case side4 => exact (Kd.R_reads' HO_850001.out).2.1); (case side5 => exact pC (Kd.R_reads' HO_835000.out).2.2); (case side6 => exact (Kd.R_reads' HO_835000.out).2.1); (case side7 => exact pC (Kd.R_reads' HO_835001.out).2.2); (case side8 => exact (Kd.R_reads' HO_835001.out).2.1); rintro e w89 ⟨rfl, hb⟩; have n0_ := Aside0.mk (Kd.R_below (pR HO_835000.out) hb); have n1_ := Aside0.mk (Kd.R_below (pR HO_835001.out) hb); have n2_ := Aside0.mk (Kd.R_below (pR HO_842000.out) hb); have n3_ := Aside0.mk (Kd.R_below (pR HO_842001.out) hb); have n4_ := Aside0.mk (Kd.R_below (pR HO_850000.out) hb); have n5_ := Aside0.mk (Kd.R_below (pR HO_850001.out) hb); have n6_ := Aside0.mk (Kd.R_below (pR HO853.out) hb); have n7_ := Aside0.mk (Kd.R_below (pR HO856.out) hb); have n8_ := Aside0.mk (blk_below (g := gb819) (o := .cells #[.slice A0_0 l0_0.length c0_0, .slice A0_1 l0_1.length c0_1] 34 (0, 0)) (pK BK819.out) hb); have n9_ := Aside0.mk (blk_below (g := gb834) (o := .cells #[.slice Ao25 t827.length co25, .slice Ao28 t830.length co28] 26 (0, 0)) (pK BK834.out) hb); have n10_ := Aside0.mk (blk_below (g := gb841) (o := .cells #[.slice Ao32 t835.length co32, .slice Ao36 t838.length co36] 26 (0, 0)) (pK BK841.out) hb); have n11_ := Aside0.mk (blk_below (g := gb849) (o := .cells #[.slice Ao39 t842.length co39, .slice Ao44 t845.length co44] 26 (0, 0)) (pK BK849.out) hb); have n12_ := Aside0.mk (below_step (by repeat (first | (with_reducible first | exact HB.out | apply below_alloc | apply pw_below_drewN | apply below_drew1 | refine below_set ?_ GE819.out | refine below_set ?_ GE834.out | refine below_set ?_ GE841.out | refine below_set ?_ GE849.out) | exact HB.out)) hb); clear HO_835000; clear HO_835001; clear HO_842000; clear HO_842001; clear HO_850000; clear HO_850001; clear HO853; clear HO856; clear BK819; clear BK834; clear BK841; clear BK849; clear HB; have HO_835000 := n0_; have HO_835001 := n1_; have HO_842000 := n2_; have HO_842001 := n3_; have HO_850000 := n4_; have HO_850001 := n5_; have HO853 := n6_; have HO856 := n7_; have BK819 := n8_; have BK834 := n9_; have BK841 := n10_; have BK849 := n11_; have HB := n12_; clear n0_ n1_ n2_ n3_ n4_ n5_ n6_ n7_ n8_ n9_ n10_ n11_ n12_; (try clear hb); (try clear hb2); (try clear hk); (try clear hi)))
          go_meet
          case rel => exact ⟨_, ((t848 != t833)), (by first | rfl | (simp; done) | (simp [*]; done)), H', ⟨by have := HJ14.out; first | omega | exact Nat.le_refl _⟩, ⟨pR (Kd.R_mono HO_835000.out (fun _ hk => ⟨hk.1, hk.2.1⟩))⟩, ⟨pR (Kd.R_mono HO_835001.out (fun _ hk => ⟨hk.1, hk.2.1⟩))⟩, ⟨pR (Kd.R_mono HO_842000.out (fun _ hk => ⟨hk.1.1, hk.1.2⟩))⟩, ⟨pR (Kd.R_mono HO_842001.out (fun _ hk => ⟨hk.1.1, hk.1.2⟩))⟩, ⟨pR (Kd.R_mono HO_850000.out (fun _ hk => ⟨hk.1, hk.2.1⟩))⟩, ⟨pR (Kd.R_mono HO_850001.out (fun _ hk => ⟨hk.1, hk.2.1⟩))⟩, ⟨pK BK819.out⟩, ⟨pK BK834.out⟩, ⟨pK BK841.out⟩, ⟨pK BK849.out⟩, ⟨by repeat (first | (with_reducible first | exact HB.out | apply below_alloc | apply pw_below_drewN | apply below_drew1 | refine below_set ?_ GE819.out | refine below_set ?_ GE834.out | refine below_set ?_ GE841.out | refine below_set ?_ GE849.out) | exact HB.out)⟩⟩
         ·replace c81 := Bool.eq_false_iff.mpr c81
          subst c81
          have H1 : (laws_FnExactSecPut.j1 kj14 a1 a2 t833 true l0_0 l0_1 t827 t830 t842 t845) = some r := by rw [if_neg (show ¬ (false = true) by decide)] at H; exact H
          clear H
          have H := H1
          clear H1
          have H' := Aside0.mk H
          clear H
          have hnb90 := NB849_819.out
          have hnc90 := NB819_849.out
          have hnb91 := NB849_834.out
          have hnc91 := NB834_849.out
          have hnb92 := NB849_841.out
          have hnc92 := NB841_849.out
          have hcz93_0 : w78.cell? ⟨gb849, 0, none⟩ = some (.slice Ao39 t842.length co39) := (blk_cell BK849.out 0).trans rfl
          have hcz93_1 : w78.cell? ⟨gb849, 1, none⟩ = some (.slice Ao44 t845.length co44) := (blk_cell BK849.out 1).trans rfl
          have hfz93_0 := blk_frozen BK849.out 0
          have hfz93_1 := blk_frozen BK849.out 1
          have hnb94 := NB834_819.out
          have hnc94 := NB819_834.out
          have hnb95 := NB834_841.out
          have hnc95 := NB841_834.out
          have hcz96_0 : w78.cell? ⟨gb834, 0, none⟩ = some (.slice Ao25 t827.length co25) := (blk_cell BK834.out 0).trans rfl
          have hcz96_1 : w78.cell? ⟨gb834, 1, none⟩ = some (.slice Ao28 t830.length co28) := (blk_cell BK834.out 1).trans rfl
          have hfz96_0 := blk_frozen BK834.out 0
          have hfz96_1 := blk_frozen BK834.out 1
          go_wp2_with (first | (go_at_call 17; (with_reducible refine (laws_eqSecDisk.calls kj14 _ _ t842 _ _ t845 _ _ t827 _ _ t830 false _ ?side1 ?side2 ?side3 ?side4 ?side5 ?side6 ?side7 ?side8 A80.out).mono ?_); (case side1 => exact pC (Kd.R_reads' HO_850000.out).2.2); (case side2 => exact (Kd.R_reads' HO_850000.out).2.1); (case side3 => exact pC (Kd.R_reads' HO_850001.out).2.2); (case side4 => exact (Kd.R_reads' HO_850001.out).2.1); (case side5 => exact pC (Kd.R_reads' HO_835000.out).2.2); (case side6 => exact (Kd.R_reads' HO_835000.out).2.1); (case side7 => exact pC (Kd.R_reads' HO_835001.out).2.2); (case side8 => exact (Kd.R_reads' HO_835001.out).2.1); rintro e w97 ⟨rfl, hb⟩; have n0_ := Aside0.mk (Kd.R_below (pR HO_835000.out) hb); have n1_ := Aside0.mk (Kd.R_below (pR HO_835001.out) hb); have n2_ := Aside0.mk (Kd.R_below (pR HO_842000.out) hb); have n3_ := Aside0.mk (Kd.R_below (pR HO_842001.out) hb); have n4_ := Aside0.mk (Kd.R_below (pR HO_850000.out) hb); have n5_ := Aside0.mk (Kd.R_below (pR HO_850001.out) hb); have n6_ := Aside0.mk (Kd.R_below (pR HO853.out) hb); have n7_ := Aside0.mk (Kd.R_below (pR HO856.out) hb); have n8_ := Aside0.mk (blk_below (g := gb819) (o := .cells #[.slice A0_0 l0_0.length c0_0, .slice A0_1 l0_1.length c0_1] 34 (0, 0)) (pK BK819.out) hb); have n9_ := Aside0.mk (blk_below (g := gb834) (o := .cells #[.slice Ao25 t827.length co25, .slice Ao28 t830.length co28] 26 (0, 0)) (pK BK834.out) hb); have n10_ := Aside0.mk (blk_below (g := gb841) (o := .cells #[.slice Ao32 t835.length co32, .slice Ao36 t838.length co36] 26 (0, 0)) (pK BK841.out) hb); have n11_ := Aside0.mk (blk_below (g := gb849) (o := .cells #[.slice Ao39 t842.length co39, .slice Ao44 t845.length co44] 26 (0, 0)) (pK BK849.out) hb); have n12_ := Aside0.mk (below_step (by repeat (first | (with_reducible first | exact HB.out | apply below_alloc | apply pw_below_drewN | apply below_drew1 | refine below_set ?_ GE819.out | refine below_set ?_ GE834.out | refine below_set ?_ GE841.out | refine below_set ?_ GE849.out) | exact HB.out)) hb); clear HO_835000; clear HO_835001; clear HO_842000; clear HO_842001; clear HO_850000; clear HO_850001; clear HO853; clear HO856; clear BK819; clear BK834; clear BK841; clear BK849; clear HB; have HO_835000 := n0_; have HO_835001 := n1_; have HO_842000 := n2_; have HO_842001 := n3_; have HO_850000 := n4_; have HO_850001 := n5_; have HO853 := n6_; have HO856 := n7_; have BK819 := n8_; have BK834 := n9_; have BK841 := n10_; have BK849 := n11_; have HB := n12_; clear n0_ n1_ n2_ n3_ n4_ n5_ n6_ n7_ n8_ n9_ n10_ n11_ n12_; (try clear hb); (try clear hb2); (try clear hk); (try clear hi)))
          go_meet
          case rel => exact ⟨_, (true), (by first | rfl | (simp; done) | (simp [*]; done)), H', ⟨by have := HJ14.out; first | omega | exact Nat.le_refl _⟩, ⟨pR (Kd.R_mono HO_835000.out (fun _ hk => ⟨hk.1, hk.2.1⟩))⟩, ⟨pR (Kd.R_mono HO_835001.out (fun _ hk => ⟨hk.1, hk.2.1⟩))⟩, ⟨pR (Kd.R_mono HO_842000.out (fun _ hk => ⟨hk.1.1, hk.1.2⟩))⟩, ⟨pR (Kd.R_mono HO_842001.out (fun _ hk => ⟨hk.1.1, hk.1.2⟩))⟩, ⟨pR (Kd.R_mono HO_850000.out (fun _ hk => ⟨hk.1, hk.2.1⟩))⟩, ⟨pR (Kd.R_mono HO_850001.out (fun _ hk => ⟨hk.1, hk.2.1⟩))⟩, ⟨pK BK819.out⟩, ⟨pK BK834.out⟩, ⟨pK BK841.out⟩, ⟨pK BK849.out⟩, ⟨by repeat (first | (with_reducible first | exact HB.out | apply below_alloc | apply pw_below_drewN | apply below_drew1 | refine below_set ?_ GE819.out | refine below_set ?_ GE834.out | refine below_set ?_ GE841.out | refine below_set ?_ GE849.out) | exact HB.out)⟩⟩
       case rest =>
        clear HC68
        try clear c1
        try clear c2
        try clear p2
        try clear c3
        try clear c4
        try clear c4b0
        try clear c4b1
        try clear c5
        try clear c6
        try clear c7
        try clear c7b0
        try clear c8
        try clear c9
        try clear c13
        try clear c17
        try clear c18
        try clear c22
        try clear c24
        try clear c26
        try clear c29
        try clear c30
        try clear c33
        try clear c34
        try clear c40
        try clear c41
        try clear c42
        try clear c46
        try clear c47
        try clear c48
        try clear c49
        try clear c51
        try clear c52
        try clear c55
        try clear c56
        try clear c57
        try clear c59
        try clear c60
        try clear c63
        try clear c66
        try clear c74
        try clear c75
        try clear c76
        try clear c79
        try clear c79b0
        try clear c81
        try clear c82
        try clear c83
        try clear c84
        try clear c86
        try clear c87
        try clear c90
        try clear c91
        try clear c92
        try clear c94
        try clear c95
        try clear hcz17_0
        try clear hcz17_1
        try clear hcz19_0
        try clear hcz19_1
        try clear hcz27_0
        try clear hcz27_1
        try clear hcz29_0
        try clear hcz29_1
        try clear hcz35_0
        try clear hcz35_1
        try clear hcz43_0
        try clear hcz43_1
        try clear hcz50_0
        try clear hcz50_1
        try clear hcz53_0
        try clear hcz53_1
        try clear hcz58_0
        try clear hcz58_1
        try clear hcz61_0
        try clear hcz61_1
        try clear hcz77_0
        try clear hcz77_1
        try clear hcz85_0
        try clear hcz85_1
        try clear hcz88_0
        try clear hcz88_1
        try clear hcz93_0
        try clear hcz93_1
        try clear hcz96_0
        try clear hcz96_1
        try clear hcz9_0
        try clear hcz9_1
        try clear hfz17_0
        try clear hfz17_1
        try clear hfz19_0
        try clear hfz19_1
        try clear hfz27_0
        try clear hfz27_1
        try clear hfz29_0
        try clear hfz29_1
        try clear hfz35_0
        try clear hfz35_1
        try clear hfz43_0
        try clear hfz43_1
        try clear hfz50_0
        try clear hfz50_1
        try clear hfz53_0
        try clear hfz53_1
        try clear hfz58_0
        try clear hfz58_1
        try clear hfz61_0
        try clear hfz61_1
        try clear hfz77_0
        try clear hfz77_1
        try clear hfz85_0
        try clear hfz85_1
        try clear hfz88_0
        try clear hfz88_1
        try clear hfz93_0
        try clear hfz93_1
        try clear hfz96_0
        try clear hfz96_1
        try clear hfz9_0
        try clear hfz9_1
        try clear p2
        obtain ⟨kq, x72_67, rfl, HA, HJ67, HO_835000, HO_835001, HO_842000, HO_842001, HO_850000, HO_850001, BK819, BK834, BK841, BK849, HB⟩ := hcut
        have hl842000_67 := (Kd.R_reads' HO_842000.out).1
        rw [hl842000_67] at HO_842000
        (try simp only [hl842000_67])
        (try simp only [hl842000_67] at BK819)
        (try simp only [hl842000_67] at BK834)
        (try simp only [hl842000_67] at BK841)
        (try simp only [hl842000_67] at BK849)
        (try simp only [hl842000_67] at HO_835000)
        (try simp only [hl842000_67] at HO_835001)
        (try simp only [hl842000_67] at HO_842001)
        (try simp only [hl842000_67] at HO_850000)
        (try simp only [hl842000_67] at HO_850001)
        have hl842001_67 := (Kd.R_reads' HO_842001.out).1
        rw [hl842001_67] at HO_842001
        (try simp only [hl842001_67])
        (try simp only [hl842001_67] at BK819)
        (try simp only [hl842001_67] at BK834)
        (try simp only [hl842001_67] at BK841)
        (try simp only [hl842001_67] at BK849)
        (try simp only [hl842001_67] at HO_835000)
        (try simp only [hl842001_67] at HO_835001)
        (try simp only [hl842001_67] at HO_842000)
        (try simp only [hl842001_67] at HO_850000)
        (try simp only [hl842001_67] at HO_850001)
        cases kq with
        | zero => exact absurd HA.out (by simp [laws_FnExactSecPut.j1])
        | succ kj67 =>
         have H := HA.out
         clear HA
         simp only [laws_FnExactSecPut.j1] at H
         by_cases c98 : x72_67 = true
         ·subst c98
          have H1 : (some false) = some r := by rw [if_pos rfl] at H; exact H
          clear H
          have H := H1
          clear H1
          obtain rfl := Option.some.inj H
          go_wp2
          go_ret
          exact ⟨by first | rfl | (simp [errW_none, errW_some] <;> rfl) | (simp [*, errW_none, errW_some] <;> rfl), by repeat (first | (with_reducible first | exact HB.out | apply below_alloc | apply pw_below_drewN | apply below_drew1 | refine below_set ?_ GE819.out | refine below_set ?_ GE834.out | refine below_set ?_ GE841.out | refine below_set ?_ GE849.out) | exact HB.out)⟩
         ·replace c98 := Bool.eq_false_iff.mpr c98
          subst c98
          have H1 : ((laws_markSecDisk.f kj67 t842 t845 1).bind fun bt862 => ((laws_heldSecDisk.f kj67 bt862.2.1 bt862.2.2 1).bind fun t865 => (if t865 < 0 then (some false) else (if t865 = bt862.1 then ((laws_toSecDisk.f kj67 l0_0 l0_1).bind fun bt866 => ((impl_SecPut.f kj67 bt866.1 bt866.2 a1 a2).bind fun bt872 => ((laws_eqSecDisk.f kj67 bt872.1 bt872.2.1 t827 t830).bind fun t880 => (if t880 = true then (laws_FnExactSecPut.j2 kj67 bt862.1 (bt872.2.2 != t833) bt862.2.1 bt862.2.2) else (laws_FnExactSecPut.j2 kj67 bt862.1 true bt862.2.1 bt862.2.2))))) else (some false))))) = some r := by rw [if_neg (show ¬ (false = true) by decide)] at H; exact H
          clear H
          have H := H1
          clear H1
          replace H := Option.bind_eq_some_iff.mp H
          obtain ⟨⟨t862, t863, t864⟩, A990, H⟩ := H
          replace H : ((laws_heldSecDisk.f kj67 t863 t864 1).bind fun t865 => (if t865 < 0 then (some false) else (if t865 = t862 then ((laws_toSecDisk.f kj67 l0_0 l0_1).bind fun bt866 => ((impl_SecPut.f kj67 bt866.1 bt866.2 a1 a2).bind fun bt872 => ((laws_eqSecDisk.f kj67 bt872.1 bt872.2.1 t827 t830).bind fun t880 => (if t880 = true then (laws_FnExactSecPut.j2 kj67 t862 (bt872.2.2 != t833) t863 t864) else (laws_FnExactSecPut.j2 kj67 t862 true t863 t864))))) else (some false)))) = some r := H
          have A99 := Aside0.mk A990
          clear A990
          replace H := Option.bind_eq_some_iff.mp H
          obtain ⟨t865, A1000, H⟩ := H
          replace H : (if t865 < 0 then (some false) else (if t865 = t862 then ((laws_toSecDisk.f kj67 l0_0 l0_1).bind fun bt866 => ((impl_SecPut.f kj67 bt866.1 bt866.2 a1 a2).bind fun bt872 => ((laws_eqSecDisk.f kj67 bt872.1 bt872.2.1 t827 t830).bind fun t880 => (if t880 = true then (laws_FnExactSecPut.j2 kj67 t862 (bt872.2.2 != t833) t863 t864) else (laws_FnExactSecPut.j2 kj67 t862 true t863 t864))))) else (some false))) = some r := H
          have A100 := Aside0.mk A1000
          clear A1000
          by_cases c101 : t865 < 0
          ·rw [if_pos c101] at H
           have c101b0 : decide (t865 < 0) = true := decide_eq_true c101
           clear c101
           obtain rfl := Option.some.inj H
           have hnb102 := NB849_819.out
           have hnc102 := NB819_849.out
           have hnb103 := NB849_834.out
           have hnc103 := NB834_849.out
           have hnb104 := NB849_841.out
           have hnc104 := NB841_849.out
           have hcz105_0 : wc.cell? ⟨gb849, 0, none⟩ = some (.slice Ao39 t842.length co39) := (blk_cell BK849.out 0).trans rfl
           have hcz105_1 : wc.cell? ⟨gb849, 1, none⟩ = some (.slice Ao44 t845.length co44) := (blk_cell BK849.out 1).trans rfl
           have hfz105_0 := blk_frozen BK849.out 0
           have hfz105_1 := blk_frozen BK849.out 1
           go_wp2_with (first | ((with_reducible refine gate_callee (f := 18) rfl ?_); refine goesL_ (some 75) rfl rfl Try.func18 (by kernel_rfl) rfl #[.agg #[.slice Ao39 t842.length co39, .slice Ao44 t845.length co44], .int .i64 1] rfl bM ?_; (with_reducible refine (laws_markSecDisk.calls kj67 (fun k_ => some k_ = (.slice Ao39 t842.length co39 : Value).ownBlock) (.slice Ao39 t842.length co39) t842 (fun k_ => some k_ = (.slice Ao44 t845.length co44 : Value).ownBlock) (.slice Ao44 t845.length co44) t845 1 t862 t863 t864 w _ ?side1 ?side2 ?side3 A99.out).mono ?_); (case side1 => repeat (first | (with_reducible first | exact HB.out | apply below_alloc | apply pw_below_drewN | apply below_drew1 | refine below_set ?_ GE819.out | refine below_set ?_ GE834.out | refine below_set ?_ GE841.out | refine below_set ?_ GE849.out) | exact HB.out)); (case side2 => exact Kd.R_tight rfl HO_850000.out); (case side3 => exact Kd.R_tight rfl HO_850001.out); rintro e w106 ⟨rfl, hy0, hy1, hb, hkp⟩; refine ⟨_, rfl, ?_⟩; have n0_ := Aside0.mk (Kd.R_mono (ok' := fun k_ => some k_ ≠ (.slice Ao32 t859.length co32 : Value).ownBlock ∧ some k_ ≠ (.slice Ao39 t842.length co39 : Value).ownBlock) (Kd.R_keptB ((Kd.R_apart' HO_835000.out (Kd.R_typed HO_850001.out) (by decide))) hkp (fun k_ hk_ hs_ => Or.elim hs_ (fun e_ => (hk_.1.2) e_) (fun e_ => (hk_.2) e_))) (fun k_ hk_ => ⟨hk_.1.1.1, hk_.1.1.2⟩)); have n1_ := Aside0.mk (Kd.R_mono (ok' := fun k_ => some k_ ≠ (.slice Ao36 t860.length co36 : Value).ownBlock ∧ some k_ ≠ (.slice Ao44 t845.length co44 : Value).ownBlock) (Kd.R_keptB ((Kd.R_apart' HO_835001.out (Kd.R_typed HO_850000.out) (by decide))) hkp (fun k_ hk_ hs_ => Or.elim hs_ (fun e_ => (hk_.2) e_) (fun e_ => (hk_.1.2) e_))) (fun k_ hk_ => ⟨hk_.1.1.1, hk_.1.1.2⟩)); have n2_ := Aside0.mk (Kd.R_mono (ok' := fun k_ => some k_ ≠ (.slice Ao25 t827.length co25 : Value).ownBlock ∧ some k_ ≠ (.slice Ao39 t842.length co39 : Value).ownBlock) (Kd.R_keptB ((Kd.R_apart' HO_842000.out (Kd.R_typed HO_850001.out) (by decide))) hkp (fun k_ hk_ hs_ => Or.elim hs_ (fun e_ => (hk_.1.2) e_) (fun e_ => (hk_.2) e_))) (fun k_ hk_ => ⟨hk_.1.1.1, hk_.1.1.2⟩)); have n3_ := Aside0.mk (Kd.R_mono (ok' := fun k_ => some k_ ≠ (.slice Ao28 t830.length co28 : Value).ownBlock ∧ some k_ ≠ (.slice Ao44 t845.length co44 : Value).ownBlock) (Kd.R_keptB ((Kd.R_apart' HO_842001.out (Kd.R_typed HO_850000.out) (by decide))) hkp (fun k_ hk_ hs_ => Or.elim hs_ (fun e_ => (hk_.2) e_) (fun e_ => (hk_.1.2) e_))) (fun k_ hk_ => ⟨hk_.1.1.1, hk_.1.1.2⟩)); have n4_ := Aside0.mk (Kd.R_reok rfl hy0 (fun k_ e_ => HO_850000.out.1 k_ e_)); have n5_ := Aside0.mk (Kd.R_reok rfl hy1 (fun k_ e_ => HO_850001.out.1 k_ e_)); have n6_ := Aside0.mk (blk_kept (pK BK819.out) hkp (fun hs_ => Or.elim hs_ (fun e_ => (fun e_ => (Kd.R_ne HO_850000.out BK819.out (by decide)) e_) e_) (fun e_ => (fun e_ => (Kd.R_ne HO_850001.out BK819.out (by decide)) e_) e_))); have n7_ := Aside0.mk (blk_kept (pK BK834.out) hkp (fun hs_ => Or.elim hs_ (fun e_ => (fun e_ => (Kd.R_ne HO_850000.out BK834.out (by decide)) e_) e_) (fun e_ => (fun e_ => (Kd.R_ne HO_850001.out BK834.out (by decide)) e_) e_))); have n8_ := Aside0.mk (blk_kept (pK BK841.out) hkp (fun hs_ => Or.elim hs_ (fun e_ => (fun e_ => (Kd.R_ne HO_850000.out BK841.out (by decide)) e_) e_) (fun e_ => (fun e_ => (Kd.R_ne HO_850001.out BK841.out (by decide)) e_) e_))); have n9_ := Aside0.mk (blk_kept (pK BK849.out) hkp (fun hs_ => Or.elim hs_ (fun e_ => (fun e_ => (Kd.R_ne HO_850000.out BK849.out (by decide)) e_) e_) (fun e_ => (fun e_ => (Kd.R_ne HO_850001.out BK849.out (by decide)) e_) e_))); have n10_ := Aside0.mk (hb); clear HO_835000; clear HO_835001; clear HO_842000; clear HO_842001; clear HO_850000; clear HO_850001; clear BK819; clear BK834; clear BK841; clear BK849; clear HB; have HO_835000 := n0_; have HO_835001 := n1_; have HO_842000 := n2_; have HO_842001 := n3_; have HO_850000 := n4_; have HO_850001 := n5_; have BK819 := n6_; have BK834 := n7_; have BK841 := n8_; have BK849 := n9_; have HB := n10_; clear n0_ n1_ n2_ n3_ n4_ n5_ n6_ n7_ n8_ n9_ n10_; (try clear hb); (try clear hkp); (try clear hy0); (try clear hy1); have hcz107_0 : w106.cell? ⟨gb849, 0, none⟩ = some (.slice Ao39 t842.length co39) := (blk_cell BK849.out 0).trans rfl; have hcz107_1 : w106.cell? ⟨gb849, 1, none⟩ = some (.slice Ao44 t845.length co44) := (blk_cell BK849.out 1).trans rfl; have hfz107_0 := blk_frozen BK849.out 0; have hfz107_1 := blk_frozen BK849.out 1) | ((with_reducible refine gate_callee (f := 19) rfl ?_); refine goesL_ (some 78) rfl rfl Try.func19 (by kernel_rfl) rfl #[.agg #[.slice Ao39 t863.length co39, .slice Ao44 t864.length co44], .int .i64 1] rfl (by (try simp only [List.map_toArray, List.map_cons, List.map_nil]); first | done | (rw [show t863.length = t842.length from (Kd.R_reads' HO_850000.out).1.symm, show t864.length = t845.length from (Kd.R_reads' HO_850001.out).1.symm] <;> rfl) | rfl | (simp only [List.length_drop, List.length_take]; rfl)) ?_; (with_reducible refine (laws_heldSecDisk.calls kj67 _ _ t863 _ _ t864 1 t865 _ ?side1 ?side2 ?side3 ?side4 A100.out).mono ?_); (case side1 => exact pC (Kd.R_reads' HO_850000.out).2.2); (case side2 => rw [show t863.length = t842.length from (Kd.R_reads' HO_850000.out).1.symm]; exact (Kd.R_reads' HO_850000.out).2.1); (case side3 => exact pC (Kd.R_reads' HO_850001.out).2.2); (case side4 => rw [show t864.length = t845.length from (Kd.R_reads' HO_850001.out).1.symm]; exact (Kd.R_reads' HO_850001.out).2.1); rintro e w108 ⟨rfl, hb⟩; refine ⟨_, rfl, ?_⟩; have n0_ := Aside0.mk (Kd.R_below (pR HO_835000.out) hb); have n1_ := Aside0.mk (Kd.R_below (pR HO_835001.out) hb); have n2_ := Aside0.mk (Kd.R_below (pR HO_842000.out) hb); have n3_ := Aside0.mk (Kd.R_below (pR HO_842001.out) hb); have n4_ := Aside0.mk (Kd.R_below (pR HO_850000.out) hb); have n5_ := Aside0.mk (Kd.R_below (pR HO_850001.out) hb); have n6_ := Aside0.mk (blk_below (g := gb819) (o := .cells #[.slice A0_0 l0_0.length c0_0, .slice A0_1 l0_1.length c0_1] 34 (0, 0)) (pK BK819.out) hb); have n7_ := Aside0.mk (blk_below (g := gb834) (o := .cells #[.slice Ao25 t827.length co25, .slice Ao28 t830.length co28] 26 (0, 0)) (pK BK834.out) hb); have n8_ := Aside0.mk (blk_below (g := gb841) (o := .cells #[.slice Ao32 t859.length co32, .slice Ao36 t860.length co36] 26 (0, 0)) (pK BK841.out) hb); have n9_ := Aside0.mk (blk_below (g := gb849) (o := .cells #[.slice Ao39 t842.length co39, .slice Ao44 t845.length co44] 26 (0, 0)) (pK BK849.out) hb); have n10_ := Aside0.mk (below_step (by repeat (first | (with_reducible first | exact HB.out | apply below_alloc | apply pw_below_drewN | apply below_drew1 | refine below_set ?_ GE819.out | refine below_set ?_ GE834.out | refine below_set ?_ GE841.out | refine below_set ?_ GE849.out) | exact HB.out)) hb); clear HO_835000; clear HO_835001; clear HO_842000; clear HO_842001; clear HO_850000; clear HO_850001; clear BK819; clear BK834; clear BK841; clear BK849; clear HB; have HO_835000 := n0_; have HO_835001 := n1_; have HO_842000 := n2_; have HO_842001 := n3_; have HO_850000 := n4_; have HO_850001 := n5_; have BK819 := n6_; have BK834 := n7_; have BK841 := n8_; have BK849 := n9_; have HB := n10_; clear n0_ n1_ n2_ n3_ n4_ n5_ n6_ n7_ n8_ n9_ n10_; (try clear hb); (try clear hb2); (try clear hk); (try clear hi)))
           go_ret
           exact ⟨by first | rfl | (simp [errW_none, errW_some] <;> rfl) | (simp [*, errW_none, errW_some] <;> rfl), by repeat (first | (with_reducible first | exact HB.out | apply below_alloc | apply pw_below_drewN | apply below_drew1 | refine below_set ?_ GE819.out | refine below_set ?_ GE834.out | refine below_set ?_ GE841.out | refine below_set ?_ GE849.out) | exact HB.out)⟩
          ·rw [if_neg c101] at H
           have c101b0 : decide (t865 < 0) = false := decide_eq_false c101
           clear c101
           by_cases c109 : t865 = t862
           ·rw [if_pos c109] at H
            have c109b0 : (t865 == t862) = true := beq_iff_eq.mpr c109
            have c109b1 : (t865 != t862) = false := bne_eq_false_iff_eq.mpr c109
            clear c109
            replace H := Option.bind_eq_some_iff.mp H
            obtain ⟨⟨t866, t869⟩, A1100, H⟩ := H
            replace H : ((impl_SecPut.f kj67 t866 t869 a1 a2).bind fun bt872 => ((laws_eqSecDisk.f kj67 bt872.1 bt872.2.1 t827 t830).bind fun t880 => (if t880 = true then (laws_FnExactSecPut.j2 kj67 t862 (bt872.2.2 != t833) t863 t864) else (laws_FnExactSecPut.j2 kj67 t862 true t863 t864)))) = some r := H
            have A110 := Aside0.mk A1100
            clear A1100
            replace H := Option.bind_eq_some_iff.mp H
            obtain ⟨⟨t872, t875, t878⟩, A1110, H⟩ := H
            replace H : ((laws_eqSecDisk.f kj67 t872 t875 t827 t830).bind fun t880 => (if t880 = true then (laws_FnExactSecPut.j2 kj67 t862 (t878 != t833) t863 t864) else (laws_FnExactSecPut.j2 kj67 t862 true t863 t864))) = some r := H
            have A111 := Aside0.mk A1110
            clear A1110
            have HC112 := Aside0.mk H
            clear H
            have hnb113 := NB849_819.out
            have hnc113 := NB819_849.out
            have hnb114 := NB849_834.out
            have hnc114 := NB834_849.out
            have hnb115 := NB849_841.out
            have hnc115 := NB841_849.out
            have hcz116_0 : wc.cell? ⟨gb849, 0, none⟩ = some (.slice Ao39 t842.length co39) := (blk_cell BK849.out 0).trans rfl
            have hcz116_1 : wc.cell? ⟨gb849, 1, none⟩ = some (.slice Ao44 t845.length co44) := (blk_cell BK849.out 1).trans rfl
            have hfz116_0 := blk_frozen BK849.out 0
            have hfz116_1 := blk_frozen BK849.out 1
            go_upto_region 27 with (first | ((with_reducible refine gate_callee (f := 18) rfl ?_); refine goesL_ (some 75) rfl rfl Try.func18 (by kernel_rfl) rfl #[.agg #[.slice Ao39 t842.length co39, .slice Ao44 t845.length co44], .int .i64 1] rfl bM ?_; (with_reducible refine (laws_markSecDisk.calls kj67 (fun k_ => some k_ = (.slice Ao39 t842.length co39 : Value).ownBlock) (.slice Ao39 t842.length co39) t842 (fun k_ => some k_ = (.slice Ao44 t845.length co44 : Value).ownBlock) (.slice Ao44 t845.length co44) t845 1 t862 t863 t864 w _ ?side1 ?side2 ?side3 A99.out).mono ?_); (case side1 => repeat (first | (with_reducible first | exact HB.out | apply below_alloc | apply pw_below_drewN | apply below_drew1 | refine below_set ?_ GE819.out | refine below_set ?_ GE834.out | refine below_set ?_ GE841.out | refine below_set ?_ GE849.out) | exact HB.out)); (case side2 => exact Kd.R_tight rfl HO_850000.out); (case side3 => exact Kd.R_tight rfl HO_850001.out); rintro e w117 ⟨rfl, hy0, hy1, hb, hkp⟩; refine ⟨_, rfl, ?_⟩; have n0_ := Aside0.mk (Kd.R_mono (ok' := fun k_ => some k_ ≠ (.slice Ao32 t859.length co32 : Value).ownBlock ∧ some k_ ≠ (.slice Ao39 t842.length co39 : Value).ownBlock) (Kd.R_keptB ((Kd.R_apart' HO_835000.out (Kd.R_typed HO_850001.out) (by decide))) hkp (fun k_ hk_ hs_ => Or.elim hs_ (fun e_ => (hk_.1.2) e_) (fun e_ => (hk_.2) e_))) (fun k_ hk_ => ⟨hk_.1.1.1, hk_.1.1.2⟩)); have n1_ := Aside0.mk (Kd.R_mono (ok' := fun k_ => some k_ ≠ (.slice Ao36 t860.length co36 : Value).ownBlock ∧ some k_ ≠ (.slice Ao44 t845.length co44 : Value).ownBlock) (Kd.R_keptB ((Kd.R_apart' HO_835001.out (Kd.R_typed HO_850000.out) (by decide))) hkp (fun k_ hk_ hs_ => Or.elim hs_ (fun e_ => (hk_.2) e_) (fun e_ => (hk_.1.2) e_))) (fun k_ hk_ => ⟨hk_.1.1.1, hk_.1.1.2⟩)); have n2_ := Aside0.mk (Kd.R_mono (ok' := fun k_ => some k_ ≠ (.slice Ao25 t827.length co25 : Value).ownBlock ∧ some k_ ≠ (.slice Ao39 t842.length co39 : Value).ownBlock) (Kd.R_keptB ((Kd.R_apart' HO_842000.out (Kd.R_typed HO_850001.out) (by decide))) hkp (fun k_ hk_ hs_ => Or.elim hs_ (fun e_ => (hk_.1.2) e_) (fun e_ => (hk_.2) e_))) (fun k_ hk_ => ⟨hk_.1.1.1, hk_.1.1.2⟩)); have n3_ := Aside0.mk (Kd.R_mono (ok' := fun k_ => some k_ ≠ (.slice Ao28 t830.length co28 : Value).ownBlock ∧ some k_ ≠ (.slice Ao44 t845.length co44 : Value).ownBlock) (Kd.R_keptB ((Kd.R_apart' HO_842001.out (Kd.R_typed HO_850000.out) (by decide))) hkp (fun k_ hk_ hs_ => Or.elim hs_ (fun e_ => (hk_.2) e_) (fun e_ => (hk_.1.2) e_))) (fun k_ hk_ => ⟨hk_.1.1.1, hk_.1.1.2⟩)); have n4_ := Aside0.mk (Kd.R_reok rfl hy0 (fun k_ e_ => HO_850000.out.1 k_ e_)); have n5_ := Aside0.mk (Kd.R_reok rfl hy1 (fun k_ e_ => HO_850001.out.1 k_ e_)); have n6_ := Aside0.mk (blk_kept (pK BK819.out) hkp (fun hs_ => Or.elim hs_ (fun e_ => (fun e_ => (Kd.R_ne HO_850000.out BK819.out (by decide)) e_) e_) (fun e_ => (fun e_ => (Kd.R_ne HO_850001.out BK819.out (by decide)) e_) e_))); have n7_ := Aside0.mk (blk_kept (pK BK834.out) hkp (fun hs_ => Or.elim hs_ (fun e_ => (fun e_ => (Kd.R_ne HO_850000.out BK834.out (by decide)) e_) e_) (fun e_ => (fun e_ => (Kd.R_ne HO_850001.out BK834.out (by decide)) e_) e_))); have n8_ := Aside0.mk (blk_kept (pK BK841.out) hkp (fun hs_ => Or.elim hs_ (fun e_ => (fun e_ => (Kd.R_ne HO_850000.out BK841.out (by decide)) e_) e_) (fun e_ => (fun e_ => (Kd.R_ne HO_850001.out BK841.out (by decide)) e_) e_))); have n9_ := Aside0.mk (blk_kept (pK BK849.out) hkp (fun hs_ => Or.elim hs_ (fun e_ => (fun e_ => (Kd.R_ne HO_850000.out BK849.out (by decide)) e_) e_) (fun e_ => (fun e_ => (Kd.R_ne HO_850001.out BK849.out (by decide)) e_) e_))); have n10_ := Aside0.mk (hb); clear HO_835000; clear HO_835001; clear HO_842000; clear HO_842001; clear HO_850000; clear HO_850001; clear BK819; clear BK834; clear BK841; clear BK849; clear HB; have HO_835000 := n0_; have HO_835001 := n1_; have HO_842000 := n2_; have HO_842001 := n3_; have HO_850000 := n4_; have HO_850001 := n5_; have BK819 := n6_; have BK834 := n7_; have BK841 := n8_; have BK849 := n9_; have HB := n10_; clear n0_ n1_ n2_ n3_ n4_ n5_ n6_ n7_ n8_ n9_ n10_; (try clear hb); (try clear hkp); (try clear hy0); (try clear hy1); have hcz118_0 : w117.cell? ⟨gb849, 0, none⟩ = some (.slice Ao39 t842.length co39) := (blk_cell BK849.out 0).trans rfl; have hcz118_1 : w117.cell? ⟨gb849, 1, none⟩ = some (.slice Ao44 t845.length co44) := (blk_cell BK849.out 1).trans rfl; have hfz118_0 := blk_frozen BK849.out 0; have hfz118_1 := blk_frozen BK849.out 1) | ((with_reducible refine gate_callee (f := 19) rfl ?_); refine goesL_ (some 78) rfl rfl Try.func19 (by kernel_rfl) rfl #[.agg #[.slice Ao39 t863.length co39, .slice Ao44 t864.length co44], .int .i64 1] rfl (by (try simp only [List.map_toArray, List.map_cons, List.map_nil]); first | done | (rw [show t863.length = t842.length from (Kd.R_reads' HO_850000.out).1.symm, show t864.length = t845.length from (Kd.R_reads' HO_850001.out).1.symm] <;> rfl) | rfl | (simp only [List.length_drop, List.length_take]; rfl)) ?_; (with_reducible refine (laws_heldSecDisk.calls kj67 _ _ t863 _ _ t864 1 t865 _ ?side1 ?side2 ?side3 ?side4 A100.out).mono ?_); (case side1 => exact pC (Kd.R_reads' HO_850000.out).2.2); (case side2 => rw [show t863.length = t842.length from (Kd.R_reads' HO_850000.out).1.symm]; exact (Kd.R_reads' HO_850000.out).2.1); (case side3 => exact pC (Kd.R_reads' HO_850001.out).2.2); (case side4 => rw [show t864.length = t845.length from (Kd.R_reads' HO_850001.out).1.symm]; exact (Kd.R_reads' HO_850001.out).2.1); rintro e w119 ⟨rfl, hb⟩; refine ⟨_, rfl, ?_⟩; have n0_ := Aside0.mk (Kd.R_below (pR HO_835000.out) hb); have n1_ := Aside0.mk (Kd.R_below (pR HO_835001.out) hb); have n2_ := Aside0.mk (Kd.R_below (pR HO_842000.out) hb); have n3_ := Aside0.mk (Kd.R_below (pR HO_842001.out) hb); have n4_ := Aside0.mk (Kd.R_below (pR HO_850000.out) hb); have n5_ := Aside0.mk (Kd.R_below (pR HO_850001.out) hb); have n6_ := Aside0.mk (blk_below (g := gb819) (o := .cells #[.slice A0_0 l0_0.length c0_0, .slice A0_1 l0_1.length c0_1] 34 (0, 0)) (pK BK819.out) hb); have n7_ := Aside0.mk (blk_below (g := gb834) (o := .cells #[.slice Ao25 t827.length co25, .slice Ao28 t830.length co28] 26 (0, 0)) (pK BK834.out) hb); have n8_ := Aside0.mk (blk_below (g := gb841) (o := .cells #[.slice Ao32 t859.length co32, .slice Ao36 t860.length co36] 26 (0, 0)) (pK BK841.out) hb); have n9_ := Aside0.mk (blk_below (g := gb849) (o := .cells #[.slice Ao39 t842.length co39, .slice Ao44 t845.length co44] 26 (0, 0)) (pK BK849.out) hb); have n10_ := Aside0.mk (below_step (by repeat (first | (with_reducible first | exact HB.out | apply below_alloc | apply pw_below_drewN | apply below_drew1 | refine below_set ?_ GE819.out | refine below_set ?_ GE834.out | refine below_set ?_ GE841.out | refine below_set ?_ GE849.out) | exact HB.out)) hb); clear HO_835000; clear HO_835001; clear HO_842000; clear HO_842001; clear HO_850000; clear HO_850001; clear BK819; clear BK834; clear BK841; clear BK849; clear HB; have HO_835000 := n0_; have HO_835001 := n1_; have HO_842000 := n2_; have HO_842001 := n3_; have HO_850000 := n4_; have HO_850001 := n5_; have BK819 := n6_; have BK834 := n7_; have BK841 := n8_; have BK849 := n9_; have HB := n10_; clear n0_ n1_ n2_ n3_ n4_ n5_ n6_ n7_ n8_ n9_ n10_; (try clear hb); (try clear hb2); (try clear hk); (try clear hi); have hnb120 := NB819_834.out; have hnc120 := NB834_819.out; have hnb121 := NB819_841.out; have hnc121 := NB841_819.out; have hcz122_0 : w119.cell? ⟨gb819, 0, none⟩ = some (.slice A0_0 l0_0.length c0_0) := (blk_cell BK819.out 0).trans rfl; have hcz122_1 : w119.cell? ⟨gb819, 1, none⟩ = some (.slice A0_1 l0_1.length c0_1) := (blk_cell BK819.out 1).trans rfl; have hfz122_0 := blk_frozen BK819.out 0; have hfz122_1 := blk_frozen BK819.out 1) | ((with_reducible refine gate_callee (f := 24) rfl ?_); refine goesL_ (some 86) rfl rfl Try.func24 (by kernel_rfl) rfl #[.agg #[.slice A0_0 l0_0.length c0_0, .slice A0_1 l0_1.length c0_1]] rfl bM ?_; (with_reducible refine (laws_toSecDisk.calls kj67 _ _ l0_0 _ _ l0_1 t866 t869 _ ?side1 ?side2 ?side3 ?side4 A110.out).mono ?_); (case side1 => repeat (first | exact (Kd.C_below HR0_0.out HB.out) | (with_reducible refine Kd.C_alloc ?_ _) | (with_reducible refine Kd.C_drewN ?_ _) | (with_reducible refine Kd.C_drew ?_))); (case side2 => exact HC0_0.out); (case side3 => repeat (first | exact (Kd.C_below HR0_1.out HB.out) | (with_reducible refine Kd.C_alloc ?_ _) | (with_reducible refine Kd.C_drewN ?_ _) | (with_reducible refine Kd.C_drew ?_))); (case side4 => exact HC0_1.out); rintro e w123 ⟨v867, v870, rfl, ho0, ho1, hb⟩; refine ⟨_, rfl, ?_⟩; have n0_ := Aside0.mk (Kd.R_elder' (pR HO_835000.out) (Kd.R_base ho0) hb); have n1_ := Aside0.mk (Kd.R_elder' (pR HO_835001.out) (Kd.R_base ho1) hb); have n2_ := Aside0.mk (Kd.R_elder' (pR HO_842000.out) (Kd.R_base ho0) hb); have n3_ := Aside0.mk (Kd.R_elder' (pR HO_842001.out) (Kd.R_base ho1) hb); have n4_ := Aside0.mk (Kd.R_elder' (pR HO_850000.out) (Kd.R_base ho0) hb); have n5_ := Aside0.mk (Kd.R_elder' (pR HO_850001.out) (Kd.R_base ho1) hb); have n6_ := Aside0.mk (Kd.R_lower (Kd.R_new' (Kd.R_new' (Kd.R_new' ho0 (Kd.R_lt (pR HO_835000.out))) (Kd.R_lt (pR HO_842000.out))) (Kd.R_lt (pR HO_850000.out))) (below_size (by repeat (first | (with_reducible first | exact HB.out | apply below_alloc | apply pw_below_drewN | apply below_drew1 | refine below_set ?_ GE819.out | refine below_set ?_ GE834.out | refine below_set ?_ GE841.out | refine below_set ?_ GE849.out) | exact HB.out)))); have n7_ := Aside0.mk (Kd.R_lower (Kd.R_new' (Kd.R_new' (Kd.R_new' ho1 (Kd.R_lt (pR HO_835001.out))) (Kd.R_lt (pR HO_842001.out))) (Kd.R_lt (pR HO_850001.out))) (below_size (by repeat (first | (with_reducible first | exact HB.out | apply below_alloc | apply pw_below_drewN | apply below_drew1 | refine below_set ?_ GE819.out | refine below_set ?_ GE834.out | refine below_set ?_ GE841.out | refine below_set ?_ GE849.out) | exact HB.out)))); have n8_ := Aside0.mk (blk_below (g := gb819) (o := .cells #[.slice A0_0 l0_0.length c0_0, .slice A0_1 l0_1.length c0_1] 34 (0, 0)) (pK BK819.out) hb); have n9_ := Aside0.mk (blk_below (g := gb834) (o := .cells #[.slice Ao25 t827.length co25, .slice Ao28 t830.length co28] 26 (0, 0)) (pK BK834.out) hb); have n10_ := Aside0.mk (blk_below (g := gb841) (o := .cells #[.slice Ao32 t859.length co32, .slice Ao36 t860.length co36] 26 (0, 0)) (pK BK841.out) hb); have n11_ := Aside0.mk (blk_below (g := gb849) (o := .cells #[.slice Ao39 t842.length co39, .slice Ao44 t845.length co44] 26 (0, 0)) (pK BK849.out) hb); have n12_ := Aside0.mk (below_step (by repeat (first | (with_reducible first | exact HB.out | apply below_alloc | apply pw_below_drewN | apply below_drew1 | refine below_set ?_ GE819.out | refine below_set ?_ GE834.out | refine below_set ?_ GE841.out | refine below_set ?_ GE849.out) | exact HB.out)) hb); clear HO_835000; clear HO_835001; clear HO_842000; clear HO_842001; clear HO_850000; clear HO_850001; clear BK819; clear BK834; clear BK841; clear BK849; clear HB; have HO_835000 := n0_; have HO_835001 := n1_; have HO_842000 := n2_; have HO_842001 := n3_; have HO_850000 := n4_; have HO_850001 := n5_; have HO868 := n6_; have HO871 := n7_; have BK819 := n8_; have BK834 := n9_; have BK841 := n10_; have BK849 := n11_; have HB := n12_; clear n0_ n1_ n2_ n3_ n4_ n5_ n6_ n7_ n8_ n9_ n10_ n11_ n12_; (try clear hb); (try clear hb2); (try clear hk); (try clear hi); (try clear ho0); (try clear ho1); obtain ⟨Ao124, co124, eo124⟩ := Kd.R_slice HO868.out; subst eo124; obtain ⟨Ao125, co125, eo125⟩ := Kd.R_slice HO871.out; subst eo125) | ((with_reducible refine gate_callee (f := 30) rfl ?_); refine goesL_ (some 89) rfl rfl Try.func30 (by kernel_rfl) rfl #[.agg #[.slice Ao124 t866.length co124, .slice Ao125 t869.length co125], .int .i64 a1, .string a2] rfl bM ?_; (with_reducible refine (impl_SecPut.calls kj67 _ _ t866 _ _ t869 a1 a2 t872 t875 t878 _ ?side1 ?side2 ?side3 ?side4 A111.out).mono ?_); (case side1 => exact pC (Kd.R_reads' HO868.out).2.2); (case side2 => exact (Kd.R_reads' HO868.out).2.1); (case side3 => exact pC (Kd.R_reads' HO871.out).2.2); (case side4 => exact (Kd.R_reads' HO871.out).2.1); rintro e w126 ⟨v873, v876, rfl, ho0, ho1, hb⟩; refine ⟨_, rfl, ?_⟩; have n0_ := Aside0.mk (Kd.R_elder' (pR HO_835000.out) (Kd.R_base ho0) hb); have n1_ := Aside0.mk (Kd.R_elder' (pR HO_835001.out) (Kd.R_base ho1) hb); have n2_ := Aside0.mk (Kd.R_elder' (pR HO_842000.out) (Kd.R_base ho0) hb); have n3_ := Aside0.mk (Kd.R_elder' (pR HO_842001.out) (Kd.R_base ho1) hb); have n4_ := Aside0.mk (Kd.R_elder' (pR HO_850000.out) (Kd.R_base ho0) hb); have n5_ := Aside0.mk (Kd.R_elder' (pR HO_850001.out) (Kd.R_base ho1) hb); have n6_ := Aside0.mk (Kd.R_elder' (pR HO868.out) (Kd.R_base ho0) hb); have n7_ := Aside0.mk (Kd.R_elder' (pR HO871.out) (Kd.R_base ho1) hb); have n8_ := Aside0.mk (Kd.R_lower (Kd.R_new' (Kd.R_new' (Kd.R_new' (Kd.R_new' ho0 (Kd.R_lt (pR HO_835000.out))) (Kd.R_lt (pR HO_842000.out))) (Kd.R_lt (pR HO_850000.out))) (Kd.R_lt (pR HO868.out))) (below_size (by repeat (first | (with_reducible first | exact HB.out | apply below_alloc | apply pw_below_drewN | apply below_drew1 | refine below_set ?_ GE819.out | refine below_set ?_ GE834.out | refine below_set ?_ GE841.out | refine below_set ?_ GE849.out) | exact HB.out)))); have n9_ := Aside0.mk (Kd.R_lower (Kd.R_new' (Kd.R_new' (Kd.R_new' (Kd.R_new' ho1 (Kd.R_lt (pR HO_835001.out))) (Kd.R_lt (pR HO_842001.out))) (Kd.R_lt (pR HO_850001.out))) (Kd.R_lt (pR HO871.out))) (below_size (by repeat (first | (with_reducible first | exact HB.out | apply below_alloc | apply pw_below_drewN | apply below_drew1 | refine below_set ?_ GE819.out | refine below_set ?_ GE834.out | refine below_set ?_ GE841.out | refine below_set ?_ GE849.out) | exact HB.out)))); have n10_ := Aside0.mk (blk_below (g := gb819) (o := .cells #[.slice A0_0 l0_0.length c0_0, .slice A0_1 l0_1.length c0_1] 34 (0, 0)) (pK BK819.out) hb); have n11_ := Aside0.mk (blk_below (g := gb834) (o := .cells #[.slice Ao25 t827.length co25, .slice Ao28 t830.length co28] 26 (0, 0)) (pK BK834.out) hb); have n12_ := Aside0.mk (blk_below (g := gb841) (o := .cells #[.slice Ao32 t859.length co32, .slice Ao36 t860.length co36] 26 (0, 0)) (pK BK841.out) hb); have n13_ := Aside0.mk (blk_below (g := gb849) (o := .cells #[.slice Ao39 t842.length co39, .slice Ao44 t845.length co44] 26 (0, 0)) (pK BK849.out) hb); have n14_ := Aside0.mk (below_step (by repeat (first | (with_reducible first | exact HB.out | apply below_alloc | apply pw_below_drewN | apply below_drew1 | refine below_set ?_ GE819.out | refine below_set ?_ GE834.out | refine below_set ?_ GE841.out | refine below_set ?_ GE849.out) | exact HB.out)) hb); clear HO_835000; clear HO_835001; clear HO_842000; clear HO_842001; clear HO_850000; clear HO_850001; clear HO868; clear HO871; clear BK819; clear BK834; clear BK841; clear BK849; clear HB; have HO_835000 := n0_; have HO_835001 := n1_; have HO_842000 := n2_; have HO_842001 := n3_; have HO_850000 := n4_; have HO_850001 := n5_; have HO868 := n6_; have HO871 := n7_; have HO874 := n8_; have HO877 := n9_; have BK819 := n10_; have BK834 := n11_; have BK841 := n12_; have BK849 := n13_; have HB := n14_; clear n0_ n1_ n2_ n3_ n4_ n5_ n6_ n7_ n8_ n9_ n10_ n11_ n12_ n13_ n14_; (try clear hb); (try clear hb2); (try clear hk); (try clear hi); (try clear ho0); (try clear ho1)) | ((with_reducible refine gate_dst (N := 16) rfl ?_); refine box_event ?hg (N := 16) ?hd (cs := #[.slice none 0 0, .slice none 0 0]) (t := 26) ?hr ?_; (case hd => rfl); (case hg => rfl); (case hr => first | (go_simp; done) | (go_simp; rfl)); intro gb879 hg w127 hbox hb; have n0_ := Aside0.mk (Kd.R_below (pR HO_835000.out) hb); have n1_ := Aside0.mk (Kd.R_below (pR HO_835001.out) hb); have n2_ := Aside0.mk (Kd.R_below (pR HO_842000.out) hb); have n3_ := Aside0.mk (Kd.R_below (pR HO_842001.out) hb); have n4_ := Aside0.mk (Kd.R_below (pR HO_850000.out) hb); have n5_ := Aside0.mk (Kd.R_below (pR HO_850001.out) hb); have n6_ := Aside0.mk (Kd.R_below (pR HO868.out) hb); have n7_ := Aside0.mk (Kd.R_below (pR HO871.out) hb); have n8_ := Aside0.mk (Kd.R_below (pR HO874.out) hb); have n9_ := Aside0.mk (Kd.R_below (pR HO877.out) hb); have n10_ := Aside0.mk (blk_below (g := gb819) (o := .cells #[.slice A0_0 l0_0.length c0_0, .slice A0_1 l0_1.length c0_1] 34 (0, 0)) (pK BK819.out) hb); have n11_ := Aside0.mk (blk_below (g := gb834) (o := .cells #[.slice Ao25 t827.length co25, .slice Ao28 t830.length co28] 26 (0, 0)) (pK BK834.out) hb); have n12_ := Aside0.mk (blk_below (g := gb841) (o := .cells #[.slice Ao32 t859.length co32, .slice Ao36 t860.length co36] 26 (0, 0)) (pK BK841.out) hb); have n13_ := Aside0.mk (blk_below (g := gb849) (o := .cells #[.slice Ao39 t842.length co39, .slice Ao44 t845.length co44] 26 (0, 0)) (pK BK849.out) hb); have n14_ := Aside0.mk (below_step (by repeat (first | (with_reducible first | exact HB.out | apply below_alloc | apply pw_below_drewN | apply below_drew1 | refine below_set ?_ GE819.out | refine below_set ?_ GE834.out | refine below_set ?_ GE841.out | refine below_set ?_ GE849.out) | exact HB.out)) hb); have n15_ := Aside0.mk (hbox); have n16_ := Aside0.mk ((by rw [hg]; exact (below_size (by repeat (first | (with_reducible first | exact HB.out | apply below_alloc | apply pw_below_drewN | apply below_drew1 | refine below_set ?_ GE819.out | refine below_set ?_ GE834.out | refine below_set ?_ GE841.out | refine below_set ?_ GE849.out) | exact HB.out))) : w.heap.size ≤ gb879)); have n17_ := Aside0.mk ((by rw [hg]; exact (below_size (by repeat (first | (with_reducible first | exact HB.out | apply below_alloc | apply pw_below_drewN | apply below_drew1 | refine below_set ?_ GE819.out | refine below_set ?_ GE834.out | refine below_set ?_ GE841.out | refine below_set ?_ GE849.out) | exact HB.out))) : w.heap.size ≤ gb879)); have n18_ := Aside0.mk ((by rw [hg]; exact Nat.ne_of_lt (blk_lt (g := gb819) (o := .cells #[.slice A0_0 l0_0.length c0_0, .slice A0_1 l0_1.length c0_1] 34 (0, 0)) (pK BK819.out)) : gb819 ≠ gb879)); have n19_ := Aside0.mk ((by rw [hg]; exact Nat.ne_of_gt (blk_lt (g := gb819) (o := .cells #[.slice A0_0 l0_0.length c0_0, .slice A0_1 l0_1.length c0_1] 34 (0, 0)) (pK BK819.out)) : gb879 ≠ gb819)); have n20_ := Aside0.mk ((by rw [hg]; exact Nat.ne_of_lt (blk_lt (g := gb834) (o := .cells #[.slice Ao25 t827.length co25, .slice Ao28 t830.length co28] 26 (0, 0)) (pK BK834.out)) : gb834 ≠ gb879)); have n21_ := Aside0.mk ((by rw [hg]; exact Nat.ne_of_gt (blk_lt (g := gb834) (o := .cells #[.slice Ao25 t827.length co25, .slice Ao28 t830.length co28] 26 (0, 0)) (pK BK834.out)) : gb879 ≠ gb834)); have n22_ := Aside0.mk ((by rw [hg]; exact Nat.ne_of_lt (blk_lt (g := gb841) (o := .cells #[.slice Ao32 t859.length co32, .slice Ao36 t860.length co36] 26 (0, 0)) (pK BK841.out)) : gb841 ≠ gb879)); have n23_ := Aside0.mk ((by rw [hg]; exact Nat.ne_of_gt (blk_lt (g := gb841) (o := .cells #[.slice Ao32 t859.length co32, .slice Ao36 t860.length co36] 26 (0, 0)) (pK BK841.out)) : gb879 ≠ gb841)); have n24_ := Aside0.mk ((by rw [hg]; exact Nat.ne_of_lt (blk_lt (g := gb849) (o := .cells #[.slice Ao39 t842.length co39, .slice Ao44 t845.length co44] 26 (0, 0)) (pK BK849.out)) : gb849 ≠ gb879)); have n25_ := Aside0.mk ((by rw [hg]; exact Nat.ne_of_gt (blk_lt (g := gb849) (o := .cells #[.slice Ao39 t842.length co39, .slice Ao44 t845.length co44] 26 (0, 0)) (pK BK849.out)) : gb879 ≠ gb849)); clear HO_835000; clear HO_835001; clear HO_842000; clear HO_842001; clear HO_850000; clear HO_850001; clear HO868; clear HO871; clear HO874; clear HO877; clear BK819; clear BK834; clear BK841; clear BK849; clear HB; have HO_835000 := n0_; have HO_835001 := n1_; have HO_842000 := n2_; have HO_842001 := n3_; have HO_850000 := n4_; have HO_850001 := n5_; have HO868 := n6_; have HO871 := n7_; have HO874 := n8_; have HO877 := n9_; have BK819 := n10_; have BK834 := n11_; have BK841 := n12_; have BK849 := n13_; have HB := n14_; have BK879 := n15_; have GW879 := n16_; have GE879 := n17_; have NB819_879 := n18_; have NB879_819 := n19_; have NB834_879 := n20_; have NB879_834 := n21_; have NB841_879 := n22_; have NB879_841 := n23_; have NB849_879 := n24_; have NB879_849 := n25_; clear n0_ n1_ n2_ n3_ n4_ n5_ n6_ n7_ n8_ n9_ n10_ n11_ n12_ n13_ n14_ n15_ n16_ n17_ n18_ n19_ n20_ n21_ n22_ n23_ n24_ n25_; clear hb hbox hg; obtain ⟨Ao128, co128, eo128⟩ := Kd.R_slice HO874.out; subst eo128; have hnb129 := NB879_819.out; have hnc129 := NB819_879.out; have hnb130 := NB879_834.out; have hnc130 := NB834_879.out; have hnb131 := NB879_841.out; have hnc131 := NB841_879.out; have hnb132 := NB879_849.out; have hnc132 := NB849_879.out; have hcz133_0 : w127.cell? ⟨gb879, 0, none⟩ = some (.slice none 0 0) := (blk_cell BK879.out 0).trans rfl; have hcz133_1 : w127.cell? ⟨gb879, 1, none⟩ = some (.slice none 0 0) := (blk_cell BK879.out 1).trans rfl; have hfz133_0 := blk_frozen BK879.out 0; have hfz133_1 := blk_frozen BK879.out 1; obtain ⟨Ao134, co134, eo134⟩ := Kd.R_slice HO877.out; subst eo134))
            (try simp only [Act.put, List.setIfInBounds_toArray, List.set_cons_zero, List.set_cons_succ])
            go_cut [100] (fun v100 wc => ∃ (kq : Nat) (x100_111 : Bool), v100 = .bool x100_111 ∧ Aside0 (laws_FnExactSecPut.j2 kq t862 x100_111 t863 t864 = some r) ∧ Aside0 (kq ≤ kj67) ∧ Aside0 (Kd.R Kd.string 9 wc w.heap.size (fun k_ => some k_ ≠ ((.slice Ao32 t859.length co32) : Value).ownBlock ∧ some k_ ≠ ((.slice Ao39 t842.length co39) : Value).ownBlock ∧ some k_ ≠ ((.slice Ao128 t872.length co128) : Value).ownBlock) (.slice Ao25 t827.length co25) t827) ∧ Aside0 (Kd.R k54 54 wc w.heap.size (fun k_ => some k_ ≠ ((.slice Ao36 t860.length co36) : Value).ownBlock ∧ some k_ ≠ ((.slice Ao44 t845.length co44) : Value).ownBlock ∧ some k_ ≠ ((.slice Ao134 t875.length co134) : Value).ownBlock) (.slice Ao28 t830.length co28) t830) ∧ Aside0 (Kd.R Kd.string 9 wc w.heap.size (fun k_ => some k_ ≠ ((.slice Ao25 t827.length co25) : Value).ownBlock ∧ some k_ ≠ ((.slice Ao39 t842.length co39) : Value).ownBlock ∧ some k_ ≠ ((.slice Ao128 t872.length co128) : Value).ownBlock) (.slice Ao32 t859.length co32) t859) ∧ Aside0 (Kd.R k54 54 wc w.heap.size (fun k_ => some k_ ≠ ((.slice Ao28 t830.length co28) : Value).ownBlock ∧ some k_ ≠ ((.slice Ao44 t845.length co44) : Value).ownBlock ∧ some k_ ≠ ((.slice Ao134 t875.length co134) : Value).ownBlock) (.slice Ao36 t860.length co36) t860) ∧ Aside0 (Kd.R Kd.string 9 wc w.heap.size (fun k_ => some k_ ≠ ((.slice Ao25 t827.length co25) : Value).ownBlock ∧ some k_ ≠ ((.slice Ao32 t859.length co32) : Value).ownBlock ∧ some k_ ≠ ((.slice Ao128 t872.length co128) : Value).ownBlock) (.slice Ao39 t842.length co39) t863) ∧ Aside0 (Kd.R k54 54 wc w.heap.size (fun k_ => some k_ ≠ ((.slice Ao28 t830.length co28) : Value).ownBlock ∧ some k_ ≠ ((.slice Ao36 t860.length co36) : Value).ownBlock ∧ some k_ ≠ ((.slice Ao134 t875.length co134) : Value).ownBlock) (.slice Ao44 t845.length co44) t864) ∧ Aside0 (Kd.R Kd.string 9 wc w.heap.size (fun k_ => some k_ ≠ ((.slice Ao25 t827.length co25) : Value).ownBlock ∧ some k_ ≠ ((.slice Ao32 t859.length co32) : Value).ownBlock ∧ some k_ ≠ ((.slice Ao39 t842.length co39) : Value).ownBlock) (.slice Ao128 t872.length co128) t872) ∧ Aside0 (Kd.R k54 54 wc w.heap.size (fun k_ => some k_ ≠ ((.slice Ao28 t830.length co28) : Value).ownBlock ∧ some k_ ≠ ((.slice Ao36 t860.length co36) : Value).ownBlock ∧ some k_ ≠ ((.slice Ao44 t845.length co44) : Value).ownBlock) (.slice Ao134 t875.length co134) t875) ∧ Aside0 (wc.heap[gb819]? = some (.cells #[(.slice A0_0 l0_0.length c0_0), (.slice A0_1 l0_1.length c0_1)] 34 (0, 0))) ∧ Aside0 (wc.heap[gb834]? = some (.cells #[(.slice Ao25 t827.length co25), (.slice Ao28 t830.length co28)] 26 (0, 0))) ∧ Aside0 (wc.heap[gb841]? = some (.cells #[(.slice Ao32 t859.length co32), (.slice Ao36 t860.length co36)] 26 (0, 0))) ∧ Aside0 (wc.heap[gb849]? = some (.cells #[(.slice Ao39 t842.length co39), (.slice Ao44 t845.length co44)] 26 (0, 0))) ∧ Aside0 (wc.heap[gb879]? = some (.cells #[(.slice Ao128 t872.length co128), (.slice Ao134 t875.length co134)] 26 (0, 0))) ∧ Aside0 (Below w.heap.size w wc))
            case first =>
             have H := HC112.out
             clear HC112
             replace H := Option.bind_eq_some_iff.mp H
             obtain ⟨t880, A1350, H⟩ := H
             replace H : (if t880 = true then (laws_FnExactSecPut.j2 kj67 t862 (t878 != t833) t863 t864) else (laws_FnExactSecPut.j2 kj67 t862 true t863 t864)) = some r := H
             have A135 := Aside0.mk A1350
             clear A1350
             by_cases c136 : t880 = true
             ·subst c136
              have H1 : (laws_FnExactSecPut.j2 kj67 t862 (t878 != t833) t863 t864) = some r := by rw [if_pos rfl] at H; exact H
              clear H
              have H := H1
              clear H1
              have H' := Aside0.mk H
              clear H
              have hnb137 := NB879_819.out
              have hnc137 := NB819_879.out
              have hnb138 := NB879_834.out
              have hnc138 := NB834_879.out
              have hnb139 := NB879_841.out
              have hnc139 := NB841_879.out
              have hnb140 := NB879_849.out
              have hnc140 := NB849_879.out
              have hcz141_0 : w127.cell? ⟨gb879, 0, none⟩ = some (.slice none 0 0) := (blk_cell BK879.out 0).trans rfl
              have hcz141_1 : w127.cell? ⟨gb879, 1, none⟩ = some (.slice none 0 0) := (blk_cell BK879.out 1).trans rfl
              have hfz141_0 := blk_frozen BK879.out 0
              have hfz141_1 := blk_frozen BK879.out 1
              have hnb142 := NB834_819.out
              have hnc142 := NB819_834.out
              have hnb143 := NB834_841.out
              have hnc143 := NB841_834.out
              have hnb144 := NB834_849.out
              have hnc144 := NB849_834.out
              have hcz145_0 : w127.cell? ⟨gb834, 0, none⟩ = some (.slice Ao25 t827.length co25) := (blk_cell BK834.out 0).trans rfl
              have hcz145_1 : w127.cell? ⟨gb834, 1, none⟩ = some (.slice Ao28 t830.length co28) := (blk_cell BK834.out 1).trans rfl
              have hfz145_0 := blk_frozen BK834.out 0
              have hfz145_1 := blk_frozen BK834.out 1
              go_wp2_with (first | ((with_reducible refine gate_callee (f := 17) rfl ?_); refine goesL_ (some 94) rfl rfl Try.func17 (by kernel_rfl) rfl #[.agg #[.slice Ao128 t872.length co128, .slice Ao134 t875.length co134], .agg #[.slice Ao25 t827.length co25, .slice Ao28 t830.length co28]] rfl bM ?_; (with_reducible refine (laws_eqSecDisk.calls kj67 _ _ t872 _ _ t875 _ _ t827 _ _ t830 true _ ?side1 ?side2 ?side3 ?side4 ?side5 ?side6 ?side7 ?side8 A135.out).mono ?_); (case side1 => refine (Kd.R_reads' (e := 9) (base := w.heap.size) (ok := fun k_ => ((((True ∧ some k_ ≠ (.slice Ao25 t827.length co25 : Value).ownBlock) ∧ some k_ ≠ (.slice Ao32 t859.length co32 : Value).ownBlock) ∧ some k_ ≠ (.slice Ao39 t842.length co39 : Value).ownBlock) ∧ some k_ ≠ (.slice Ao124 t866.length co124 : Value).ownBlock)) (n := t872.length) (c := co128) ?_).2.2; exact (pR (Kd.R_mono (Kd.R_far (p := ⟨gb879, 1, none⟩) (Kd.R_far (p := ⟨gb879, 0, none⟩) (Kd.R_types HO874.out BK879.out (by decide)) (fun _ hk => hk.2) (.slice Ao128 t872.length co128)) (fun _ hk => hk.2) (.slice Ao134 t875.length co134)) (fun _ h_ => h_.1)))); (case side2 => exact (Kd.R_reads' HO874.out).2.1); (case side3 => refine (Kd.R_reads' (e := 54) (base := w.heap.size) (ok := fun k_ => ((((True ∧ some k_ ≠ (.slice Ao28 t830.length co28 : Value).ownBlock) ∧ some k_ ≠ (.slice Ao36 t860.length co36 : Value).ownBlock) ∧ some k_ ≠ (.slice Ao44 t845.length co44 : Value).ownBlock) ∧ some k_ ≠ (.slice Ao125 t869.length co125 : Value).ownBlock)) (n := t875.length) (c := co134) ?_).2.2; exact (pR (Kd.R_mono (Kd.R_far (p := ⟨gb879, 1, none⟩) (Kd.R_far (p := ⟨gb879, 0, none⟩) (Kd.R_types HO877.out BK879.out (by decide)) (fun _ hk => hk.2) (.slice Ao128 t872.length co128)) (fun _ hk => hk.2) (.slice Ao134 t875.length co134)) (fun _ h_ => h_.1)))); (case side4 => exact (Kd.R_reads' HO877.out).2.1); (case side5 => refine (Kd.R_reads' (e := 9) (base := w.heap.size) (ok := fun k_ => (((some k_ ≠ (.slice Ao32 t859.length co32 : Value).ownBlock ∧ some k_ ≠ (.slice Ao39 t842.length co39 : Value).ownBlock) ∧ some k_ ≠ (.slice Ao124 t866.length co124 : Value).ownBlock) ∧ some k_ ≠ (.slice Ao128 t872.length co128 : Value).ownBlock)) (n := t827.length) (c := co25) ?_).2.2; exact (pR (Kd.R_mono (Kd.R_far (p := ⟨gb879, 1, none⟩) (Kd.R_far (p := ⟨gb879, 0, none⟩) (Kd.R_types HO_835000.out BK879.out (by decide)) (fun _ hk => hk.2) (.slice Ao128 t872.length co128)) (fun _ hk => hk.2) (.slice Ao134 t875.length co134)) (fun _ h_ => h_.1)))); (case side6 => exact (Kd.R_reads' HO_835000.out).2.1); (case side7 => refine (Kd.R_reads' (e := 54) (base := w.heap.size) (ok := fun k_ => (((some k_ ≠ (.slice Ao36 t860.length co36 : Value).ownBlock ∧ some k_ ≠ (.slice Ao44 t845.length co44 : Value).ownBlock) ∧ some k_ ≠ (.slice Ao125 t869.length co125 : Value).ownBlock) ∧ some k_ ≠ (.slice Ao134 t875.length co134 : Value).ownBlock)) (n := t830.length) (c := co28) ?_).2.2; exact (pR (Kd.R_mono (Kd.R_far (p := ⟨gb879, 1, none⟩) (Kd.R_far (p := ⟨gb879, 0, none⟩) (Kd.R_types HO_835001.out BK879.out (by decide)) (fun _ hk => hk.2) (.slice Ao128 t872.length co128)) (fun _ hk => hk.2) (.slice Ao134 t875.length co134)) (fun _ h_ => h_.1)))); (case side8 => exact (Kd.R_reads' HO_835001.out).2.1); rintro e w146 ⟨rfl, hb⟩; refine ⟨_, rfl, ?_⟩; have n0_ := Aside0.mk (Kd.R_below (pR (Kd.R_mono (Kd.R_far (p := ⟨gb879, 1, none⟩) (Kd.R_far (p := ⟨gb879, 0, none⟩) (Kd.R_types HO_835000.out BK879.out (by decide)) (fun _ hk => hk.2) (.slice Ao128 t872.length co128)) (fun _ hk => hk.2) (.slice Ao134 t875.length co134)) (fun _ h_ => h_.1))) hb); have n1_ := Aside0.mk (Kd.R_below (pR (Kd.R_mono (Kd.R_far (p := ⟨gb879, 1, none⟩) (Kd.R_far (p := ⟨gb879, 0, none⟩) (Kd.R_types HO_835001.out BK879.out (by decide)) (fun _ hk => hk.2) (.slice Ao128 t872.length co128)) (fun _ hk => hk.2) (.slice Ao134 t875.length co134)) (fun _ h_ => h_.1))) hb); have n2_ := Aside0.mk (Kd.R_below (pR (Kd.R_mono (Kd.R_far (p := ⟨gb879, 1, none⟩) (Kd.R_far (p := ⟨gb879, 0, none⟩) (Kd.R_types HO_842000.out BK879.out (by decide)) (fun _ hk => hk.2) (.slice Ao128 t872.length co128)) (fun _ hk => hk.2) (.slice Ao134 t875.length co134)) (fun _ h_ => h_.1))) hb); have n3_ := Aside0.mk (Kd.R_below (pR (Kd.R_mono (Kd.R_far (p := ⟨gb879, 1, none⟩) (Kd.R_far (p := ⟨gb879, 0, none⟩) (Kd.R_types HO_842001.out BK879.out (by decide)) (fun _ hk => hk.2) (.slice Ao128 t872.length co128)) (fun _ hk => hk.2) (.slice Ao134 t875.length co134)) (fun _ h_ => h_.1))) hb); have n4_ := Aside0.mk (Kd.R_below (pR (Kd.R_mono (Kd.R_far (p := ⟨gb879, 1, none⟩) (Kd.R_far (p := ⟨gb879, 0, none⟩) (Kd.R_types HO_850000.out BK879.out (by decide)) (fun _ hk => hk.2) (.slice Ao128 t872.length co128)) (fun _ hk => hk.2) (.slice Ao134 t875.length co134)) (fun _ h_ => h_.1))) hb); have n5_ := Aside0.mk (Kd.R_below (pR (Kd.R_mono (Kd.R_far (p := ⟨gb879, 1, none⟩) (Kd.R_far (p := ⟨gb879, 0, none⟩) (Kd.R_types HO_850001.out BK879.out (by decide)) (fun _ hk => hk.2) (.slice Ao128 t872.length co128)) (fun _ hk => hk.2) (.slice Ao134 t875.length co134)) (fun _ h_ => h_.1))) hb); have n6_ := Aside0.mk (Kd.R_below (pR (Kd.R_mono (Kd.R_far (p := ⟨gb879, 1, none⟩) (Kd.R_far (p := ⟨gb879, 0, none⟩) (Kd.R_types HO868.out BK879.out (by decide)) (fun _ hk => hk.2) (.slice Ao128 t872.length co128)) (fun _ hk => hk.2) (.slice Ao134 t875.length co134)) (fun _ h_ => h_.1))) hb); have n7_ := Aside0.mk (Kd.R_below (pR (Kd.R_mono (Kd.R_far (p := ⟨gb879, 1, none⟩) (Kd.R_far (p := ⟨gb879, 0, none⟩) (Kd.R_types HO871.out BK879.out (by decide)) (fun _ hk => hk.2) (.slice Ao128 t872.length co128)) (fun _ hk => hk.2) (.slice Ao134 t875.length co134)) (fun _ h_ => h_.1))) hb); have n8_ := Aside0.mk (Kd.R_below (pR (Kd.R_mono (Kd.R_far (p := ⟨gb879, 1, none⟩) (Kd.R_far (p := ⟨gb879, 0, none⟩) (Kd.R_types HO874.out BK879.out (by decide)) (fun _ hk => hk.2) (.slice Ao128 t872.length co128)) (fun _ hk => hk.2) (.slice Ao134 t875.length co134)) (fun _ h_ => h_.1))) hb); have n9_ := Aside0.mk (Kd.R_below (pR (Kd.R_mono (Kd.R_far (p := ⟨gb879, 1, none⟩) (Kd.R_far (p := ⟨gb879, 0, none⟩) (Kd.R_types HO877.out BK879.out (by decide)) (fun _ hk => hk.2) (.slice Ao128 t872.length co128)) (fun _ hk => hk.2) (.slice Ao134 t875.length co134)) (fun _ h_ => h_.1))) hb); have n10_ := Aside0.mk (blk_below (g := gb819) (o := .cells #[.slice A0_0 l0_0.length c0_0, .slice A0_1 l0_1.length c0_1] 34 (0, 0)) (by (with_reducible repeat (first | refine blk_drewN ?_ _ | refine blk_drew ?_ | refine blk_alloc ?_ _)); refine blk_far ?_ NB819_879.out _; (with_reducible repeat (first | refine blk_drewN ?_ _ | refine blk_drew ?_ | refine blk_alloc ?_ _)); refine blk_far ?_ NB819_879.out _; (with_reducible repeat (first | refine blk_drewN ?_ _ | refine blk_drew ?_ | refine blk_alloc ?_ _)); exact BK819.out) hb); have n11_ := Aside0.mk (blk_below (g := gb834) (o := .cells #[.slice Ao25 t827.length co25, .slice Ao28 t830.length co28] 26 (0, 0)) (by (with_reducible repeat (first | refine blk_drewN ?_ _ | refine blk_drew ?_ | refine blk_alloc ?_ _)); refine blk_far ?_ NB834_879.out _; (with_reducible repeat (first | refine blk_drewN ?_ _ | refine blk_drew ?_ | refine blk_alloc ?_ _)); refine blk_far ?_ NB834_879.out _; (with_reducible repeat (first | refine blk_drewN ?_ _ | refine blk_drew ?_ | refine blk_alloc ?_ _)); exact BK834.out) hb); have n12_ := Aside0.mk (blk_below (g := gb841) (o := .cells #[.slice Ao32 t859.length co32, .slice Ao36 t860.length co36] 26 (0, 0)) (by (with_reducible repeat (first | refine blk_drewN ?_ _ | refine blk_drew ?_ | refine blk_alloc ?_ _)); refine blk_far ?_ NB841_879.out _; (with_reducible repeat (first | refine blk_drewN ?_ _ | refine blk_drew ?_ | refine blk_alloc ?_ _)); refine blk_far ?_ NB841_879.out _; (with_reducible repeat (first | refine blk_drewN ?_ _ | refine blk_drew ?_ | refine blk_alloc ?_ _)); exact BK841.out) hb); have n13_ := Aside0.mk (blk_below (g := gb849) (o := .cells #[.slice Ao39 t842.length co39, .slice Ao44 t845.length co44] 26 (0, 0)) (by (with_reducible repeat (first | refine blk_drewN ?_ _ | refine blk_drew ?_ | refine blk_alloc ?_ _)); refine blk_far ?_ NB849_879.out _; (with_reducible repeat (first | refine blk_drewN ?_ _ | refine blk_drew ?_ | refine blk_alloc ?_ _)); refine blk_far ?_ NB849_879.out _; (with_reducible repeat (first | refine blk_drewN ?_ _ | refine blk_drew ?_ | refine blk_alloc ?_ _)); exact BK849.out) hb); have n14_ := Aside0.mk (blk_below (g := gb879) (o := .cells #[.slice Ao128 t872.length co128, .slice Ao134 t875.length co134] 26 (0, 0)) (by (with_reducible repeat (first | refine blk_drewN ?_ _ | refine blk_drew ?_ | refine blk_alloc ?_ _)); refine blk_put (cs := #[.slice Ao128 t872.length co128, .slice none 0 0]) ?_ 1 _ rfl; (with_reducible repeat (first | refine blk_drewN ?_ _ | refine blk_drew ?_ | refine blk_alloc ?_ _)); refine blk_put (cs := #[.slice none 0 0, .slice none 0 0]) ?_ 0 _ rfl; (with_reducible repeat (first | refine blk_drewN ?_ _ | refine blk_drew ?_ | refine blk_alloc ?_ _)); exact BK879.out) hb); have n15_ := Aside0.mk (below_step (by repeat (first | (with_reducible first | exact HB.out | apply below_alloc | apply pw_below_drewN | apply below_drew1 | refine below_set ?_ GE819.out | refine below_set ?_ GE834.out | refine below_set ?_ GE841.out | refine below_set ?_ GE849.out | refine below_set ?_ GE879.out) | exact HB.out)) hb); clear HO_835000; clear HO_835001; clear HO_842000; clear HO_842001; clear HO_850000; clear HO_850001; clear HO868; clear HO871; clear HO874; clear HO877; clear BK819; clear BK834; clear BK841; clear BK849; clear BK879; clear HB; have HO_835000 := n0_; have HO_835001 := n1_; have HO_842000 := n2_; have HO_842001 := n3_; have HO_850000 := n4_; have HO_850001 := n5_; have HO868 := n6_; have HO871 := n7_; have HO874 := n8_; have HO877 := n9_; have BK819 := n10_; have BK834 := n11_; have BK841 := n12_; have BK849 := n13_; have BK879 := n14_; have HB := n15_; clear n0_ n1_ n2_ n3_ n4_ n5_ n6_ n7_ n8_ n9_ n10_ n11_ n12_ n13_ n14_ n15_; (try clear hb); (try clear hb2); (try clear hk); (try clear hi)))
              go_meet
              case rel => exact ⟨_, ((t878 != t833)), (by first | rfl | (simp; done) | (simp [*]; done)), H', ⟨by have := HJ14.out; have := HJ67.out; first | omega | exact Nat.le_refl _⟩, ⟨by (try simp only [hl842000_67]); (try simp only [hl842001_67]); (with_reducible repeat (first | apply Kd.R_alloc | apply Kd.R_drewN | apply Kd.R_drew)); exact Kd.R_mono HO_835000.out (fun _ hk => ⟨hk.1.1.1, ⟨hk.1.1.2, hk.2⟩⟩)⟩, ⟨by (try simp only [hl842000_67]); (try simp only [hl842001_67]); (with_reducible repeat (first | apply Kd.R_alloc | apply Kd.R_drewN | apply Kd.R_drew)); exact Kd.R_mono HO_835001.out (fun _ hk => ⟨hk.1.1.1, ⟨hk.1.1.2, hk.2⟩⟩)⟩, ⟨by (try simp only [hl842000_67]); (try simp only [hl842001_67]); (with_reducible repeat (first | apply Kd.R_alloc | apply Kd.R_drewN | apply Kd.R_drew)); exact Kd.R_mono HO_842000.out (fun _ hk => ⟨hk.1.1.1, ⟨hk.1.1.2, hk.2⟩⟩)⟩, ⟨by (try simp only [hl842000_67]); (try simp only [hl842001_67]); (with_reducible repeat (first | apply Kd.R_alloc | apply Kd.R_drewN | apply Kd.R_drew)); exact Kd.R_mono HO_842001.out (fun _ hk => ⟨hk.1.1.1, ⟨hk.1.1.2, hk.2⟩⟩)⟩, ⟨by (try simp only [hl842000_67]); (try simp only [hl842001_67]); (with_reducible repeat (first | apply Kd.R_alloc | apply Kd.R_drewN | apply Kd.R_drew)); exact Kd.R_mono HO_850000.out (fun _ hk => ⟨hk.1.1.1, ⟨hk.1.1.2, hk.2⟩⟩)⟩, ⟨by (try simp only [hl842000_67]); (try simp only [hl842001_67]); (with_reducible repeat (first | apply Kd.R_alloc | apply Kd.R_drewN | apply Kd.R_drew)); exact Kd.R_mono HO_850001.out (fun _ hk => ⟨hk.1.1.1, ⟨hk.1.1.2, hk.2⟩⟩)⟩, ⟨by (try simp only [hl842000_67]); (try simp only [hl842001_67]); (with_reducible repeat (first | apply Kd.R_alloc | apply Kd.R_drewN | apply Kd.R_drew)); exact Kd.R_mono HO874.out (fun _ hk => ⟨hk.1.1.1.2, ⟨hk.1.1.2, hk.1.2⟩⟩)⟩, ⟨by (try simp only [hl842000_67]); (try simp only [hl842001_67]); (with_reducible repeat (first | apply Kd.R_alloc | apply Kd.R_drewN | apply Kd.R_drew)); exact Kd.R_mono HO877.out (fun _ hk => ⟨hk.1.1.1.2, ⟨hk.1.1.2, hk.1.2⟩⟩)⟩, ⟨by (try simp only [hl842000_67]); (try simp only [hl842001_67]); (with_reducible repeat (first | refine blk_drewN ?_ _ | refine blk_drew ?_ | refine blk_alloc ?_ _)); exact BK819.out⟩, ⟨by (try simp only [hl842000_67]); (try simp only [hl842001_67]); (with_reducible repeat (first | refine blk_drewN ?_ _ | refine blk_drew ?_ | refine blk_alloc ?_ _)); exact BK834.out⟩, ⟨by (try simp only [hl842000_67]); (try simp only [hl842001_67]); (with_reducible repeat (first | refine blk_drewN ?_ _ | refine blk_drew ?_ | refine blk_alloc ?_ _)); exact BK841.out⟩, ⟨by (try simp only [hl842000_67]); (try simp only [hl842001_67]); (with_reducible repeat (first | refine blk_drewN ?_ _ | refine blk_drew ?_ | refine blk_alloc ?_ _)); exact BK849.out⟩, ⟨by (try simp only [hl842000_67]); (try simp only [hl842001_67]); (with_reducible repeat (first | refine blk_drewN ?_ _ | refine blk_drew ?_ | refine blk_alloc ?_ _)); exact BK879.out⟩, ⟨by repeat (first | (with_reducible first | exact HB.out | apply below_alloc | apply pw_below_drewN | apply below_drew1 | refine below_set ?_ GE819.out | refine below_set ?_ GE834.out | refine below_set ?_ GE841.out | refine below_set ?_ GE849.out | refine below_set ?_ GE879.out) | exact HB.out)⟩⟩
             ·replace c136 := Bool.eq_false_iff.mpr c136
              subst c136
              have H1 : (laws_FnExactSecPut.j2 kj67 t862 true t863 t864) = some r := by rw [if_neg (show ¬ (false = true) by decide)] at H; exact H
              clear H
              have H := H1
              clear H1
              have H' := Aside0.mk H
              clear H
              have hnb147 := NB879_819.out
              have hnc147 := NB819_879.out
              have hnb148 := NB879_834.out
              have hnc148 := NB834_879.out
              have hnb149 := NB879_841.out
              have hnc149 := NB841_879.out
              have hnb150 := NB879_849.out
              have hnc150 := NB849_879.out
              have hcz151_0 : w127.cell? ⟨gb879, 0, none⟩ = some (.slice none 0 0) := (blk_cell BK879.out 0).trans rfl
              have hcz151_1 : w127.cell? ⟨gb879, 1, none⟩ = some (.slice none 0 0) := (blk_cell BK879.out 1).trans rfl
              have hfz151_0 := blk_frozen BK879.out 0
              have hfz151_1 := blk_frozen BK879.out 1
              have hnb152 := NB834_819.out
              have hnc152 := NB819_834.out
              have hnb153 := NB834_841.out
              have hnc153 := NB841_834.out
              have hnb154 := NB834_849.out
              have hnc154 := NB849_834.out
              have hcz155_0 : w127.cell? ⟨gb834, 0, none⟩ = some (.slice Ao25 t827.length co25) := (blk_cell BK834.out 0).trans rfl
              have hcz155_1 : w127.cell? ⟨gb834, 1, none⟩ = some (.slice Ao28 t830.length co28) := (blk_cell BK834.out 1).trans rfl
              have hfz155_0 := blk_frozen BK834.out 0
              have hfz155_1 := blk_frozen BK834.out 1
              go_wp2_with (first | ((with_reducible refine gate_callee (f := 17) rfl ?_); refine goesL_ (some 94) rfl rfl Try.func17 (by kernel_rfl) rfl #[.agg #[.slice Ao128 t872.length co128, .slice Ao134 t875.length co134], .agg #[.slice Ao25 t827.length co25, .slice Ao28 t830.length co28]] rfl bM ?_; (with_reducible refine (laws_eqSecDisk.calls kj67 _ _ t872 _ _ t875 _ _ t827 _ _ t830 false _ ?side1 ?side2 ?side3 ?side4 ?side5 ?side6 ?side7 ?side8 A135.out).mono ?_); (case side1 => refine (Kd.R_reads' (e := 9) (base := w.heap.size) (ok := fun k_ => ((((True ∧ some k_ ≠ (.slice Ao25 t827.length co25 : Value).ownBlock) ∧ some k_ ≠ (.slice Ao32 t859.length co32 : Value).ownBlock) ∧ some k_ ≠ (.slice Ao39 t842.length co39 : Value).ownBlock) ∧ some k_ ≠ (.slice Ao124 t866.length co124 : Value).ownBlock)) (n := t872.length) (c := co128) ?_).2.2; exact (pR (Kd.R_mono (Kd.R_far (p := ⟨gb879, 1, none⟩) (Kd.R_far (p := ⟨gb879, 0, none⟩) (Kd.R_types HO874.out BK879.out (by decide)) (fun _ hk => hk.2) (.slice Ao128 t872.length co128)) (fun _ hk => hk.2) (.slice Ao134 t875.length co134)) (fun _ h_ => h_.1)))); (case side2 => exact (Kd.R_reads' HO874.out).2.1); (case side3 => refine (Kd.R_reads' (e := 54) (base := w.heap.size) (ok := fun k_ => ((((True ∧ some k_ ≠ (.slice Ao28 t830.length co28 : Value).ownBlock) ∧ some k_ ≠ (.slice Ao36 t860.length co36 : Value).ownBlock) ∧ some k_ ≠ (.slice Ao44 t845.length co44 : Value).ownBlock) ∧ some k_ ≠ (.slice Ao125 t869.length co125 : Value).ownBlock)) (n := t875.length) (c := co134) ?_).2.2; exact (pR (Kd.R_mono (Kd.R_far (p := ⟨gb879, 1, none⟩) (Kd.R_far (p := ⟨gb879, 0, none⟩) (Kd.R_types HO877.out BK879.out (by decide)) (fun _ hk => hk.2) (.slice Ao128 t872.length co128)) (fun _ hk => hk.2) (.slice Ao134 t875.length co134)) (fun _ h_ => h_.1)))); (case side4 => exact (Kd.R_reads' HO877.out).2.1); (case side5 => refine (Kd.R_reads' (e := 9) (base := w.heap.size) (ok := fun k_ => (((some k_ ≠ (.slice Ao32 t859.length co32 : Value).ownBlock ∧ some k_ ≠ (.slice Ao39 t842.length co39 : Value).ownBlock) ∧ some k_ ≠ (.slice Ao124 t866.length co124 : Value).ownBlock) ∧ some k_ ≠ (.slice Ao128 t872.length co128 : Value).ownBlock)) (n := t827.length) (c := co25) ?_).2.2; exact (pR (Kd.R_mono (Kd.R_far (p := ⟨gb879, 1, none⟩) (Kd.R_far (p := ⟨gb879, 0, none⟩) (Kd.R_types HO_835000.out BK879.out (by decide)) (fun _ hk => hk.2) (.slice Ao128 t872.length co128)) (fun _ hk => hk.2) (.slice Ao134 t875.length co134)) (fun _ h_ => h_.1)))); (case side6 => exact (Kd.R_reads' HO_835000.out).2.1); (case side7 => refine (Kd.R_reads' (e := 54) (base := w.heap.size) (ok := fun k_ => (((some k_ ≠ (.slice Ao36 t860.length co36 : Value).ownBlock ∧ some k_ ≠ (.slice Ao44 t845.length co44 : Value).ownBlock) ∧ some k_ ≠ (.slice Ao125 t869.length co125 : Value).ownBlock) ∧ some k_ ≠ (.slice Ao134 t875.length co134 : Value).ownBlock)) (n := t830.length) (c := co28) ?_).2.2; exact (pR (Kd.R_mono (Kd.R_far (p := ⟨gb879, 1, none⟩) (Kd.R_far (p := ⟨gb879, 0, none⟩) (Kd.R_types HO_835001.out BK879.out (by decide)) (fun _ hk => hk.2) (.slice Ao128 t872.length co128)) (fun _ hk => hk.2) (.slice Ao134 t875.length co134)) (fun _ h_ => h_.1)))); (case side8 => exact (Kd.R_reads' HO_835001.out).2.1); rintro e w156 ⟨rfl, hb⟩; refine ⟨_, rfl, ?_⟩; have n0_ := Aside0.mk (Kd.R_below (pR (Kd.R_mono (Kd.R_far (p := ⟨gb879, 1, none⟩) (Kd.R_far (p := ⟨gb879, 0, none⟩) (Kd.R_types HO_835000.out BK879.out (by decide)) (fun _ hk => hk.2) (.slice Ao128 t872.length co128)) (fun _ hk => hk.2) (.slice Ao134 t875.length co134)) (fun _ h_ => h_.1))) hb); have n1_ := Aside0.mk (Kd.R_below (pR (Kd.R_mono (Kd.R_far (p := ⟨gb879, 1, none⟩) (Kd.R_far (p := ⟨gb879, 0, none⟩) (Kd.R_types HO_835001.out BK879.out (by decide)) (fun _ hk => hk.2) (.slice Ao128 t872.length co128)) (fun _ hk => hk.2) (.slice Ao134 t875.length co134)) (fun _ h_ => h_.1))) hb); have n2_ := Aside0.mk (Kd.R_below (pR (Kd.R_mono (Kd.R_far (p := ⟨gb879, 1, none⟩) (Kd.R_far (p := ⟨gb879, 0, none⟩) (Kd.R_types HO_842000.out BK879.out (by decide)) (fun _ hk => hk.2) (.slice Ao128 t872.length co128)) (fun _ hk => hk.2) (.slice Ao134 t875.length co134)) (fun _ h_ => h_.1))) hb); have n3_ := Aside0.mk (Kd.R_below (pR (Kd.R_mono (Kd.R_far (p := ⟨gb879, 1, none⟩) (Kd.R_far (p := ⟨gb879, 0, none⟩) (Kd.R_types HO_842001.out BK879.out (by decide)) (fun _ hk => hk.2) (.slice Ao128 t872.length co128)) (fun _ hk => hk.2) (.slice Ao134 t875.length co134)) (fun _ h_ => h_.1))) hb); have n4_ := Aside0.mk (Kd.R_below (pR (Kd.R_mono (Kd.R_far (p := ⟨gb879, 1, none⟩) (Kd.R_far (p := ⟨gb879, 0, none⟩) (Kd.R_types HO_850000.out BK879.out (by decide)) (fun _ hk => hk.2) (.slice Ao128 t872.length co128)) (fun _ hk => hk.2) (.slice Ao134 t875.length co134)) (fun _ h_ => h_.1))) hb); have n5_ := Aside0.mk (Kd.R_below (pR (Kd.R_mono (Kd.R_far (p := ⟨gb879, 1, none⟩) (Kd.R_far (p := ⟨gb879, 0, none⟩) (Kd.R_types HO_850001.out BK879.out (by decide)) (fun _ hk => hk.2) (.slice Ao128 t872.length co128)) (fun _ hk => hk.2) (.slice Ao134 t875.length co134)) (fun _ h_ => h_.1))) hb); have n6_ := Aside0.mk (Kd.R_below (pR (Kd.R_mono (Kd.R_far (p := ⟨gb879, 1, none⟩) (Kd.R_far (p := ⟨gb879, 0, none⟩) (Kd.R_types HO868.out BK879.out (by decide)) (fun _ hk => hk.2) (.slice Ao128 t872.length co128)) (fun _ hk => hk.2) (.slice Ao134 t875.length co134)) (fun _ h_ => h_.1))) hb); have n7_ := Aside0.mk (Kd.R_below (pR (Kd.R_mono (Kd.R_far (p := ⟨gb879, 1, none⟩) (Kd.R_far (p := ⟨gb879, 0, none⟩) (Kd.R_types HO871.out BK879.out (by decide)) (fun _ hk => hk.2) (.slice Ao128 t872.length co128)) (fun _ hk => hk.2) (.slice Ao134 t875.length co134)) (fun _ h_ => h_.1))) hb); have n8_ := Aside0.mk (Kd.R_below (pR (Kd.R_mono (Kd.R_far (p := ⟨gb879, 1, none⟩) (Kd.R_far (p := ⟨gb879, 0, none⟩) (Kd.R_types HO874.out BK879.out (by decide)) (fun _ hk => hk.2) (.slice Ao128 t872.length co128)) (fun _ hk => hk.2) (.slice Ao134 t875.length co134)) (fun _ h_ => h_.1))) hb); have n9_ := Aside0.mk (Kd.R_below (pR (Kd.R_mono (Kd.R_far (p := ⟨gb879, 1, none⟩) (Kd.R_far (p := ⟨gb879, 0, none⟩) (Kd.R_types HO877.out BK879.out (by decide)) (fun _ hk => hk.2) (.slice Ao128 t872.length co128)) (fun _ hk => hk.2) (.slice Ao134 t875.length co134)) (fun _ h_ => h_.1))) hb); have n10_ := Aside0.mk (blk_below (g := gb819) (o := .cells #[.slice A0_0 l0_0.length c0_0, .slice A0_1 l0_1.length c0_1] 34 (0, 0)) (by (with_reducible repeat (first | refine blk_drewN ?_ _ | refine blk_drew ?_ | refine blk_alloc ?_ _)); refine blk_far ?_ NB819_879.out _; (with_reducible repeat (first | refine blk_drewN ?_ _ | refine blk_drew ?_ | refine blk_alloc ?_ _)); refine blk_far ?_ NB819_879.out _; (with_reducible repeat (first | refine blk_drewN ?_ _ | refine blk_drew ?_ | refine blk_alloc ?_ _)); exact BK819.out) hb); have n11_ := Aside0.mk (blk_below (g := gb834) (o := .cells #[.slice Ao25 t827.length co25, .slice Ao28 t830.length co28] 26 (0, 0)) (by (with_reducible repeat (first | refine blk_drewN ?_ _ | refine blk_drew ?_ | refine blk_alloc ?_ _)); refine blk_far ?_ NB834_879.out _; (with_reducible repeat (first | refine blk_drewN ?_ _ | refine blk_drew ?_ | refine blk_alloc ?_ _)); refine blk_far ?_ NB834_879.out _; (with_reducible repeat (first | refine blk_drewN ?_ _ | refine blk_drew ?_ | refine blk_alloc ?_ _)); exact BK834.out) hb); have n12_ := Aside0.mk (blk_below (g := gb841) (o := .cells #[.slice Ao32 t859.length co32, .slice Ao36 t860.length co36] 26 (0, 0)) (by (with_reducible repeat (first | refine blk_drewN ?_ _ | refine blk_drew ?_ | refine blk_alloc ?_ _)); refine blk_far ?_ NB841_879.out _; (with_reducible repeat (first | refine blk_drewN ?_ _ | refine blk_drew ?_ | refine blk_alloc ?_ _)); refine blk_far ?_ NB841_879.out _; (with_reducible repeat (first | refine blk_drewN ?_ _ | refine blk_drew ?_ | refine blk_alloc ?_ _)); exact BK841.out) hb); have n13_ := Aside0.mk (blk_below (g := gb849) (o := .cells #[.slice Ao39 t842.length co39, .slice Ao44 t845.length co44] 26 (0, 0)) (by (with_reducible repeat (first | refine blk_drewN ?_ _ | refine blk_drew ?_ | refine blk_alloc ?_ _)); refine blk_far ?_ NB849_879.out _; (with_reducible repeat (first | refine blk_drewN ?_ _ | refine blk_drew ?_ | refine blk_alloc ?_ _)); refine blk_far ?_ NB849_879.out _; (with_reducible repeat (first | refine blk_drewN ?_ _ | refine blk_drew ?_ | refine blk_alloc ?_ _)); exact BK849.out) hb); have n14_ := Aside0.mk (blk_below (g := gb879) (o := .cells #[.slice Ao128 t872.length co128, .slice Ao134 t875.length co134] 26 (0, 0)) (by (with_reducible repeat (first | refine blk_drewN ?_ _ | refine blk_drew ?_ | refine blk_alloc ?_ _)); refine blk_put (cs := #[.slice Ao128 t872.length co128, .slice none 0 0]) ?_ 1 _ rfl; (with_reducible repeat (first | refine blk_drewN ?_ _ | refine blk_drew ?_ | refine blk_alloc ?_ _)); refine blk_put (cs := #[.slice none 0 0, .slice none 0 0]) ?_ 0 _ rfl; (with_reducible repeat (first | refine blk_drewN ?_ _ | refine blk_drew ?_ | refine blk_alloc ?_ _)); exact BK879.out) hb); have n15_ := Aside0.mk (below_step (by repeat (first | (with_reducible first | exact HB.out | apply below_alloc | apply pw_below_drewN | apply below_drew1 | refine below_set ?_ GE819.out | refine below_set ?_ GE834.out | refine below_set ?_ GE841.out | refine below_set ?_ GE849.out | refine below_set ?_ GE879.out) | exact HB.out)) hb); clear HO_835000; clear HO_835001; clear HO_842000; clear HO_842001; clear HO_850000; clear HO_850001; clear HO868; clear HO871; clear HO874; clear HO877; clear BK819; clear BK834; clear BK841; clear BK849; clear BK879; clear HB; have HO_835000 := n0_; have HO_835001 := n1_; have HO_842000 := n2_; have HO_842001 := n3_; have HO_850000 := n4_; have HO_850001 := n5_; have HO868 := n6_; have HO871 := n7_; have HO874 := n8_; have HO877 := n9_; have BK819 := n10_; have BK834 := n11_; have BK841 := n12_; have BK849 := n13_; have BK879 := n14_; have HB := n15_; clear n0_ n1_ n2_ n3_ n4_ n5_ n6_ n7_ n8_ n9_ n10_ n11_ n12_ n13_ n14_ n15_; (try clear hb); (try clear hb2); (try clear hk); (try clear hi)))
              go_meet
              case rel => exact ⟨_, (true), (by first | rfl | (simp; done) | (simp [*]; done)), H', ⟨by have := HJ14.out; have := HJ67.out; first | omega | exact Nat.le_refl _⟩, ⟨by (try simp only [hl842000_67]); (try simp only [hl842001_67]); (with_reducible repeat (first | apply Kd.R_alloc | apply Kd.R_drewN | apply Kd.R_drew)); exact Kd.R_mono HO_835000.out (fun _ hk => ⟨hk.1.1.1, ⟨hk.1.1.2, hk.2⟩⟩)⟩, ⟨by (try simp only [hl842000_67]); (try simp only [hl842001_67]); (with_reducible repeat (first | apply Kd.R_alloc | apply Kd.R_drewN | apply Kd.R_drew)); exact Kd.R_mono HO_835001.out (fun _ hk => ⟨hk.1.1.1, ⟨hk.1.1.2, hk.2⟩⟩)⟩, ⟨by (try simp only [hl842000_67]); (try simp only [hl842001_67]); (with_reducible repeat (first | apply Kd.R_alloc | apply Kd.R_drewN | apply Kd.R_drew)); exact Kd.R_mono HO_842000.out (fun _ hk => ⟨hk.1.1.1, ⟨hk.1.1.2, hk.2⟩⟩)⟩, ⟨by (try simp only [hl842000_67]); (try simp only [hl842001_67]); (with_reducible repeat (first | apply Kd.R_alloc | apply Kd.R_drewN | apply Kd.R_drew)); exact Kd.R_mono HO_842001.out (fun _ hk => ⟨hk.1.1.1, ⟨hk.1.1.2, hk.2⟩⟩)⟩, ⟨by (try simp only [hl842000_67]); (try simp only [hl842001_67]); (with_reducible repeat (first | apply Kd.R_alloc | apply Kd.R_drewN | apply Kd.R_drew)); exact Kd.R_mono HO_850000.out (fun _ hk => ⟨hk.1.1.1, ⟨hk.1.1.2, hk.2⟩⟩)⟩, ⟨by (try simp only [hl842000_67]); (try simp only [hl842001_67]); (with_reducible repeat (first | apply Kd.R_alloc | apply Kd.R_drewN | apply Kd.R_drew)); exact Kd.R_mono HO_850001.out (fun _ hk => ⟨hk.1.1.1, ⟨hk.1.1.2, hk.2⟩⟩)⟩, ⟨by (try simp only [hl842000_67]); (try simp only [hl842001_67]); (with_reducible repeat (first | apply Kd.R_alloc | apply Kd.R_drewN | apply Kd.R_drew)); exact Kd.R_mono HO874.out (fun _ hk => ⟨hk.1.1.1.2, ⟨hk.1.1.2, hk.1.2⟩⟩)⟩, ⟨by (try simp only [hl842000_67]); (try simp only [hl842001_67]); (with_reducible repeat (first | apply Kd.R_alloc | apply Kd.R_drewN | apply Kd.R_drew)); exact Kd.R_mono HO877.out (fun _ hk => ⟨hk.1.1.1.2, ⟨hk.1.1.2, hk.1.2⟩⟩)⟩, ⟨by (try simp only [hl842000_67]); (try simp only [hl842001_67]); (with_reducible repeat (first | refine blk_drewN ?_ _ | refine blk_drew ?_ | refine blk_alloc ?_ _)); exact BK819.out⟩, ⟨by (try simp only [hl842000_67]); (try simp only [hl842001_67]); (with_reducible repeat (first | refine blk_drewN ?_ _ | refine blk_drew ?_ | refine blk_alloc ?_ _)); exact BK834.out⟩, ⟨by (try simp only [hl842000_67]); (try simp only [hl842001_67]); (with_reducible repeat (first | refine blk_drewN ?_ _ | refine blk_drew ?_ | refine blk_alloc ?_ _)); exact BK841.out⟩, ⟨by (try simp only [hl842000_67]); (try simp only [hl842001_67]); (with_reducible repeat (first | refine blk_drewN ?_ _ | refine blk_drew ?_ | refine blk_alloc ?_ _)); exact BK849.out⟩, ⟨by (try simp only [hl842000_67]); (try simp only [hl842001_67]); (with_reducible repeat (first | refine blk_drewN ?_ _ | refine blk_drew ?_ | refine blk_alloc ?_ _)); exact BK879.out⟩, ⟨by repeat (first | (with_reducible first | exact HB.out | apply below_alloc | apply pw_below_drewN | apply below_drew1 | refine below_set ?_ GE819.out | refine below_set ?_ GE834.out | refine below_set ?_ GE841.out | refine below_set ?_ GE849.out | refine below_set ?_ GE879.out) | exact HB.out)⟩⟩
            case rest =>
             clear HC112
             try clear c1
             try clear c2
             try clear p2
             try clear c3
             try clear c4
             try clear c4b0
             try clear c4b1
             try clear c5
             try clear c6
             try clear c7
             try clear c7b0
             try clear c8
             try clear c9
             try clear c10
             try clear c11
             try clear c12
             try clear c13
             try clear c14
             try clear c15
             try clear c17
             try clear c18
             try clear c19
             try clear c22
             try clear c24
             try clear c26
             try clear c29
             try clear c30
             try clear c33
             try clear c34
             try clear c40
             try clear c41
             try clear c42
             try clear c46
             try clear c47
             try clear c48
             try clear c49
             try clear c51
             try clear c52
             try clear c55
             try clear c56
             try clear c57
             try clear c59
             try clear c60
             try clear c63
             try clear c66
             try clear c74
             try clear c75
             try clear c76
             try clear c79
             try clear c79b0
             try clear c81
             try clear c82
             try clear c83
             try clear c84
             try clear c86
             try clear c87
             try clear c90
             try clear c91
             try clear c92
             try clear c94
             try clear c95
             try clear c98
             try clear c101
             try clear c101b0
             try clear c102
             try clear c103
             try clear c104
             try clear c109
             try clear c109b0
             try clear c109b1
             try clear c113
             try clear c114
             try clear c115
             try clear c120
             try clear c121
             try clear c129
             try clear c130
             try clear c131
             try clear c132
             try clear c136
             try clear c137
             try clear c138
             try clear c139
             try clear c140
             try clear c142
             try clear c143
             try clear c144
             try clear c147
             try clear c148
             try clear c149
             try clear c150
             try clear c152
             try clear c153
             try clear c154
             try clear hcz105_0
             try clear hcz105_1
             try clear hcz107_0
             try clear hcz107_1
             try clear hcz116_0
             try clear hcz116_1
             try clear hcz118_0
             try clear hcz118_1
             try clear hcz122_0
             try clear hcz122_1
             try clear hcz133_0
             try clear hcz133_1
             try clear hcz141_0
             try clear hcz141_1
             try clear hcz145_0
             try clear hcz145_1
             try clear hcz151_0
             try clear hcz151_1
             try clear hcz155_0
             try clear hcz155_1
             try clear hcz17_0
             try clear hcz17_1
             try clear hcz19_0
             try clear hcz19_1
             try clear hcz27_0
             try clear hcz27_1
             try clear hcz29_0
             try clear hcz29_1
             try clear hcz35_0
             try clear hcz35_1
             try clear hcz43_0
             try clear hcz43_1
             try clear hcz50_0
             try clear hcz50_1
             try clear hcz53_0
             try clear hcz53_1
             try clear hcz58_0
             try clear hcz58_1
             try clear hcz61_0
             try clear hcz61_1
             try clear hcz77_0
             try clear hcz77_1
             try clear hcz85_0
             try clear hcz85_1
             try clear hcz88_0
             try clear hcz88_1
             try clear hcz93_0
             try clear hcz93_1
             try clear hcz96_0
             try clear hcz96_1
             try clear hcz9_0
             try clear hcz9_1
             try clear hfz105_0
             try clear hfz105_1
             try clear hfz107_0
             try clear hfz107_1
             try clear hfz116_0
             try clear hfz116_1
             try clear hfz118_0
             try clear hfz118_1
             try clear hfz122_0
             try clear hfz122_1
             try clear hfz133_0
             try clear hfz133_1
             try clear hfz141_0
             try clear hfz141_1
             try clear hfz145_0
             try clear hfz145_1
             try clear hfz151_0
             try clear hfz151_1
             try clear hfz155_0
             try clear hfz155_1
             try clear hfz17_0
             try clear hfz17_1
             try clear hfz19_0
             try clear hfz19_1
             try clear hfz27_0
             try clear hfz27_1
             try clear hfz29_0
             try clear hfz29_1
             try clear hfz35_0
             try clear hfz35_1
             try clear hfz43_0
             try clear hfz43_1
             try clear hfz50_0
             try clear hfz50_1
             try clear hfz53_0
             try clear hfz53_1
             try clear hfz58_0
             try clear hfz58_1
             try clear hfz61_0
             try clear hfz61_1
             try clear hfz77_0
             try clear hfz77_1
             try clear hfz85_0
             try clear hfz85_1
             try clear hfz88_0
             try clear hfz88_1
             try clear hfz93_0
             try clear hfz93_1
             try clear hfz96_0
             try clear hfz96_1
             try clear hfz9_0
             try clear hfz9_1
             try clear p2
             obtain ⟨kq, x100_111, rfl, HA, HJ111, HO_835000, HO_835001, HO_842000, HO_842001, HO_850000, HO_850001, HO_880000, HO_880001, BK819, BK834, BK841, BK849, BK879, HB⟩ := hcut
             have hl850000_111 := (Kd.R_reads' HO_850000.out).1
             rw [hl850000_111] at HO_850000
             (try simp only [hl850000_111])
             (try simp only [hl850000_111] at BK819)
             (try simp only [hl850000_111] at BK834)
             (try simp only [hl850000_111] at BK841)
             (try simp only [hl850000_111] at BK849)
             (try simp only [hl850000_111] at BK879)
             (try simp only [hl850000_111] at HO_835000)
             (try simp only [hl850000_111] at HO_835001)
             (try simp only [hl850000_111] at HO_842000)
             (try simp only [hl850000_111] at HO_842001)
             (try simp only [hl850000_111] at HO_850001)
             (try simp only [hl850000_111] at HO_880000)
             (try simp only [hl850000_111] at HO_880001)
             have hl850001_111 := (Kd.R_reads' HO_850001.out).1
             rw [hl850001_111] at HO_850001
             (try simp only [hl850001_111])
             (try simp only [hl850001_111] at BK819)
             (try simp only [hl850001_111] at BK834)
             (try simp only [hl850001_111] at BK841)
             (try simp only [hl850001_111] at BK849)
             (try simp only [hl850001_111] at BK879)
             (try simp only [hl850001_111] at HO_835000)
             (try simp only [hl850001_111] at HO_835001)
             (try simp only [hl850001_111] at HO_842000)
             (try simp only [hl850001_111] at HO_842001)
             (try simp only [hl850001_111] at HO_850000)
             (try simp only [hl850001_111] at HO_880000)
             (try simp only [hl850001_111] at HO_880001)
             cases kq with
             | zero => exact absurd HA.out (by simp [laws_FnExactSecPut.j2])
             | succ kj111 =>
              have H := HA.out
              clear HA
              simp only [laws_FnExactSecPut.j2] at H
              by_cases c157 : x100_111 = true
              ·subst c157
               have H1 : (some false) = some r := by rw [if_pos rfl] at H; exact H
               clear H
               have H := H1
               clear H1
               obtain rfl := Option.some.inj H
               go_wp2
               go_ret
               exact ⟨by first | rfl | (simp [errW_none, errW_some] <;> rfl) | (simp [*, errW_none, errW_some] <;> rfl), by repeat (first | (with_reducible first | exact HB.out | apply below_alloc | apply pw_below_drewN | apply below_drew1 | refine below_set ?_ GE819.out | refine below_set ?_ GE834.out | refine below_set ?_ GE841.out | refine below_set ?_ GE849.out | refine below_set ?_ GE879.out) | exact HB.out)⟩
              ·replace c157 := Bool.eq_false_iff.mpr c157
               subst c157
               have H1 : ((laws_heldSecDisk.f kj111 t863 t864 1).bind fun t881 => (if t881 < 0 then (some false) else (if t881 = t862 then (some true) else (some false)))) = some r := by rw [if_neg (show ¬ (false = true) by decide)] at H; exact H
               clear H
               have H := H1
               clear H1
               replace H := Option.bind_eq_some_iff.mp H
               obtain ⟨t881, A1580, H⟩ := H
               replace H : (if t881 < 0 then (some false) else (if t881 = t862 then (some true) else (some false))) = some r := H
               have A158 := Aside0.mk A1580
               clear A1580
               by_cases c159 : t881 < 0
               ·rw [if_pos c159] at H
                have c159b0 : decide (t881 < 0) = true := decide_eq_true c159
                clear c159
                obtain rfl := Option.some.inj H
                have hnb160 := NB849_819.out
                have hnc160 := NB819_849.out
                have hnb161 := NB849_834.out
                have hnc161 := NB834_849.out
                have hnb162 := NB849_841.out
                have hnc162 := NB841_849.out
                have hnb163 := NB849_879.out
                have hnc163 := NB879_849.out
                have hcz164_0 : wc.cell? ⟨gb849, 0, none⟩ = some (.slice Ao39 t863.length co39) := (blk_cell BK849.out 0).trans rfl
                have hcz164_1 : wc.cell? ⟨gb849, 1, none⟩ = some (.slice Ao44 t864.length co44) := (blk_cell BK849.out 1).trans rfl
                have hfz164_0 := blk_frozen BK849.out 0
                have hfz164_1 := blk_frozen BK849.out 1
                go_wp2_with (first | ((with_reducible refine gate_callee (f := 19) rfl ?_); refine goesL_ (some 103) rfl rfl Try.func19 (by kernel_rfl) rfl #[.agg #[.slice Ao39 t863.length co39, .slice Ao44 t864.length co44], .int .i64 1] rfl bM ?_; (with_reducible refine (laws_heldSecDisk.calls kj111 _ _ t863 _ _ t864 1 t881 _ ?side1 ?side2 ?side3 ?side4 A158.out).mono ?_); (case side1 => exact pC (Kd.R_reads' HO_850000.out).2.2); (case side2 => exact (Kd.R_reads' HO_850000.out).2.1); (case side3 => exact pC (Kd.R_reads' HO_850001.out).2.2); (case side4 => exact (Kd.R_reads' HO_850001.out).2.1); rintro e w165 ⟨rfl, hb⟩; refine ⟨_, rfl, ?_⟩; have n0_ := Aside0.mk (Kd.R_below (pR HO_835000.out) hb); have n1_ := Aside0.mk (Kd.R_below (pR HO_835001.out) hb); have n2_ := Aside0.mk (Kd.R_below (pR HO_842000.out) hb); have n3_ := Aside0.mk (Kd.R_below (pR HO_842001.out) hb); have n4_ := Aside0.mk (Kd.R_below (pR HO_850000.out) hb); have n5_ := Aside0.mk (Kd.R_below (pR HO_850001.out) hb); have n6_ := Aside0.mk (Kd.R_below (pR HO_880000.out) hb); have n7_ := Aside0.mk (Kd.R_below (pR HO_880001.out) hb); have n8_ := Aside0.mk (blk_below (g := gb819) (o := .cells #[.slice A0_0 l0_0.length c0_0, .slice A0_1 l0_1.length c0_1] 34 (0, 0)) (pK BK819.out) hb); have n9_ := Aside0.mk (blk_below (g := gb834) (o := .cells #[.slice Ao25 t827.length co25, .slice Ao28 t830.length co28] 26 (0, 0)) (pK BK834.out) hb); have n10_ := Aside0.mk (blk_below (g := gb841) (o := .cells #[.slice Ao32 t859.length co32, .slice Ao36 t860.length co36] 26 (0, 0)) (pK BK841.out) hb); have n11_ := Aside0.mk (blk_below (g := gb849) (o := .cells #[.slice Ao39 t863.length co39, .slice Ao44 t864.length co44] 26 (0, 0)) (pK BK849.out) hb); have n12_ := Aside0.mk (blk_below (g := gb879) (o := .cells #[.slice Ao128 t872.length co128, .slice Ao134 t875.length co134] 26 (0, 0)) (pK BK879.out) hb); have n13_ := Aside0.mk (below_step (by repeat (first | (with_reducible first | exact HB.out | apply below_alloc | apply pw_below_drewN | apply below_drew1 | refine below_set ?_ GE819.out | refine below_set ?_ GE834.out | refine below_set ?_ GE841.out | refine below_set ?_ GE849.out | refine below_set ?_ GE879.out) | exact HB.out)) hb); clear HO_835000; clear HO_835001; clear HO_842000; clear HO_842001; clear HO_850000; clear HO_850001; clear HO_880000; clear HO_880001; clear BK819; clear BK834; clear BK841; clear BK849; clear BK879; clear HB; have HO_835000 := n0_; have HO_835001 := n1_; have HO_842000 := n2_; have HO_842001 := n3_; have HO_850000 := n4_; have HO_850001 := n5_; have HO_880000 := n6_; have HO_880001 := n7_; have BK819 := n8_; have BK834 := n9_; have BK841 := n10_; have BK849 := n11_; have BK879 := n12_; have HB := n13_; clear n0_ n1_ n2_ n3_ n4_ n5_ n6_ n7_ n8_ n9_ n10_ n11_ n12_ n13_; (try clear hb); (try clear hb2); (try clear hk); (try clear hi)))
                go_ret
                exact ⟨by first | rfl | (simp [errW_none, errW_some] <;> rfl) | (simp [*, errW_none, errW_some] <;> rfl), by repeat (first | (with_reducible first | exact HB.out | apply below_alloc | apply pw_below_drewN | apply below_drew1 | refine below_set ?_ GE819.out | refine below_set ?_ GE834.out | refine below_set ?_ GE841.out | refine below_set ?_ GE849.out | refine below_set ?_ GE879.out) | exact HB.out)⟩
               ·rw [if_neg c159] at H
                have c159b0 : decide (t881 < 0) = false := decide_eq_false c159
                clear c159
                by_cases c166 : t881 = t862
                ·rw [if_pos c166] at H
                 have c166b0 : (t881 == t862) = true := beq_iff_eq.mpr c166
                 have c166b1 : (t881 != t862) = false := bne_eq_false_iff_eq.mpr c166
                 clear c166
                 obtain rfl := Option.some.inj H
                 have hnb167 := NB849_819.out
                 have hnc167 := NB819_849.out
                 have hnb168 := NB849_834.out
                 have hnc168 := NB834_849.out
                 have hnb169 := NB849_841.out
                 have hnc169 := NB841_849.out
                 have hnb170 := NB849_879.out
                 have hnc170 := NB879_849.out
                 have hcz171_0 : wc.cell? ⟨gb849, 0, none⟩ = some (.slice Ao39 t863.length co39) := (blk_cell BK849.out 0).trans rfl
                 have hcz171_1 : wc.cell? ⟨gb849, 1, none⟩ = some (.slice Ao44 t864.length co44) := (blk_cell BK849.out 1).trans rfl
                 have hfz171_0 := blk_frozen BK849.out 0
                 have hfz171_1 := blk_frozen BK849.out 1
                 go_wp2_with (first | ((with_reducible refine gate_callee (f := 19) rfl ?_); refine goesL_ (some 103) rfl rfl Try.func19 (by kernel_rfl) rfl #[.agg #[.slice Ao39 t863.length co39, .slice Ao44 t864.length co44], .int .i64 1] rfl bM ?_; (with_reducible refine (laws_heldSecDisk.calls kj111 _ _ t863 _ _ t864 1 t881 _ ?side1 ?side2 ?side3 ?side4 A158.out).mono ?_); (case side1 => exact pC (Kd.R_reads' HO_850000.out).2.2); (case side2 => exact (Kd.R_reads' HO_850000.out).2.1); (case side3 => exact pC (Kd.R_reads' HO_850001.out).2.2); (case side4 => exact (Kd.R_reads' HO_850001.out).2.1); rintro e w172 ⟨rfl, hb⟩; refine ⟨_, rfl, ?_⟩; have n0_ := Aside0.mk (Kd.R_below (pR HO_835000.out) hb); have n1_ := Aside0.mk (Kd.R_below (pR HO_835001.out) hb); have n2_ := Aside0.mk (Kd.R_below (pR HO_842000.out) hb); have n3_ := Aside0.mk (Kd.R_below (pR HO_842001.out) hb); have n4_ := Aside0.mk (Kd.R_below (pR HO_850000.out) hb); have n5_ := Aside0.mk (Kd.R_below (pR HO_850001.out) hb); have n6_ := Aside0.mk (Kd.R_below (pR HO_880000.out) hb); have n7_ := Aside0.mk (Kd.R_below (pR HO_880001.out) hb); have n8_ := Aside0.mk (blk_below (g := gb819) (o := .cells #[.slice A0_0 l0_0.length c0_0, .slice A0_1 l0_1.length c0_1] 34 (0, 0)) (pK BK819.out) hb); have n9_ := Aside0.mk (blk_below (g := gb834) (o := .cells #[.slice Ao25 t827.length co25, .slice Ao28 t830.length co28] 26 (0, 0)) (pK BK834.out) hb); have n10_ := Aside0.mk (blk_below (g := gb841) (o := .cells #[.slice Ao32 t859.length co32, .slice Ao36 t860.length co36] 26 (0, 0)) (pK BK841.out) hb); have n11_ := Aside0.mk (blk_below (g := gb849) (o := .cells #[.slice Ao39 t863.length co39, .slice Ao44 t864.length co44] 26 (0, 0)) (pK BK849.out) hb); have n12_ := Aside0.mk (blk_below (g := gb879) (o := .cells #[.slice Ao128 t872.length co128, .slice Ao134 t875.length co134] 26 (0, 0)) (pK BK879.out) hb); have n13_ := Aside0.mk (below_step (by repeat (first | (with_reducible first | exact HB.out | apply below_alloc | apply pw_below_drewN | apply below_drew1 | refine below_set ?_ GE819.out | refine below_set ?_ GE834.out | refine below_set ?_ GE841.out | refine below_set ?_ GE849.out | refine below_set ?_ GE879.out) | exact HB.out)) hb); clear HO_835000; clear HO_835001; clear HO_842000; clear HO_842001; clear HO_850000; clear HO_850001; clear HO_880000; clear HO_880001; clear BK819; clear BK834; clear BK841; clear BK849; clear BK879; clear HB; have HO_835000 := n0_; have HO_835001 := n1_; have HO_842000 := n2_; have HO_842001 := n3_; have HO_850000 := n4_; have HO_850001 := n5_; have HO_880000 := n6_; have HO_880001 := n7_; have BK819 := n8_; have BK834 := n9_; have BK841 := n10_; have BK849 := n11_; have BK879 := n12_; have HB := n13_; clear n0_ n1_ n2_ n3_ n4_ n5_ n6_ n7_ n8_ n9_ n10_ n11_ n12_ n13_; (try clear hb); (try clear hb2); (try clear hk); (try clear hi)))
                 go_ret
                 exact ⟨by first | rfl | (simp [errW_none, errW_some] <;> rfl) | (simp [*, errW_none, errW_some] <;> rfl), by repeat (first | (with_reducible first | exact HB.out | apply below_alloc | apply pw_below_drewN | apply below_drew1 | refine below_set ?_ GE819.out | refine below_set ?_ GE834.out | refine below_set ?_ GE841.out | refine below_set ?_ GE849.out | refine below_set ?_ GE879.out) | exact HB.out)⟩
                ·rw [if_neg c166] at H
                 have c166b0 : (t881 == t862) = false := beq_eq_false_iff_ne.mpr c166
                 have c166b1 : (t881 != t862) = true := bne_iff_ne.mpr c166
                 obtain rfl := Option.some.inj H
                 have hnb173 := NB849_819.out
                 have hnc173 := NB819_849.out
                 have hnb174 := NB849_834.out
                 have hnc174 := NB834_849.out
                 have hnb175 := NB849_841.out
                 have hnc175 := NB841_849.out
                 have hnb176 := NB849_879.out
                 have hnc176 := NB879_849.out
                 have hcz177_0 : wc.cell? ⟨gb849, 0, none⟩ = some (.slice Ao39 t863.length co39) := (blk_cell BK849.out 0).trans rfl
                 have hcz177_1 : wc.cell? ⟨gb849, 1, none⟩ = some (.slice Ao44 t864.length co44) := (blk_cell BK849.out 1).trans rfl
                 have hfz177_0 := blk_frozen BK849.out 0
                 have hfz177_1 := blk_frozen BK849.out 1
                 go_wp2_with (first | ((with_reducible refine gate_callee (f := 19) rfl ?_); refine goesL_ (some 103) rfl rfl Try.func19 (by kernel_rfl) rfl #[.agg #[.slice Ao39 t863.length co39, .slice Ao44 t864.length co44], .int .i64 1] rfl bM ?_; (with_reducible refine (laws_heldSecDisk.calls kj111 _ _ t863 _ _ t864 1 t881 _ ?side1 ?side2 ?side3 ?side4 A158.out).mono ?_); (case side1 => exact pC (Kd.R_reads' HO_850000.out).2.2); (case side2 => exact (Kd.R_reads' HO_850000.out).2.1); (case side3 => exact pC (Kd.R_reads' HO_850001.out).2.2); (case side4 => exact (Kd.R_reads' HO_850001.out).2.1); rintro e w178 ⟨rfl, hb⟩; refine ⟨_, rfl, ?_⟩; have n0_ := Aside0.mk (Kd.R_below (pR HO_835000.out) hb); have n1_ := Aside0.mk (Kd.R_below (pR HO_835001.out) hb); have n2_ := Aside0.mk (Kd.R_below (pR HO_842000.out) hb); have n3_ := Aside0.mk (Kd.R_below (pR HO_842001.out) hb); have n4_ := Aside0.mk (Kd.R_below (pR HO_850000.out) hb); have n5_ := Aside0.mk (Kd.R_below (pR HO_850001.out) hb); have n6_ := Aside0.mk (Kd.R_below (pR HO_880000.out) hb); have n7_ := Aside0.mk (Kd.R_below (pR HO_880001.out) hb); have n8_ := Aside0.mk (blk_below (g := gb819) (o := .cells #[.slice A0_0 l0_0.length c0_0, .slice A0_1 l0_1.length c0_1] 34 (0, 0)) (pK BK819.out) hb); have n9_ := Aside0.mk (blk_below (g := gb834) (o := .cells #[.slice Ao25 t827.length co25, .slice Ao28 t830.length co28] 26 (0, 0)) (pK BK834.out) hb); have n10_ := Aside0.mk (blk_below (g := gb841) (o := .cells #[.slice Ao32 t859.length co32, .slice Ao36 t860.length co36] 26 (0, 0)) (pK BK841.out) hb); have n11_ := Aside0.mk (blk_below (g := gb849) (o := .cells #[.slice Ao39 t863.length co39, .slice Ao44 t864.length co44] 26 (0, 0)) (pK BK849.out) hb); have n12_ := Aside0.mk (blk_below (g := gb879) (o := .cells #[.slice Ao128 t872.length co128, .slice Ao134 t875.length co134] 26 (0, 0)) (pK BK879.out) hb); have n13_ := Aside0.mk (below_step (by repeat (first | (with_reducible first | exact HB.out | apply below_alloc | apply pw_below_drewN | apply below_drew1 | refine below_set ?_ GE819.out | refine below_set ?_ GE834.out | refine below_set ?_ GE841.out | refine below_set ?_ GE849.out | refine below_set ?_ GE879.out) | exact HB.out)) hb); clear HO_835000; clear HO_835001; clear HO_842000; clear HO_842001; clear HO_850000; clear HO_850001; clear HO_880000; clear HO_880001; clear BK819; clear BK834; clear BK841; clear BK849; clear BK879; clear HB; have HO_835000 := n0_; have HO_835001 := n1_; have HO_842000 := n2_; have HO_842001 := n3_; have HO_850000 := n4_; have HO_850001 := n5_; have HO_880000 := n6_; have HO_880001 := n7_; have BK819 := n8_; have BK834 := n9_; have BK841 := n10_; have BK849 := n11_; have BK879 := n12_; have HB := n13_; clear n0_ n1_ n2_ n3_ n4_ n5_ n6_ n7_ n8_ n9_ n10_ n11_ n12_ n13_; (try clear hb); (try clear hb2); (try clear hk); (try clear hi)))
                 go_ret
                 exact ⟨by first | rfl | (simp [errW_none, errW_some] <;> rfl) | (simp [*, errW_none, errW_some] <;> rfl), by repeat (first | (with_reducible first | exact HB.out | apply below_alloc | apply pw_below_drewN | apply below_drew1 | refine below_set ?_ GE819.out | refine below_set ?_ GE834.out | refine below_set ?_ GE841.out | refine below_set ?_ GE849.out | refine below_set ?_ GE879.out) | exact HB.out)⟩
           ·rw [if_neg c109] at H
            have c109b0 : (t865 == t862) = false := beq_eq_false_iff_ne.mpr c109
            have c109b1 : (t865 != t862) = true := bne_iff_ne.mpr c109
            obtain rfl := Option.some.inj H
            have hnb179 := NB849_819.out
            have hnc179 := NB819_849.out
            have hnb180 := NB849_834.out
            have hnc180 := NB834_849.out
            have hnb181 := NB849_841.out
            have hnc181 := NB841_849.out
            have hcz182_0 : wc.cell? ⟨gb849, 0, none⟩ = some (.slice Ao39 t842.length co39) := (blk_cell BK849.out 0).trans rfl
            have hcz182_1 : wc.cell? ⟨gb849, 1, none⟩ = some (.slice Ao44 t845.length co44) := (blk_cell BK849.out 1).trans rfl
            have hfz182_0 := blk_frozen BK849.out 0
            have hfz182_1 := blk_frozen BK849.out 1
            go_wp2_with (first | ((with_reducible refine gate_callee (f := 18) rfl ?_); refine goesL_ (some 75) rfl rfl Try.func18 (by kernel_rfl) rfl #[.agg #[.slice Ao39 t842.length co39, .slice Ao44 t845.length co44], .int .i64 1] rfl bM ?_; (with_reducible refine (laws_markSecDisk.calls kj67 (fun k_ => some k_ = (.slice Ao39 t842.length co39 : Value).ownBlock) (.slice Ao39 t842.length co39) t842 (fun k_ => some k_ = (.slice Ao44 t845.length co44 : Value).ownBlock) (.slice Ao44 t845.length co44) t845 1 t862 t863 t864 w _ ?side1 ?side2 ?side3 A99.out).mono ?_); (case side1 => repeat (first | (with_reducible first | exact HB.out | apply below_alloc | apply pw_below_drewN | apply below_drew1 | refine below_set ?_ GE819.out | refine below_set ?_ GE834.out | refine below_set ?_ GE841.out | refine below_set ?_ GE849.out) | exact HB.out)); (case side2 => exact Kd.R_tight rfl HO_850000.out); (case side3 => exact Kd.R_tight rfl HO_850001.out); rintro e w183 ⟨rfl, hy0, hy1, hb, hkp⟩; refine ⟨_, rfl, ?_⟩; have n0_ := Aside0.mk (Kd.R_mono (ok' := fun k_ => some k_ ≠ (.slice Ao32 t859.length co32 : Value).ownBlock ∧ some k_ ≠ (.slice Ao39 t842.length co39 : Value).ownBlock) (Kd.R_keptB ((Kd.R_apart' HO_835000.out (Kd.R_typed HO_850001.out) (by decide))) hkp (fun k_ hk_ hs_ => Or.elim hs_ (fun e_ => (hk_.1.2) e_) (fun e_ => (hk_.2) e_))) (fun k_ hk_ => ⟨hk_.1.1.1, hk_.1.1.2⟩)); have n1_ := Aside0.mk (Kd.R_mono (ok' := fun k_ => some k_ ≠ (.slice Ao36 t860.length co36 : Value).ownBlock ∧ some k_ ≠ (.slice Ao44 t845.length co44 : Value).ownBlock) (Kd.R_keptB ((Kd.R_apart' HO_835001.out (Kd.R_typed HO_850000.out) (by decide))) hkp (fun k_ hk_ hs_ => Or.elim hs_ (fun e_ => (hk_.2) e_) (fun e_ => (hk_.1.2) e_))) (fun k_ hk_ => ⟨hk_.1.1.1, hk_.1.1.2⟩)); have n2_ := Aside0.mk (Kd.R_mono (ok' := fun k_ => some k_ ≠ (.slice Ao25 t827.length co25 : Value).ownBlock ∧ some k_ ≠ (.slice Ao39 t842.length co39 : Value).ownBlock) (Kd.R_keptB ((Kd.R_apart' HO_842000.out (Kd.R_typed HO_850001.out) (by decide))) hkp (fun k_ hk_ hs_ => Or.elim hs_ (fun e_ => (hk_.1.2) e_) (fun e_ => (hk_.2) e_))) (fun k_ hk_ => ⟨hk_.1.1.1, hk_.1.1.2⟩)); have n3_ := Aside0.mk (Kd.R_mono (ok' := fun k_ => some k_ ≠ (.slice Ao28 t830.length co28 : Value).ownBlock ∧ some k_ ≠ (.slice Ao44 t845.length co44 : Value).ownBlock) (Kd.R_keptB ((Kd.R_apart' HO_842001.out (Kd.R_typed HO_850000.out) (by decide))) hkp (fun k_ hk_ hs_ => Or.elim hs_ (fun e_ => (hk_.2) e_) (fun e_ => (hk_.1.2) e_))) (fun k_ hk_ => ⟨hk_.1.1.1, hk_.1.1.2⟩)); have n4_ := Aside0.mk (Kd.R_reok rfl hy0 (fun k_ e_ => HO_850000.out.1 k_ e_)); have n5_ := Aside0.mk (Kd.R_reok rfl hy1 (fun k_ e_ => HO_850001.out.1 k_ e_)); have n6_ := Aside0.mk (blk_kept (pK BK819.out) hkp (fun hs_ => Or.elim hs_ (fun e_ => (fun e_ => (Kd.R_ne HO_850000.out BK819.out (by decide)) e_) e_) (fun e_ => (fun e_ => (Kd.R_ne HO_850001.out BK819.out (by decide)) e_) e_))); have n7_ := Aside0.mk (blk_kept (pK BK834.out) hkp (fun hs_ => Or.elim hs_ (fun e_ => (fun e_ => (Kd.R_ne HO_850000.out BK834.out (by decide)) e_) e_) (fun e_ => (fun e_ => (Kd.R_ne HO_850001.out BK834.out (by decide)) e_) e_))); have n8_ := Aside0.mk (blk_kept (pK BK841.out) hkp (fun hs_ => Or.elim hs_ (fun e_ => (fun e_ => (Kd.R_ne HO_850000.out BK841.out (by decide)) e_) e_) (fun e_ => (fun e_ => (Kd.R_ne HO_850001.out BK841.out (by decide)) e_) e_))); have n9_ := Aside0.mk (blk_kept (pK BK849.out) hkp (fun hs_ => Or.elim hs_ (fun e_ => (fun e_ => (Kd.R_ne HO_850000.out BK849.out (by decide)) e_) e_) (fun e_ => (fun e_ => (Kd.R_ne HO_850001.out BK849.out (by decide)) e_) e_))); have n10_ := Aside0.mk (hb); clear HO_835000; clear HO_835001; clear HO_842000; clear HO_842001; clear HO_850000; clear HO_850001; clear BK819; clear BK834; clear BK841; clear BK849; clear HB; have HO_835000 := n0_; have HO_835001 := n1_; have HO_842000 := n2_; have HO_842001 := n3_; have HO_850000 := n4_; have HO_850001 := n5_; have BK819 := n6_; have BK834 := n7_; have BK841 := n8_; have BK849 := n9_; have HB := n10_; clear n0_ n1_ n2_ n3_ n4_ n5_ n6_ n7_ n8_ n9_ n10_; (try clear hb); (try clear hkp); (try clear hy0); (try clear hy1); have hcz184_0 : w183.cell? ⟨gb849, 0, none⟩ = some (.slice Ao39 t842.length co39) := (blk_cell BK849.out 0).trans rfl; have hcz184_1 : w183.cell? ⟨gb849, 1, none⟩ = some (.slice Ao44 t845.length co44) := (blk_cell BK849.out 1).trans rfl; have hfz184_0 := blk_frozen BK849.out 0; have hfz184_1 := blk_frozen BK849.out 1) | ((with_reducible refine gate_callee (f := 19) rfl ?_); refine goesL_ (some 78) rfl rfl Try.func19 (by kernel_rfl) rfl #[.agg #[.slice Ao39 t863.length co39, .slice Ao44 t864.length co44], .int .i64 1] rfl (by (try simp only [List.map_toArray, List.map_cons, List.map_nil]); first | done | (rw [show t863.length = t842.length from (Kd.R_reads' HO_850000.out).1.symm, show t864.length = t845.length from (Kd.R_reads' HO_850001.out).1.symm] <;> rfl) | rfl | (simp only [List.length_drop, List.length_take]; rfl)) ?_; (with_reducible refine (laws_heldSecDisk.calls kj67 _ _ t863 _ _ t864 1 t865 _ ?side1 ?side2 ?side3 ?side4 A100.out).mono ?_); (case side1 => exact pC (Kd.R_reads' HO_850000.out).2.2); (case side2 => rw [show t863.length = t842.length from (Kd.R_reads' HO_850000.out).1.symm]; exact (Kd.R_reads' HO_850000.out).2.1); (case side3 => exact pC (Kd.R_reads' HO_850001.out).2.2); (case side4 => rw [show t864.length = t845.length from (Kd.R_reads' HO_850001.out).1.symm]; exact (Kd.R_reads' HO_850001.out).2.1); rintro e w185 ⟨rfl, hb⟩; refine ⟨_, rfl, ?_⟩; have n0_ := Aside0.mk (Kd.R_below (pR HO_835000.out) hb); have n1_ := Aside0.mk (Kd.R_below (pR HO_835001.out) hb); have n2_ := Aside0.mk (Kd.R_below (pR HO_842000.out) hb); have n3_ := Aside0.mk (Kd.R_below (pR HO_842001.out) hb); have n4_ := Aside0.mk (Kd.R_below (pR HO_850000.out) hb); have n5_ := Aside0.mk (Kd.R_below (pR HO_850001.out) hb); have n6_ := Aside0.mk (blk_below (g := gb819) (o := .cells #[.slice A0_0 l0_0.length c0_0, .slice A0_1 l0_1.length c0_1] 34 (0, 0)) (pK BK819.out) hb); have n7_ := Aside0.mk (blk_below (g := gb834) (o := .cells #[.slice Ao25 t827.length co25, .slice Ao28 t830.length co28] 26 (0, 0)) (pK BK834.out) hb); have n8_ := Aside0.mk (blk_below (g := gb841) (o := .cells #[.slice Ao32 t859.length co32, .slice Ao36 t860.length co36] 26 (0, 0)) (pK BK841.out) hb); have n9_ := Aside0.mk (blk_below (g := gb849) (o := .cells #[.slice Ao39 t842.length co39, .slice Ao44 t845.length co44] 26 (0, 0)) (pK BK849.out) hb); have n10_ := Aside0.mk (below_step (by repeat (first | (with_reducible first | exact HB.out | apply below_alloc | apply pw_below_drewN | apply below_drew1 | refine below_set ?_ GE819.out | refine below_set ?_ GE834.out | refine below_set ?_ GE841.out | refine below_set ?_ GE849.out) | exact HB.out)) hb); clear HO_835000; clear HO_835001; clear HO_842000; clear HO_842001; clear HO_850000; clear HO_850001; clear BK819; clear BK834; clear BK841; clear BK849; clear HB; have HO_835000 := n0_; have HO_835001 := n1_; have HO_842000 := n2_; have HO_842001 := n3_; have HO_850000 := n4_; have HO_850001 := n5_; have BK819 := n6_; have BK834 := n7_; have BK841 := n8_; have BK849 := n9_; have HB := n10_; clear n0_ n1_ n2_ n3_ n4_ n5_ n6_ n7_ n8_ n9_ n10_; (try clear hb); (try clear hb2); (try clear hk); (try clear hi)))
            go_ret
            exact ⟨by first | rfl | (simp [errW_none, errW_some] <;> rfl) | (simp [*, errW_none, errW_some] <;> rfl), by repeat (first | (with_reducible first | exact HB.out | apply below_alloc | apply pw_below_drewN | apply below_drew1 | refine below_set ?_ GE819.out | refine below_set ?_ GE834.out | refine below_set ?_ GE841.out | refine below_set ?_ GE849.out) | exact HB.out)⟩
      ·replace c66 := Bool.eq_false_iff.mpr c66
       subst c66
       have H1 : (some false) = some r := by rw [if_neg (show ¬ (false = true) by decide)] at H; exact H
       clear H
       have H := H1
       clear H1
       obtain rfl := Option.some.inj H
       try go_wp2
       have n0_ := Aside0.mk (Kd.R_drew HO_835000.out)
       have n1_ := Aside0.mk (Kd.R_drew HO_835001.out)
       have n2_ := Aside0.mk (Kd.R_drew HO_842000.out)
       have n3_ := Aside0.mk (Kd.R_drew HO_842001.out)
       have n4_ := Aside0.mk (Kd.R_drew HO_850000.out)
       have n5_ := Aside0.mk (Kd.R_drew HO_850001.out)
       have n6_ := Aside0.mk (blk_drew BK819.out)
       have n7_ := Aside0.mk (blk_drew BK834.out)
       have n8_ := Aside0.mk (blk_drew BK841.out)
       have n9_ := Aside0.mk (blk_drew BK849.out)
       have n10_ := Aside0.mk (below_drew1 HB.out)
       clear HO_835000
       clear HO_835001
       clear HO_842000
       clear HO_842001
       clear HO_850000
       clear HO_850001
       clear BK819
       clear BK834
       clear BK841
       clear BK849
       clear HB
       have HO_835000 := n0_
       have HO_835001 := n1_
       have HO_842000 := n2_
       have HO_842001 := n3_
       have HO_850000 := n4_
       have HO_850001 := n5_
       have BK819 := n6_
       have BK834 := n7_
       have BK841 := n8_
       have BK849 := n9_
       have HB := n10_
       clear n0_ n1_ n2_ n3_ n4_ n5_ n6_ n7_ n8_ n9_ n10_
       refine start_ (n := 5) (S := fun w' => w'.cell? ⟨gb841, 0, none⟩ = some (.slice Ao32 t835.length co32) ∧ w'.cell? ⟨gb841, 1, none⟩ = some (.slice Ao36 t838.length co36) ∧ w'.cell? ⟨gb819, 0, none⟩ = some (.slice A0_0 l0_0.length c0_0) ∧ w'.cell? ⟨gb819, 1, none⟩ = some (.slice A0_1 l0_1.length c0_1)) (ds := []) #[false, false, false, false, false] (by kernel_rfl) rfl rfl ⟨(blk_cell BK841.out 0).trans rfl, (blk_cell BK841.out 1).trans rfl, (blk_cell BK819.out 0).trans rfl, (blk_cell BK819.out 1).trans rfl⟩ (fun hHeld => ?_)
       generalize wc.drew = w186 at HO_835000 HO_835001 HO_842000 HO_842001 HO_850000 HO_850001 BK819 BK834 BK841 BK849 HB hHeld ⊢
       refine take_ (i := 0) (N := some 52) (v := ?_) (a' := ?_) #[true, false, false, false, false] rfl rfl (by kernel_rfl) (fun _ _ _ h => h) (Or.inl ⟨by rfl, ?_⟩) hHeld ?_ ?_
       rotate_left
       ·rintro w' ⟨s0, s1, s2, s3⟩
        go_simp
        with_reducible rfl
       rotate_left
       ·simp only [Act.put, List.setIfInBounds_toArray, List.set_cons_zero, List.set_cons_succ, i64_w, i32_w]
        rfl
       refine take_ (i := 1) (N := some 53) (v := ?_) (a' := ?_) #[true, true, false, false, false] rfl rfl (by kernel_rfl) (fun _ _ _ h => h) (Or.inl ⟨by rfl, ?_⟩) hHeld ?_ ?_
       rotate_left
       ·rintro w' ⟨s0, s1, s2, s3⟩
        go_simp
        with_reducible rfl
       rotate_left
       ·simp only [Act.put, List.setIfInBounds_toArray, List.set_cons_zero, List.set_cons_succ, i64_w, i32_w]
        rfl
       refine one_ (i := 2) (N := some 54) #[true, true, true, false, false] rfl rfl (by kernel_rfl) (by decide) (fun K hK => ?_)
       refine goes_ Try.func24 (by kernel_rfl) rfl #[.agg #[.slice A0_0 l0_0.length c0_0, .slice A0_1 l0_1.length c0_1]] (by rfl) rfl rfl bM ?_
       with_reducible refine (laws_toSecDisk.calls kj14 _ _ l0_0 _ _ l0_1 t851 t854 _ ?side1 ?side2 ?side3 ?side4 A64.out).mono ?_
       (case side1 => repeat (first | exact (Kd.C_below HR0_0.out HB.out) | (with_reducible refine Kd.C_alloc ?_ _) | (with_reducible refine Kd.C_drewN ?_ _) | (with_reducible refine Kd.C_drew ?_)))
       (case side2 => exact HC0_0.out)
       (case side3 => repeat (first | exact (Kd.C_below HR0_1.out HB.out) | (with_reducible refine Kd.C_alloc ?_ _) | (with_reducible refine Kd.C_drewN ?_ _) | (with_reducible refine Kd.C_drew ?_)))
       (case side4 => exact HC0_1.out)
       rintro e w187 ⟨v852, v855, rfl, ho0, ho1, hb⟩
       refine ⟨_, rfl, ?_⟩
       have n0_ := Aside0.mk (Kd.R_elder' (pR HO_835000.out) (Kd.R_base ho0) hb)
       have n1_ := Aside0.mk (Kd.R_elder' (pR HO_835001.out) (Kd.R_base ho1) hb)
       have n2_ := Aside0.mk (Kd.R_elder' (pR HO_842000.out) (Kd.R_base ho0) hb)
       have n3_ := Aside0.mk (Kd.R_elder' (pR HO_842001.out) (Kd.R_base ho1) hb)
       have n4_ := Aside0.mk (Kd.R_elder' (pR HO_850000.out) (Kd.R_base ho0) hb)
       have n5_ := Aside0.mk (Kd.R_elder' (pR HO_850001.out) (Kd.R_base ho1) hb)
       have n6_ := Aside0.mk (Kd.R_lower (Kd.R_new' (Kd.R_new' (Kd.R_new' ho0 (Kd.R_lt (pR HO_835000.out))) (Kd.R_lt (pR HO_842000.out))) (Kd.R_lt (pR HO_850000.out))) (below_size (by repeat (first | (with_reducible first | exact HB.out | apply below_alloc | apply pw_below_drewN | apply below_drew1 | refine below_set ?_ GE819.out | refine below_set ?_ GE834.out | refine below_set ?_ GE841.out | refine below_set ?_ GE849.out) | exact HB.out))))
       have n7_ := Aside0.mk (Kd.R_lower (Kd.R_new' (Kd.R_new' (Kd.R_new' ho1 (Kd.R_lt (pR HO_835001.out))) (Kd.R_lt (pR HO_842001.out))) (Kd.R_lt (pR HO_850001.out))) (below_size (by repeat (first | (with_reducible first | exact HB.out | apply below_alloc | apply pw_below_drewN | apply below_drew1 | refine below_set ?_ GE819.out | refine below_set ?_ GE834.out | refine below_set ?_ GE841.out | refine below_set ?_ GE849.out) | exact HB.out))))
       have n8_ := Aside0.mk (blk_below (g := gb819) (o := .cells #[.slice A0_0 l0_0.length c0_0, .slice A0_1 l0_1.length c0_1] 34 (0, 0)) (pK BK819.out) hb)
       have n9_ := Aside0.mk (blk_below (g := gb834) (o := .cells #[.slice Ao25 t827.length co25, .slice Ao28 t830.length co28] 26 (0, 0)) (pK BK834.out) hb)
       have n10_ := Aside0.mk (blk_below (g := gb841) (o := .cells #[.slice Ao32 t835.length co32, .slice Ao36 t838.length co36] 26 (0, 0)) (pK BK841.out) hb)
       have n11_ := Aside0.mk (blk_below (g := gb849) (o := .cells #[.slice Ao39 t842.length co39, .slice Ao44 t845.length co44] 26 (0, 0)) (pK BK849.out) hb)
       have n12_ := Aside0.mk (below_step (by repeat (first | (with_reducible first | exact HB.out | apply below_alloc | apply pw_below_drewN | apply below_drew1 | refine below_set ?_ GE819.out | refine below_set ?_ GE834.out | refine below_set ?_ GE841.out | refine below_set ?_ GE849.out) | exact HB.out)) hb)
       clear HO_835000
       clear HO_835001
       clear HO_842000
       clear HO_842001
       clear HO_850000
       clear HO_850001
       clear BK819
       clear BK834
       clear BK841
       clear BK849
       clear HB
       have HO_835000 := n0_
       have HO_835001 := n1_
       have HO_842000 := n2_
       have HO_842001 := n3_
       have HO_850000 := n4_
       have HO_850001 := n5_
       have HO853 := n6_
       have HO856 := n7_
       have BK819 := n8_
       have BK834 := n9_
       have BK841 := n10_
       have BK849 := n11_
       have HB := n12_
       clear n0_ n1_ n2_ n3_ n4_ n5_ n6_ n7_ n8_ n9_ n10_ n11_ n12_
       (try clear hb)
       (try clear hb2)
       (try clear hk)
       (try clear hi)
       (try clear ho0)
       (try clear ho1)
       obtain ⟨Ao188, co188, eo188⟩ := Kd.R_slice HO853.out
       (first | subst eo188 | (injection eo188 with f1_ f2_ f3_; have f4_ := f1_.symm; have f5_ := f3_.symm; clear f1_ f2_ f3_; subst f4_; subst f5_))
       obtain ⟨Ao189, co189, eo189⟩ := Kd.R_slice HO856.out
       (first | subst eo189 | (injection eo189 with f1_ f2_ f3_; have f4_ := f1_.symm; have f5_ := f3_.symm; clear f1_ f2_ f3_; subst f4_; subst f5_))
       refine hK.out _ _ ⟨(blk_cell BK841.out 0).trans rfl, (blk_cell BK841.out 1).trans rfl, (blk_cell BK819.out 0).trans rfl, (blk_cell BK819.out 1).trans rfl⟩ (fun hHeld => ?_)
       clear hK K
       refine norm_ (a' := ?_) ?_ ?_
       rotate_left
       ·show Act.put _ (some 54) _ = _
        simp only [Act.put, List.setIfInBounds_toArray, List.set_cons_zero, List.set_cons_succ, i64_w, i32_w]
        rfl
       refine one_ (i := 3) (N := some 55) #[true, true, true, true, false] rfl rfl (by kernel_rfl) (by decide) (fun K hK => ?_)
       refine goes_ Try.func17 (by kernel_rfl) rfl #[.agg #[.slice Ao32 t835.length co32, .slice Ao36 t838.length co36], .agg #[.slice Ao188 t851.length co188, .slice Ao189 t854.length co189]] (by rfl) rfl rfl bM ?_
       with_reducible refine (laws_eqSecDisk.calls kj14 _ _ t835 _ _ t838 _ _ t851 _ _ t854 false _ ?side1 ?side2 ?side3 ?side4 ?side5 ?side6 ?side7 ?side8 A65.out).mono ?_
       (case side1 => exact pC (Kd.R_reads' HO_842000.out).2.2)
       (case side2 => exact (Kd.R_reads' HO_842000.out).2.1)
       (case side3 => exact pC (Kd.R_reads' HO_842001.out).2.2)
       (case side4 => exact (Kd.R_reads' HO_842001.out).2.1)
       (case side5 => exact pC (Kd.R_reads' HO853.out).2.2)
       (case side6 => exact (Kd.R_reads' HO853.out).2.1)
       (case side7 => exact pC (Kd.R_reads' HO856.out).2.2)
       (case side8 => exact (Kd.R_reads' HO856.out).2.1)
       rintro e w190 ⟨rfl, hb⟩
       refine ⟨_, rfl, ?_⟩
       have n0_ := Aside0.mk (Kd.R_below (pR HO_835000.out) hb)
       have n1_ := Aside0.mk (Kd.R_below (pR HO_835001.out) hb)
       have n2_ := Aside0.mk (Kd.R_below (pR HO_842000.out) hb)
       have n3_ := Aside0.mk (Kd.R_below (pR HO_842001.out) hb)
       have n4_ := Aside0.mk (Kd.R_below (pR HO_850000.out) hb)
       have n5_ := Aside0.mk (Kd.R_below (pR HO_850001.out) hb)
       have n6_ := Aside0.mk (Kd.R_below (pR HO853.out) hb)
       have n7_ := Aside0.mk (Kd.R_below (pR HO856.out) hb)
       have n8_ := Aside0.mk (blk_below (g := gb819) (o := .cells #[.slice A0_0 l0_0.length c0_0, .slice A0_1 l0_1.length c0_1] 34 (0, 0)) (pK BK819.out) hb)
       have n9_ := Aside0.mk (blk_below (g := gb834) (o := .cells #[.slice Ao25 t827.length co25, .slice Ao28 t830.length co28] 26 (0, 0)) (pK BK834.out) hb)
       have n10_ := Aside0.mk (blk_below (g := gb841) (o := .cells #[.slice Ao32 t835.length co32, .slice Ao36 t838.length co36] 26 (0, 0)) (pK BK841.out) hb)
       have n11_ := Aside0.mk (blk_below (g := gb849) (o := .cells #[.slice Ao39 t842.length co39, .slice Ao44 t845.length co44] 26 (0, 0)) (pK BK849.out) hb)
       have n12_ := Aside0.mk (below_step (by repeat (first | (with_reducible first | exact HB.out | apply below_alloc | apply pw_below_drewN | apply below_drew1 | refine below_set ?_ GE819.out | refine below_set ?_ GE834.out | refine below_set ?_ GE841.out | refine below_set ?_ GE849.out) | exact HB.out)) hb)
       clear HO_835000
       clear HO_835001
       clear HO_842000
       clear HO_842001
       clear HO_850000
       clear HO_850001
       clear HO853
       clear HO856
       clear BK819
       clear BK834
       clear BK841
       clear BK849
       clear HB
       have HO_835000 := n0_
       have HO_835001 := n1_
       have HO_842000 := n2_
       have HO_842001 := n3_
       have HO_850000 := n4_
       have HO_850001 := n5_
       have HO853 := n6_
       have HO856 := n7_
       have BK819 := n8_
       have BK834 := n9_
       have BK841 := n10_
       have BK849 := n11_
       have HB := n12_
       clear n0_ n1_ n2_ n3_ n4_ n5_ n6_ n7_ n8_ n9_ n10_ n11_ n12_
       (try clear hb)
       (try clear hb2)
       (try clear hk)
       (try clear hi)
       refine hK.out _ _ ⟨(blk_cell BK841.out 0).trans rfl, (blk_cell BK841.out 1).trans rfl, (blk_cell BK819.out 0).trans rfl, (blk_cell BK819.out 1).trans rfl⟩ (fun hHeld => ?_)
       clear hK K
       refine norm_ (a' := ?_) ?_ ?_
       rotate_left
       ·show Act.put _ (some 55) _ = _
        simp only [Act.put, List.setIfInBounds_toArray, List.set_cons_zero, List.set_cons_succ, i64_w, i32_w]
        rfl
       refine pure_ (i := 4) (N := some 56) (v := ?_) (a' := ?_) #[true, true, true, true, true] rfl rfl (by kernel_rfl) (fun _ _ _ h => h) (Or.inl ⟨by rfl, ?_⟩) ?_ ?_
       rotate_left
       ·intro w'
        go_simp
        with_reducible rfl
       rotate_left
       ·simp only [Act.put, List.setIfInBounds_toArray, List.set_cons_zero, List.set_cons_succ, i64_w, i32_w]
        rfl
       refine done_ (by kernel_rfl) ?_
       try go_wp2
       go_ret
       exact ⟨by first | rfl | (simp [errW_none, errW_some] <;> rfl) | (simp [*, errW_none, errW_some] <;> rfl), by repeat (first | (with_reducible first | exact HB.out | apply below_alloc | apply pw_below_drewN | apply below_drew1 | refine below_set ?_ GE819.out | refine below_set ?_ GE834.out | refine below_set ?_ GE841.out | refine below_set ?_ GE849.out) | exact HB.out)⟩

/-- THE ONE PURE STATEMENT of laws_FnExactSecPut. -/
def laws_FnExactSecPut.Pure : Prop := ∀ (l0_0 : List ByteArray) (l0_1 : List (S79)) (a1 : Int) (a2 : ByteArray), wf34 (⟨l0_0, l0_1⟩ : S34) → (Lit.int .i64 a1).wf = true → a2.size ≤ 140737488351232 → ∃ k, laws_FnExactSecPut.f k l0_0 l0_1 a1 a2 = some true
theorem laws_FnExactSecPut.walk (P : laws_FnExactSecPut.Pure) (A0_0 : Option Addr) (c0_0 : Nat) (l0_0 : List ByteArray) (A0_1 : Option Addr) (c0_1 : Nat) (l0_1 : List (S79)) (a1 : Int) (a2 : ByteArray) (w : World) (hw0 : wf34 (⟨l0_0, l0_1⟩ : S34)) (hw1 : (Lit.int .i64 a1).wf = true) (hw2 : a2.size ≤ 140737488351232) (hr0_0 : Kd.C Kd.string w A0_0 l0_0.length l0_0) (hc0_0 : l0_0.length ≤ c0_0) (hr0_1 : Kd.C k79 w A0_1 l0_1.length l0_1) (hc0_1 : l0_1.length ≤ c0_1) :
  Calls Try.prog 13 #[.agg #[.slice A0_0 l0_0.length c0_0, .slice A0_1 l0_1.length c0_1], .int .i64 a1, .string a2] w fun e w' => e = .returned (.bool true) ∧ Below w.heap.size w w' := by
 obtain ⟨k, h⟩ := P l0_0 l0_1 a1 a2 hw0 hw1 hw2
 refine (laws_FnExactSecPut.calls k A0_0 c0_0 l0_0 A0_1 c0_1 l0_1 a1 a2 true w hr0_0 hc0_0 hr0_1 hc0_1 h).mono ?_
 rintro e w' ⟨rfl, hd⟩
 exact ⟨rfl, hd⟩

end Go.Proofs.Ythkdhcaojhbfoaa.P
