-- printed by pprint.py (this session's program over the kit's printer) out of the translation. Lean checks it.
import Derived.Test.YthkdhcaojhbfoaaPx0
import Derived.Test.YthkdhcaojhbfoaaPx4
import Derived.Test.YthkdhcaojhbfoaaPx7
import Derived.Test.YthkdhcaojhbfoaaPx8
import Derived.Test.YthkdhcaojhbfoaaPx18
namespace Go.Proofs.Ythkdhcaojhbfoaa.P
open Go.RowKit Go.Proofs.YthkdhcaojhbfoaaX Go.Proofs.YthkdhcaojhbfoaaW.PrintWords Go.Proofs.YthkdhcaojhbfoaaW.PrintLast Go.Proofs.YthkdhcaojhbfoaaW.PrintMore
attribute [local go_sem] max2_int min2_int max_two min_two max_three min_three max_four min_four   -- for this text's walks alone
set_option linter.unusedVariables false
set_option linter.unusedSimpArgs false

/-! ### spec_WalNew: function 20 -/
def spec_WalNew.f  : Option (List ByteArray × (List (S54))) := (spec_SecNew.f 501).bind fun bt172 => (some (bt172.1, bt172.2))
set_option maxHeartbeats 8000000 in
set_option maxRecDepth 100000 in
theorem spec_WalNew.calls  (r1 : List ByteArray) (r2 : List (S54)) (w : World) (h : spec_WalNew.f  = some (r1, r2)) :
  Calls Try.prog 20 #[] w fun e w' => ∃ v0_ v1_ : Value, e = .returned (.agg #[v0_, v1_]) ∧ Kd.R Kd.string 9 w' w.heap.size (fun _ => True) v0_ r1 ∧ Kd.R k54 54 w' w.heap.size (fun _ => True) v1_ r2 ∧ Below w.heap.size w w' := by
 have hu26 := Try.underlying26
 have HB := Aside0.mk (Below.refl w.heap.size w)
 have H : ((spec_SecNew.f 501).bind fun bt172 => (some (bt172.1, bt172.2))) = some (r1, r2) := h
 clear h
 replace H := Option.bind_eq_some_iff.mp H
 obtain ⟨⟨t172, t175⟩, A10, H⟩ := H
 replace H : (some (t172, t175)) = some (r1, r2) := H
 have A1 := Aside0.mk A10
 clear A10
 simp only [Option.some.injEq, Prod.mk.injEq] at H
 obtain ⟨rfl, rfl⟩ := H
 go_enter Try.func20, Try.ntmps20
 go_wp2_with (first | ((with_reducible refine gate_dst (N := 0) rfl ?_); refine box_event ?hg (N := 0) ?hd (cs := #[.slice none 0 0, .slice none 0 0]) (t := 26) ?hr ?_; (case hd => rfl); (case hg => rfl); (case hr => first | (go_simp; done) | (go_simp; rfl)); intro gb171 hg w2 hbox hb; have n0_ := Aside0.mk (below_step (pB HB.out) hb); have n1_ := Aside0.mk (hbox); have n2_ := Aside0.mk ((by rw [hg]; exact (below_size (pB HB.out)) : w.heap.size ≤ gb171)); have n3_ := Aside0.mk ((by rw [hg]; exact (below_size (pB HB.out)) : w.heap.size ≤ gb171)); clear HB; have HB := n0_; have BK171 := n1_; have GW171 := n2_; have GE171 := n3_; clear n0_ n1_ n2_ n3_; clear hb hbox hg) | ((with_reducible refine gate_callee (f := 15) rfl ?_); refine goesL_ (some 1) rfl rfl Try.func15 (by kernel_rfl) rfl #[.int .i64 501] rfl bM ?_; (with_reducible refine (spec_SecNew.calls 501 t172 t175 _ A1.out).mono ?_); rintro e w3 ⟨v173, v176, rfl, ho0, ho1, hb⟩; refine ⟨_, rfl, ?_⟩; have n0_ := Aside0.mk (Kd.R_lower ho0 (below_size (by repeat (first | (with_reducible first | exact HB.out | apply below_alloc | apply pw_below_drewN | apply below_drew1 | refine below_set ?_ GE171.out) | exact HB.out)))); have n1_ := Aside0.mk (Kd.R_lower ho1 (below_size (by repeat (first | (with_reducible first | exact HB.out | apply below_alloc | apply pw_below_drewN | apply below_drew1 | refine below_set ?_ GE171.out) | exact HB.out)))); have n2_ := Aside0.mk (blk_below (g := gb171) (o := .cells #[.slice none 0 0, .slice none 0 0] 26 (0, 0)) (pK BK171.out) hb); have n3_ := Aside0.mk (below_step (by repeat (first | (with_reducible first | exact HB.out | apply below_alloc | apply pw_below_drewN | apply below_drew1 | refine below_set ?_ GE171.out) | exact HB.out)) hb); clear BK171; clear HB; have HO174 := n0_; have HO177 := n1_; have BK171 := n2_; have HB := n3_; clear n0_ n1_ n2_ n3_; (try clear hb); (try clear hb2); (try clear hk); (try clear hi); (try clear ho0); (try clear ho1); obtain ⟨Ao4, co4, eo4⟩ := Kd.R_slice HO174.out; subst eo4; have hcz5_0 : w3.cell? ⟨gb171, 0, none⟩ = some (.slice none 0 0) := (blk_cell BK171.out 0).trans rfl; have hcz5_1 : w3.cell? ⟨gb171, 1, none⟩ = some (.slice none 0 0) := (blk_cell BK171.out 1).trans rfl; have hfz5_0 := blk_frozen BK171.out 0; have hfz5_1 := blk_frozen BK171.out 1; obtain ⟨Ao6, co6, eo6⟩ := Kd.R_slice HO177.out; subst eo6))
 refine bodyPost_ret (results_cell_row rfl _ _ gb171 26 #[.slice Ao4 t172.length co4, .slice Ao6 t175.length co6] (0, 0) _ rfl (by (with_reducible repeat (first | refine blk_drewN ?_ _ | refine blk_drew ?_ | refine blk_alloc ?_ _)); refine blk_put (cs := #[.slice Ao4 t172.length co4, .slice none 0 0]) ?_ 1 _ rfl; (with_reducible repeat (first | refine blk_drewN ?_ _ | refine blk_drew ?_ | refine blk_alloc ?_ _)); refine blk_put (cs := #[.slice none 0 0, .slice none 0 0]) ?_ 0 _ rfl; (with_reducible repeat (first | refine blk_drewN ?_ _ | refine blk_drew ?_ | refine blk_alloc ?_ _)); exact BK171.out) Try.underlying26 rfl (by kernel_rfl)) rfl ?_
 exact ⟨_, _, by first | rfl | (simp [errW_none, errW_some] <;> rfl) | (simp [*, errW_none, errW_some] <;> rfl), pR (Kd.R_mono (Kd.R_far (p := ⟨gb171, 1, none⟩) (Kd.R_far (p := ⟨gb171, 0, none⟩) (Kd.R_types HO174.out BK171.out (by decide)) (fun _ hk => hk.2) (.slice Ao4 t172.length co4)) (fun _ hk => hk.2) (.slice Ao6 t175.length co6)) (fun _ hk => trivial)), pR (Kd.R_mono (Kd.R_far (p := ⟨gb171, 1, none⟩) (Kd.R_far (p := ⟨gb171, 0, none⟩) (Kd.R_types HO177.out BK171.out (by decide)) (fun _ hk => hk.2) (.slice Ao4 t172.length co4)) (fun _ hk => hk.2) (.slice Ao6 t175.length co6)) (fun _ hk => trivial)), by repeat (first | (with_reducible first | exact HB.out | apply below_alloc | apply pw_below_drewN | apply below_drew1 | refine below_set ?_ GE171.out) | exact HB.out)⟩

/-! ### impl_WalNew: function 21 -/
def impl_WalNew.f  : Option (List ByteArray × (List (S54))) := (impl_SecNew.f 501).bind fun bt179 => (some (bt179.1, bt179.2))
set_option maxHeartbeats 8000000 in
set_option maxRecDepth 100000 in
theorem impl_WalNew.calls  (r1 : List ByteArray) (r2 : List (S54)) (w : World) (h : impl_WalNew.f  = some (r1, r2)) :
  Calls Try.prog 21 #[] w fun e w' => ∃ v0_ v1_ : Value, e = .returned (.agg #[v0_, v1_]) ∧ Kd.R Kd.string 9 w' w.heap.size (fun _ => True) v0_ r1 ∧ Kd.R k54 54 w' w.heap.size (fun _ => True) v1_ r2 ∧ Below w.heap.size w w' := by
 have hu26 := Try.underlying26
 have HB := Aside0.mk (Below.refl w.heap.size w)
 have H : ((impl_SecNew.f 501).bind fun bt179 => (some (bt179.1, bt179.2))) = some (r1, r2) := h
 clear h
 replace H := Option.bind_eq_some_iff.mp H
 obtain ⟨⟨t179, t182⟩, A10, H⟩ := H
 replace H : (some (t179, t182)) = some (r1, r2) := H
 have A1 := Aside0.mk A10
 clear A10
 simp only [Option.some.injEq, Prod.mk.injEq] at H
 obtain ⟨rfl, rfl⟩ := H
 go_enter Try.func21, Try.ntmps21
 go_wp2_with (first | ((with_reducible refine gate_dst (N := 0) rfl ?_); refine box_event ?hg (N := 0) ?hd (cs := #[.slice none 0 0, .slice none 0 0]) (t := 26) ?hr ?_; (case hd => rfl); (case hg => rfl); (case hr => first | (go_simp; done) | (go_simp; rfl)); intro gb178 hg w2 hbox hb; have n0_ := Aside0.mk (below_step (pB HB.out) hb); have n1_ := Aside0.mk (hbox); have n2_ := Aside0.mk ((by rw [hg]; exact (below_size (pB HB.out)) : w.heap.size ≤ gb178)); have n3_ := Aside0.mk ((by rw [hg]; exact (below_size (pB HB.out)) : w.heap.size ≤ gb178)); clear HB; have HB := n0_; have BK178 := n1_; have GW178 := n2_; have GE178 := n3_; clear n0_ n1_ n2_ n3_; clear hb hbox hg) | ((with_reducible refine gate_callee (f := 16) rfl ?_); refine goesL_ (some 1) rfl rfl Try.func16 (by kernel_rfl) rfl #[.int .i64 501] rfl bM ?_; (with_reducible refine (impl_SecNew.calls 501 t179 t182 _ A1.out).mono ?_); rintro e w3 ⟨v180, v183, rfl, ho0, ho1, hb⟩; refine ⟨_, rfl, ?_⟩; have n0_ := Aside0.mk (Kd.R_lower ho0 (below_size (by repeat (first | (with_reducible first | exact HB.out | apply below_alloc | apply pw_below_drewN | apply below_drew1 | refine below_set ?_ GE178.out) | exact HB.out)))); have n1_ := Aside0.mk (Kd.R_lower ho1 (below_size (by repeat (first | (with_reducible first | exact HB.out | apply below_alloc | apply pw_below_drewN | apply below_drew1 | refine below_set ?_ GE178.out) | exact HB.out)))); have n2_ := Aside0.mk (blk_below (g := gb178) (o := .cells #[.slice none 0 0, .slice none 0 0] 26 (0, 0)) (pK BK178.out) hb); have n3_ := Aside0.mk (below_step (by repeat (first | (with_reducible first | exact HB.out | apply below_alloc | apply pw_below_drewN | apply below_drew1 | refine below_set ?_ GE178.out) | exact HB.out)) hb); clear BK178; clear HB; have HO181 := n0_; have HO184 := n1_; have BK178 := n2_; have HB := n3_; clear n0_ n1_ n2_ n3_; (try clear hb); (try clear hb2); (try clear hk); (try clear hi); (try clear ho0); (try clear ho1); obtain ⟨Ao4, co4, eo4⟩ := Kd.R_slice HO181.out; subst eo4; have hcz5_0 : w3.cell? ⟨gb178, 0, none⟩ = some (.slice none 0 0) := (blk_cell BK178.out 0).trans rfl; have hcz5_1 : w3.cell? ⟨gb178, 1, none⟩ = some (.slice none 0 0) := (blk_cell BK178.out 1).trans rfl; have hfz5_0 := blk_frozen BK178.out 0; have hfz5_1 := blk_frozen BK178.out 1; obtain ⟨Ao6, co6, eo6⟩ := Kd.R_slice HO184.out; subst eo6))
 refine bodyPost_ret (results_cell_row rfl _ _ gb178 26 #[.slice Ao4 t179.length co4, .slice Ao6 t182.length co6] (0, 0) _ rfl (by (with_reducible repeat (first | refine blk_drewN ?_ _ | refine blk_drew ?_ | refine blk_alloc ?_ _)); refine blk_put (cs := #[.slice Ao4 t179.length co4, .slice none 0 0]) ?_ 1 _ rfl; (with_reducible repeat (first | refine blk_drewN ?_ _ | refine blk_drew ?_ | refine blk_alloc ?_ _)); refine blk_put (cs := #[.slice none 0 0, .slice none 0 0]) ?_ 0 _ rfl; (with_reducible repeat (first | refine blk_drewN ?_ _ | refine blk_drew ?_ | refine blk_alloc ?_ _)); exact BK178.out) Try.underlying26 rfl (by kernel_rfl)) rfl ?_
 exact ⟨_, _, by first | rfl | (simp [errW_none, errW_some] <;> rfl) | (simp [*, errW_none, errW_some] <;> rfl), pR (Kd.R_mono (Kd.R_far (p := ⟨gb178, 1, none⟩) (Kd.R_far (p := ⟨gb178, 0, none⟩) (Kd.R_types HO181.out BK178.out (by decide)) (fun _ hk => hk.2) (.slice Ao4 t179.length co4)) (fun _ hk => hk.2) (.slice Ao6 t182.length co6)) (fun _ hk => trivial)), pR (Kd.R_mono (Kd.R_far (p := ⟨gb178, 1, none⟩) (Kd.R_far (p := ⟨gb178, 0, none⟩) (Kd.R_types HO184.out BK178.out (by decide)) (fun _ hk => hk.2) (.slice Ao4 t179.length co4)) (fun _ hk => hk.2) (.slice Ao6 t182.length co6)) (fun _ hk => trivial)), by repeat (first | (with_reducible first | exact HB.out | apply below_alloc | apply pw_below_drewN | apply below_drew1 | refine below_set ?_ GE178.out) | exact HB.out)⟩

/-! ### laws_FnExactWalNew: function 5 -/
mutual
def laws_FnExactWalNew.j0 : Nat → List ByteArray → List (S54) → List ByteArray → List (S54) → Option (Bool)
 | 0, _, _, _, _ => none
 | k + 1, x192000, x192001, x199000, x199001 => (laws_markSecDisk.f k x199000 x199001 1).bind fun bt200 => ((laws_heldSecDisk.f k bt200.2.1 bt200.2.2 1).bind fun t203 => (if t203 < 0 then (some false) else (laws_FnExactWalNew.j1 k bt200.1 t203 x192000 x192001 bt200.2.1 bt200.2.2)))
def laws_FnExactWalNew.j1 : Nat → Int → Int → List ByteArray → List (S54) → List ByteArray → List (S54) → Option (Bool)
 | 0, _, _, _, _, _, _ => none
 | k + 1, x3, x4, x192000, x192001, x199000, x199001 => if x4 = x3 then (laws_FnExactWalNew.j2 k x3 x192000 x192001 x199000 x199001) else (some false)
def laws_FnExactWalNew.j2 : Nat → Int → List ByteArray → List (S54) → List ByteArray → List (S54) → Option (Bool)
 | 0, _, _, _, _, _ => none
 | k + 1, x3, x192000, x192001, x199000, x199001 => (impl_WalNew.f).bind fun bt204 => ((laws_eqSecDisk.f k bt204.1 bt204.2 x192000 x192001).bind fun t211 => (if t211 = true then (laws_FnExactWalNew.j3 k x3 x199000 x199001) else (some false)))
def laws_FnExactWalNew.j3 : Nat → Int → List ByteArray → List (S54) → Option (Bool)
 | 0, _, _, _ => none
 | k + 1, x3, x199000, x199001 => (laws_heldSecDisk.f k x199000 x199001 1).bind fun t212 => (if t212 < 0 then (some false) else (if t212 = x3 then (some true) else (some false)))
end
def laws_FnExactWalNew.f (k : Nat)  : Option (Bool) := (spec_WalNew.f).bind fun bt185 => ((impl_WalNew.f).bind fun bt192 => ((laws_eqSecDisk.f k bt192.1 bt192.2 bt185.1 bt185.2).bind fun t199 => (if t199 = true then (laws_FnExactWalNew.j0 k bt185.1 bt185.2 bt192.1 bt192.2) else (some false))))
theorem laws_FnExactWalNew.mono_l : ∀ k, (∀ y0 y1 y2 y3, LeO (laws_FnExactWalNew.j0 k y0 y1 y2 y3) (laws_FnExactWalNew.j0 (k + 1) y0 y1 y2 y3)) ∧ (∀ y0 y1 y2 y3 y4 y5, LeO (laws_FnExactWalNew.j1 k y0 y1 y2 y3 y4 y5) (laws_FnExactWalNew.j1 (k + 1) y0 y1 y2 y3 y4 y5)) ∧ (∀ y0 y1 y2 y3 y4, LeO (laws_FnExactWalNew.j2 k y0 y1 y2 y3 y4) (laws_FnExactWalNew.j2 (k + 1) y0 y1 y2 y3 y4)) ∧ (∀ y0 y1 y2, LeO (laws_FnExactWalNew.j3 k y0 y1 y2) (laws_FnExactWalNew.j3 (k + 1) y0 y1 y2))
 | 0 => ⟨fun _ _ _ _ r h => by simp [laws_FnExactWalNew.j0] at h, fun _ _ _ _ _ _ r h => by simp [laws_FnExactWalNew.j1] at h, fun _ _ _ _ _ r h => by simp [laws_FnExactWalNew.j2] at h, fun _ _ _ r h => by simp [laws_FnExactWalNew.j3] at h⟩
 | k + 1 => by
  obtain ⟨ih0, ih1, ih2, ih3⟩ := laws_FnExactWalNew.mono_l k
  refine ⟨?_, ?_, ?_, ?_⟩
  ·intro y0 y1 y2 y3
   unfold laws_FnExactWalNew.j0
   repeat' first
   | (with_reducible exact ih0 _ _ _ _)
   | (with_reducible exact ih1 _ _ _ _ _ _)
   | (with_reducible exact ih2 _ _ _ _ _)
   | (with_reducible exact ih3 _ _ _)
   | (with_reducible exact laws_eqSecDisk.mono _ _ _ _ _)
   | (with_reducible exact laws_heldSecDisk.mono _ _ _ _)
   | (with_reducible exact laws_markSecDisk.mono _ _ _ _)
   | (with_reducible exact LeO.refl _)
   | (with_reducible exact LeO.none _)
   | (with_reducible refine LeO.ite ?_ ?_)
   | (with_reducible refine LeO.bind ?_ (fun _ => ?_))
   | exact ih0 _ _ _ _
   | exact ih1 _ _ _ _ _ _
   | exact ih2 _ _ _ _ _
   | exact ih3 _ _ _
   | exact laws_eqSecDisk.mono _ _ _ _ _
   | exact laws_heldSecDisk.mono _ _ _ _
   | exact laws_markSecDisk.mono _ _ _ _
   | exact LeO.none _
   | refine LeO.ite ?_ ?_
   | refine LeO.bind ?_ (fun _ => ?_)
  ·intro y0 y1 y2 y3 y4 y5
   unfold laws_FnExactWalNew.j1
   repeat' first
   | (with_reducible exact ih0 _ _ _ _)
   | (with_reducible exact ih1 _ _ _ _ _ _)
   | (with_reducible exact ih2 _ _ _ _ _)
   | (with_reducible exact ih3 _ _ _)
   | (with_reducible exact laws_eqSecDisk.mono _ _ _ _ _)
   | (with_reducible exact laws_heldSecDisk.mono _ _ _ _)
   | (with_reducible exact laws_markSecDisk.mono _ _ _ _)
   | (with_reducible exact LeO.refl _)
   | (with_reducible exact LeO.none _)
   | (with_reducible refine LeO.ite ?_ ?_)
   | (with_reducible refine LeO.bind ?_ (fun _ => ?_))
   | exact ih0 _ _ _ _
   | exact ih1 _ _ _ _ _ _
   | exact ih2 _ _ _ _ _
   | exact ih3 _ _ _
   | exact laws_eqSecDisk.mono _ _ _ _ _
   | exact laws_heldSecDisk.mono _ _ _ _
   | exact laws_markSecDisk.mono _ _ _ _
   | exact LeO.none _
   | refine LeO.ite ?_ ?_
   | refine LeO.bind ?_ (fun _ => ?_)
  ·intro y0 y1 y2 y3 y4
   unfold laws_FnExactWalNew.j2
   repeat' first
   | (with_reducible exact ih0 _ _ _ _)
   | (with_reducible exact ih1 _ _ _ _ _ _)
   | (with_reducible exact ih2 _ _ _ _ _)
   | (with_reducible exact ih3 _ _ _)
   | (with_reducible exact laws_eqSecDisk.mono _ _ _ _ _)
   | (with_reducible exact laws_heldSecDisk.mono _ _ _ _)
   | (with_reducible exact laws_markSecDisk.mono _ _ _ _)
   | (with_reducible exact LeO.refl _)
   | (with_reducible exact LeO.none _)
   | (with_reducible refine LeO.ite ?_ ?_)
   | (with_reducible refine LeO.bind ?_ (fun _ => ?_))
   | exact ih0 _ _ _ _
   | exact ih1 _ _ _ _ _ _
   | exact ih2 _ _ _ _ _
   | exact ih3 _ _ _
   | exact laws_eqSecDisk.mono _ _ _ _ _
   | exact laws_heldSecDisk.mono _ _ _ _
   | exact laws_markSecDisk.mono _ _ _ _
   | exact LeO.none _
   | refine LeO.ite ?_ ?_
   | refine LeO.bind ?_ (fun _ => ?_)
  ·intro y0 y1 y2
   unfold laws_FnExactWalNew.j3
   repeat' first
   | (with_reducible exact ih0 _ _ _ _)
   | (with_reducible exact ih1 _ _ _ _ _ _)
   | (with_reducible exact ih2 _ _ _ _ _)
   | (with_reducible exact ih3 _ _ _)
   | (with_reducible exact laws_eqSecDisk.mono _ _ _ _ _)
   | (with_reducible exact laws_heldSecDisk.mono _ _ _ _)
   | (with_reducible exact laws_markSecDisk.mono _ _ _ _)
   | (with_reducible exact LeO.refl _)
   | (with_reducible exact LeO.none _)
   | (with_reducible refine LeO.ite ?_ ?_)
   | (with_reducible refine LeO.bind ?_ (fun _ => ?_))
   | exact ih0 _ _ _ _
   | exact ih1 _ _ _ _ _ _
   | exact ih2 _ _ _ _ _
   | exact ih3 _ _ _
   | exact laws_eqSecDisk.mono _ _ _ _ _
   | exact laws_heldSecDisk.mono _ _ _ _
   | exact laws_markSecDisk.mono _ _ _ _
   | exact LeO.none _
   | refine LeO.ite ?_ ?_
   | refine LeO.bind ?_ (fun _ => ?_)
theorem laws_FnExactWalNew.mono : ∀ k, LeO (laws_FnExactWalNew.f k ) (laws_FnExactWalNew.f (k + 1) ) := by
 intro  k
 obtain ⟨ih0, ih1, ih2, ih3⟩ := laws_FnExactWalNew.mono_l k
 unfold laws_FnExactWalNew.f
 repeat' first
   | (with_reducible exact ih0 _ _ _ _)
   | (with_reducible exact ih1 _ _ _ _ _ _)
   | (with_reducible exact ih2 _ _ _ _ _)
   | (with_reducible exact ih3 _ _ _)
   | (with_reducible exact laws_eqSecDisk.mono _ _ _ _ _)
   | (with_reducible exact laws_heldSecDisk.mono _ _ _ _)
   | (with_reducible exact laws_markSecDisk.mono _ _ _ _)
   | (with_reducible exact LeO.refl _)
   | (with_reducible exact LeO.none _)
   | (with_reducible refine LeO.ite ?_ ?_)
   | (with_reducible refine LeO.bind ?_ (fun _ => ?_))
   | exact ih0 _ _ _ _
   | exact ih1 _ _ _ _ _ _
   | exact ih2 _ _ _ _ _
   | exact ih3 _ _ _
   | exact laws_eqSecDisk.mono _ _ _ _ _
   | exact laws_heldSecDisk.mono _ _ _ _
   | exact laws_markSecDisk.mono _ _ _ _
   | exact LeO.none _
   | refine LeO.ite ?_ ?_
   | refine LeO.bind ?_ (fun _ => ?_)
set_option maxHeartbeats 8000000 in
set_option maxRecDepth 100000 in
theorem laws_FnExactWalNew.calls (k : Nat)  (r : Bool) (w : World) (h : laws_FnExactWalNew.f k  = some r) :
  Calls Try.prog 5 #[] w fun e w' => e = .returned (.bool r) ∧ Below w.heap.size w w' := by
 have hu26 := Try.underlying26
 have HB := Aside0.mk (Below.refl w.heap.size w)
 have H : ((spec_WalNew.f).bind fun bt185 => ((impl_WalNew.f).bind fun bt192 => ((laws_eqSecDisk.f k bt192.1 bt192.2 bt185.1 bt185.2).bind fun t199 => (if t199 = true then (laws_FnExactWalNew.j0 k bt185.1 bt185.2 bt192.1 bt192.2) else (some false))))) = some r := h
 clear h
 replace H := Option.bind_eq_some_iff.mp H
 obtain ⟨⟨t185, t188⟩, A10, H⟩ := H
 replace H : ((impl_WalNew.f).bind fun bt192 => ((laws_eqSecDisk.f k bt192.1 bt192.2 t185 t188).bind fun t199 => (if t199 = true then (laws_FnExactWalNew.j0 k t185 t188 bt192.1 bt192.2) else (some false)))) = some r := H
 have A1 := Aside0.mk A10
 clear A10
 replace H := Option.bind_eq_some_iff.mp H
 obtain ⟨⟨t192, t195⟩, A20, H⟩ := H
 replace H : ((laws_eqSecDisk.f k t192 t195 t185 t188).bind fun t199 => (if t199 = true then (laws_FnExactWalNew.j0 k t185 t188 t192 t195) else (some false))) = some r := H
 have A2 := Aside0.mk A20
 clear A20
 replace H := Option.bind_eq_some_iff.mp H
 obtain ⟨t199, A30, H⟩ := H
 replace H : (if t199 = true then (laws_FnExactWalNew.j0 k t185 t188 t192 t195) else (some false)) = some r := H
 have A3 := Aside0.mk A30
 clear A30
 have HC4 := Aside0.mk H
 clear H
 go_enter Try.func5, Try.ntmps5
 go_upto_if 11 with (first | ((with_reducible refine gate_callee (f := 20) rfl ?_); refine goesL_ (some 6) rfl rfl Try.func20 (by kernel_rfl) rfl #[] rfl bM ?_; (with_reducible refine (spec_WalNew.calls  t185 t188 _ A1.out).mono ?_); rintro e w5 ⟨v186, v189, rfl, ho0, ho1, hb⟩; refine ⟨_, rfl, ?_⟩; have n0_ := Aside0.mk (Kd.R_lower ho0 (below_size (pB HB.out))); have n1_ := Aside0.mk (Kd.R_lower ho1 (below_size (pB HB.out))); have n2_ := Aside0.mk (below_step (pB HB.out) hb); clear HB; have HO187 := n0_; have HO190 := n1_; have HB := n2_; clear n0_ n1_ n2_; (try clear hb); (try clear hb2); (try clear hk); (try clear hi); (try clear ho0); (try clear ho1)) | ((with_reducible refine gate_dst (N := 1) rfl ?_); refine box_event ?hg (N := 1) ?hd (cs := #[.slice none 0 0, .slice none 0 0]) (t := 26) ?hr ?_; (case hd => rfl); (case hg => rfl); (case hr => first | (go_simp; done) | (go_simp; rfl)); intro gb191 hg w6 hbox hb; have n0_ := Aside0.mk (Kd.R_below (pR HO187.out) hb); have n1_ := Aside0.mk (Kd.R_below (pR HO190.out) hb); have n2_ := Aside0.mk (below_step (pB HB.out) hb); have n3_ := Aside0.mk (hbox); have n4_ := Aside0.mk ((by rw [hg]; exact (below_size (pB HB.out)) : w.heap.size ≤ gb191)); have n5_ := Aside0.mk ((by rw [hg]; exact (below_size (pB HB.out)) : w.heap.size ≤ gb191)); clear HO187; clear HO190; clear HB; have HO187 := n0_; have HO190 := n1_; have HB := n2_; have BK191 := n3_; have GW191 := n4_; have GE191 := n5_; clear n0_ n1_ n2_ n3_ n4_ n5_; clear hb hbox hg; obtain ⟨Ao7, co7, eo7⟩ := Kd.R_slice HO187.out; subst eo7; have hcz8_0 : w6.cell? ⟨gb191, 0, none⟩ = some (.slice none 0 0) := (blk_cell BK191.out 0).trans rfl; have hcz8_1 : w6.cell? ⟨gb191, 1, none⟩ = some (.slice none 0 0) := (blk_cell BK191.out 1).trans rfl; have hfz8_0 := blk_frozen BK191.out 0; have hfz8_1 := blk_frozen BK191.out 1; obtain ⟨Ao9, co9, eo9⟩ := Kd.R_slice HO190.out; subst eo9) | ((with_reducible refine gate_callee (f := 21) rfl ?_); refine goesL_ (some 7) rfl rfl Try.func21 (by kernel_rfl) rfl #[] rfl bM ?_; (with_reducible refine (impl_WalNew.calls  t192 t195 _ A2.out).mono ?_); rintro e w10 ⟨v193, v196, rfl, ho0, ho1, hb⟩; refine ⟨_, rfl, ?_⟩; have n0_ := Aside0.mk (Kd.R_elder' (pR (Kd.R_mono (Kd.R_far (p := ⟨gb191, 1, none⟩) (Kd.R_far (p := ⟨gb191, 0, none⟩) (Kd.R_types HO187.out BK191.out (by decide)) (fun _ hk => hk.2) (.slice Ao7 t185.length co7)) (fun _ hk => hk.2) (.slice Ao9 t188.length co9)) (fun _ h_ => h_.1))) (Kd.R_base ho0) hb); have n1_ := Aside0.mk (Kd.R_elder' (pR (Kd.R_mono (Kd.R_far (p := ⟨gb191, 1, none⟩) (Kd.R_far (p := ⟨gb191, 0, none⟩) (Kd.R_types HO190.out BK191.out (by decide)) (fun _ hk => hk.2) (.slice Ao7 t185.length co7)) (fun _ hk => hk.2) (.slice Ao9 t188.length co9)) (fun _ h_ => h_.1))) (Kd.R_base ho1) hb); have n2_ := Aside0.mk (Kd.R_lower (Kd.R_new' ho0 (Kd.R_lt (pR (Kd.R_mono (Kd.R_far (p := ⟨gb191, 1, none⟩) (Kd.R_far (p := ⟨gb191, 0, none⟩) (Kd.R_types HO187.out BK191.out (by decide)) (fun _ hk => hk.2) (.slice Ao7 t185.length co7)) (fun _ hk => hk.2) (.slice Ao9 t188.length co9)) (fun _ h_ => h_.1))))) (below_size (by repeat (first | (with_reducible first | exact HB.out | apply below_alloc | apply pw_below_drewN | apply below_drew1 | refine below_set ?_ GE191.out) | exact HB.out)))); have n3_ := Aside0.mk (Kd.R_lower (Kd.R_new' ho1 (Kd.R_lt (pR (Kd.R_mono (Kd.R_far (p := ⟨gb191, 1, none⟩) (Kd.R_far (p := ⟨gb191, 0, none⟩) (Kd.R_types HO190.out BK191.out (by decide)) (fun _ hk => hk.2) (.slice Ao7 t185.length co7)) (fun _ hk => hk.2) (.slice Ao9 t188.length co9)) (fun _ h_ => h_.1))))) (below_size (by repeat (first | (with_reducible first | exact HB.out | apply below_alloc | apply pw_below_drewN | apply below_drew1 | refine below_set ?_ GE191.out) | exact HB.out)))); have n4_ := Aside0.mk (blk_below (g := gb191) (o := .cells #[.slice Ao7 t185.length co7, .slice Ao9 t188.length co9] 26 (0, 0)) (by (with_reducible repeat (first | refine blk_drewN ?_ _ | refine blk_drew ?_ | refine blk_alloc ?_ _)); refine blk_put (cs := #[.slice Ao7 t185.length co7, .slice none 0 0]) ?_ 1 _ rfl; (with_reducible repeat (first | refine blk_drewN ?_ _ | refine blk_drew ?_ | refine blk_alloc ?_ _)); refine blk_put (cs := #[.slice none 0 0, .slice none 0 0]) ?_ 0 _ rfl; (with_reducible repeat (first | refine blk_drewN ?_ _ | refine blk_drew ?_ | refine blk_alloc ?_ _)); exact BK191.out) hb); have n5_ := Aside0.mk (below_step (by repeat (first | (with_reducible first | exact HB.out | apply below_alloc | apply pw_below_drewN | apply below_drew1 | refine below_set ?_ GE191.out) | exact HB.out)) hb); clear HO187; clear HO190; clear BK191; clear HB; have HO187 := n0_; have HO190 := n1_; have HO194 := n2_; have HO197 := n3_; have BK191 := n4_; have HB := n5_; clear n0_ n1_ n2_ n3_ n4_ n5_; (try clear hb); (try clear hb2); (try clear hk); (try clear hi); (try clear ho0); (try clear ho1)) | ((with_reducible refine gate_dst (N := 2) rfl ?_); refine box_event ?hg (N := 2) ?hd (cs := #[.slice none 0 0, .slice none 0 0]) (t := 26) ?hr ?_; (case hd => rfl); (case hg => rfl); (case hr => first | (go_simp; done) | (go_simp; rfl)); intro gb198 hg w11 hbox hb; have n0_ := Aside0.mk (Kd.R_below (pR HO187.out) hb); have n1_ := Aside0.mk (Kd.R_below (pR HO190.out) hb); have n2_ := Aside0.mk (Kd.R_below (pR HO194.out) hb); have n3_ := Aside0.mk (Kd.R_below (pR HO197.out) hb); have n4_ := Aside0.mk (blk_below (g := gb191) (o := .cells #[.slice Ao7 t185.length co7, .slice Ao9 t188.length co9] 26 (0, 0)) (pK BK191.out) hb); have n5_ := Aside0.mk (below_step (by repeat (first | (with_reducible first | exact HB.out | apply below_alloc | apply pw_below_drewN | apply below_drew1 | refine below_set ?_ GE191.out) | exact HB.out)) hb); have n6_ := Aside0.mk (hbox); have n7_ := Aside0.mk ((by rw [hg]; exact (below_size (by repeat (first | (with_reducible first | exact HB.out | apply below_alloc | apply pw_below_drewN | apply below_drew1 | refine below_set ?_ GE191.out) | exact HB.out))) : w.heap.size ≤ gb198)); have n8_ := Aside0.mk ((by rw [hg]; exact (below_size (by repeat (first | (with_reducible first | exact HB.out | apply below_alloc | apply pw_below_drewN | apply below_drew1 | refine below_set ?_ GE191.out) | exact HB.out))) : w.heap.size ≤ gb198)); have n9_ := Aside0.mk ((by rw [hg]; exact Nat.ne_of_lt (blk_lt (g := gb191) (o := .cells #[.slice Ao7 t185.length co7, .slice Ao9 t188.length co9] 26 (0, 0)) (pK BK191.out)) : gb191 ≠ gb198)); have n10_ := Aside0.mk ((by rw [hg]; exact Nat.ne_of_gt (blk_lt (g := gb191) (o := .cells #[.slice Ao7 t185.length co7, .slice Ao9 t188.length co9] 26 (0, 0)) (pK BK191.out)) : gb198 ≠ gb191)); clear HO187; clear HO190; clear HO194; clear HO197; clear BK191; clear HB; have HO187 := n0_; have HO190 := n1_; have HO194 := n2_; have HO197 := n3_; have BK191 := n4_; have HB := n5_; have BK198 := n6_; have GW198 := n7_; have GE198 := n8_; have NB191_198 := n9_; have NB198_191 := n10_; clear n0_ n1_ n2_ n3_ n4_ n5_ n6_ n7_ n8_ n9_ n10_; clear hb hbox hg; obtain ⟨Ao12, co12, eo12⟩ := Kd.R_slice HO194.out; subst eo12; have hnb13 := NB198_191.out; have hnc13 := NB191_198.out; have hcz14_0 : w11.cell? ⟨gb198, 0, none⟩ = some (.slice none 0 0) := (blk_cell BK198.out 0).trans rfl; have hcz14_1 : w11.cell? ⟨gb198, 1, none⟩ = some (.slice none 0 0) := (blk_cell BK198.out 1).trans rfl; have hfz14_0 := blk_frozen BK198.out 0; have hfz14_1 := blk_frozen BK198.out 1; obtain ⟨Ao15, co15, eo15⟩ := Kd.R_slice HO197.out; subst eo15; have hcz16_0 : w11.cell? ⟨gb191, 0, none⟩ = some (.slice Ao7 t185.length co7) := (blk_cell BK191.out 0).trans rfl; have hcz16_1 : w11.cell? ⟨gb191, 1, none⟩ = some (.slice Ao9 t188.length co9) := (blk_cell BK191.out 1).trans rfl; have hfz16_0 := blk_frozen BK191.out 0; have hfz16_1 := blk_frozen BK191.out 1) | ((with_reducible refine gate_callee (f := 17) rfl ?_); refine goesL_ (some 10) rfl rfl Try.func17 (by kernel_rfl) rfl #[.agg #[.slice Ao12 t192.length co12, .slice Ao15 t195.length co15], .agg #[.slice Ao7 t185.length co7, .slice Ao9 t188.length co9]] rfl bM ?_; (with_reducible refine (laws_eqSecDisk.calls k _ _ t192 _ _ t195 _ _ t185 _ _ t188 t199 _ ?side1 ?side2 ?side3 ?side4 ?side5 ?side6 ?side7 ?side8 A3.out).mono ?_); (case side1 => refine (Kd.R_reads' (e := 9) (base := w.heap.size) (ok := fun k_ => (True ∧ some k_ ≠ (.slice Ao7 t185.length co7 : Value).ownBlock)) (n := t192.length) (c := co12) ?_).2.2; exact (pR (Kd.R_mono (Kd.R_far (p := ⟨gb198, 1, none⟩) (Kd.R_far (p := ⟨gb198, 0, none⟩) (Kd.R_types HO194.out BK198.out (by decide)) (fun _ hk => hk.2) (.slice Ao12 t192.length co12)) (fun _ hk => hk.2) (.slice Ao15 t195.length co15)) (fun _ h_ => h_.1)))); (case side2 => exact (Kd.R_reads' HO194.out).2.1); (case side3 => refine (Kd.R_reads' (e := 54) (base := w.heap.size) (ok := fun k_ => (True ∧ some k_ ≠ (.slice Ao9 t188.length co9 : Value).ownBlock)) (n := t195.length) (c := co15) ?_).2.2; exact (pR (Kd.R_mono (Kd.R_far (p := ⟨gb198, 1, none⟩) (Kd.R_far (p := ⟨gb198, 0, none⟩) (Kd.R_types HO197.out BK198.out (by decide)) (fun _ hk => hk.2) (.slice Ao12 t192.length co12)) (fun _ hk => hk.2) (.slice Ao15 t195.length co15)) (fun _ h_ => h_.1)))); (case side4 => exact (Kd.R_reads' HO197.out).2.1); (case side5 => refine (Kd.R_reads' (e := 9) (base := w.heap.size) (ok := fun k_ => (True ∧ some k_ ≠ (.slice Ao12 t192.length co12 : Value).ownBlock)) (n := t185.length) (c := co7) ?_).2.2; exact (pR (Kd.R_mono (Kd.R_far (p := ⟨gb198, 1, none⟩) (Kd.R_far (p := ⟨gb198, 0, none⟩) (Kd.R_types HO187.out BK198.out (by decide)) (fun _ hk => hk.2) (.slice Ao12 t192.length co12)) (fun _ hk => hk.2) (.slice Ao15 t195.length co15)) (fun _ h_ => h_.1)))); (case side6 => exact (Kd.R_reads' HO187.out).2.1); (case side7 => refine (Kd.R_reads' (e := 54) (base := w.heap.size) (ok := fun k_ => (True ∧ some k_ ≠ (.slice Ao15 t195.length co15 : Value).ownBlock)) (n := t188.length) (c := co9) ?_).2.2; exact (pR (Kd.R_mono (Kd.R_far (p := ⟨gb198, 1, none⟩) (Kd.R_far (p := ⟨gb198, 0, none⟩) (Kd.R_types HO190.out BK198.out (by decide)) (fun _ hk => hk.2) (.slice Ao12 t192.length co12)) (fun _ hk => hk.2) (.slice Ao15 t195.length co15)) (fun _ h_ => h_.1)))); (case side8 => exact (Kd.R_reads' HO190.out).2.1); rintro e w17 ⟨rfl, hb⟩; refine ⟨_, rfl, ?_⟩; have n0_ := Aside0.mk (Kd.R_below (pR (Kd.R_mono (Kd.R_far (p := ⟨gb198, 1, none⟩) (Kd.R_far (p := ⟨gb198, 0, none⟩) (Kd.R_types HO187.out BK198.out (by decide)) (fun _ hk => hk.2) (.slice Ao12 t192.length co12)) (fun _ hk => hk.2) (.slice Ao15 t195.length co15)) (fun _ h_ => h_.1))) hb); have n1_ := Aside0.mk (Kd.R_below (pR (Kd.R_mono (Kd.R_far (p := ⟨gb198, 1, none⟩) (Kd.R_far (p := ⟨gb198, 0, none⟩) (Kd.R_types HO190.out BK198.out (by decide)) (fun _ hk => hk.2) (.slice Ao12 t192.length co12)) (fun _ hk => hk.2) (.slice Ao15 t195.length co15)) (fun _ h_ => h_.1))) hb); have n2_ := Aside0.mk (Kd.R_below (pR (Kd.R_mono (Kd.R_far (p := ⟨gb198, 1, none⟩) (Kd.R_far (p := ⟨gb198, 0, none⟩) (Kd.R_types HO194.out BK198.out (by decide)) (fun _ hk => hk.2) (.slice Ao12 t192.length co12)) (fun _ hk => hk.2) (.slice Ao15 t195.length co15)) (fun _ h_ => h_.1))) hb); have n3_ := Aside0.mk (Kd.R_below (pR (Kd.R_mono (Kd.R_far (p := ⟨gb198, 1, none⟩) (Kd.R_far (p := ⟨gb198, 0, none⟩) (Kd.R_types HO197.out BK198.out (by decide)) (fun _ hk => hk.2) (.slice Ao12 t192.length co12)) (fun _ hk => hk.2) (.slice Ao15 t195.length co15)) (fun _ h_ => h_.1))) hb); have n4_ := Aside0.mk (blk_below (g := gb191) (o := .cells #[.slice Ao7 t185.length co7, .slice Ao9 t188.length co9] 26 (0, 0)) (by (with_reducible repeat (first | refine blk_drewN ?_ _ | refine blk_drew ?_ | refine blk_alloc ?_ _)); refine blk_far ?_ NB191_198.out _; (with_reducible repeat (first | refine blk_drewN ?_ _ | refine blk_drew ?_ | refine blk_alloc ?_ _)); refine blk_far ?_ NB191_198.out _; (with_reducible repeat (first | refine blk_drewN ?_ _ | refine blk_drew ?_ | refine blk_alloc ?_ _)); exact BK191.out) hb); have n5_ := Aside0.mk (blk_below (g := gb198) (o := .cells #[.slice Ao12 t192.length co12, .slice Ao15 t195.length co15] 26 (0, 0)) (by (with_reducible repeat (first | refine blk_drewN ?_ _ | refine blk_drew ?_ | refine blk_alloc ?_ _)); refine blk_put (cs := #[.slice Ao12 t192.length co12, .slice none 0 0]) ?_ 1 _ rfl; (with_reducible repeat (first | refine blk_drewN ?_ _ | refine blk_drew ?_ | refine blk_alloc ?_ _)); refine blk_put (cs := #[.slice none 0 0, .slice none 0 0]) ?_ 0 _ rfl; (with_reducible repeat (first | refine blk_drewN ?_ _ | refine blk_drew ?_ | refine blk_alloc ?_ _)); exact BK198.out) hb); have n6_ := Aside0.mk (below_step (by repeat (first | (with_reducible first | exact HB.out | apply below_alloc | apply pw_below_drewN | apply below_drew1 | refine below_set ?_ GE191.out | refine below_set ?_ GE198.out) | exact HB.out)) hb); clear HO187; clear HO190; clear HO194; clear HO197; clear BK191; clear BK198; clear HB; have HO187 := n0_; have HO190 := n1_; have HO194 := n2_; have HO197 := n3_; have BK191 := n4_; have BK198 := n5_; have HB := n6_; clear n0_ n1_ n2_ n3_ n4_ n5_ n6_; (try clear hb); (try clear hb2); (try clear hk); (try clear hi)))
 (try simp only [Act.put, List.setIfInBounds_toArray, List.set_cons_zero, List.set_cons_succ])
 go_cut [] (fun wc => ∃ (kq : Nat), Aside0 (laws_FnExactWalNew.j0 kq t185 t188 t192 t195 = some r) ∧ Aside0 (kq ≤ k) ∧ Aside0 (Kd.R Kd.string 9 wc w.heap.size (fun k_ => some k_ ≠ ((.slice Ao12 t192.length co12) : Value).ownBlock) (.slice Ao7 t185.length co7) t185) ∧ Aside0 (Kd.R k54 54 wc w.heap.size (fun k_ => some k_ ≠ ((.slice Ao15 t195.length co15) : Value).ownBlock) (.slice Ao9 t188.length co9) t188) ∧ Aside0 (Kd.R Kd.string 9 wc w.heap.size (fun k_ => some k_ ≠ ((.slice Ao7 t185.length co7) : Value).ownBlock) (.slice Ao12 t192.length co12) t192) ∧ Aside0 (Kd.R k54 54 wc w.heap.size (fun k_ => some k_ ≠ ((.slice Ao9 t188.length co9) : Value).ownBlock) (.slice Ao15 t195.length co15) t195) ∧ Aside0 (wc.heap[gb191]? = some (.cells #[(.slice Ao7 t185.length co7), (.slice Ao9 t188.length co9)] 26 (0, 0))) ∧ Aside0 (wc.heap[gb198]? = some (.cells #[(.slice Ao12 t192.length co12), (.slice Ao15 t195.length co15)] 26 (0, 0))) ∧ Aside0 (Below w.heap.size w wc))
 case first =>
  have H := HC4.out
  clear HC4
  by_cases c18 : t199 = true
  ·subst c18
   have H1 : (laws_FnExactWalNew.j0 k t185 t188 t192 t195) = some r := by rw [if_pos rfl] at H; exact H
   clear H
   have H := H1
   clear H1
   have H' := Aside0.mk H
   clear H
   go_wp2
   go_meet
   case rel => exact ⟨_, H', ⟨by first | omega | exact Nat.le_refl _⟩, ⟨pR (Kd.R_mono HO187.out (fun _ hk => hk.2))⟩, ⟨pR (Kd.R_mono HO190.out (fun _ hk => hk.2))⟩, ⟨pR (Kd.R_mono HO194.out (fun _ hk => hk.2))⟩, ⟨pR (Kd.R_mono HO197.out (fun _ hk => hk.2))⟩, ⟨pK BK191.out⟩, ⟨pK BK198.out⟩, ⟨by repeat (first | (with_reducible first | exact HB.out | apply below_alloc | apply pw_below_drewN | apply below_drew1 | refine below_set ?_ GE191.out | refine below_set ?_ GE198.out) | exact HB.out)⟩⟩
  ·replace c18 := Bool.eq_false_iff.mpr c18
   subst c18
   have H1 : (some false) = some r := by rw [if_neg (show ¬ (false = true) by decide)] at H; exact H
   clear H
   have H := H1
   clear H1
   obtain rfl := Option.some.inj H
   go_wp2
   go_ret
   exact ⟨by first | rfl | (simp [errW_none, errW_some] <;> rfl) | (simp [*, errW_none, errW_some] <;> rfl), by repeat (first | (with_reducible first | exact HB.out | apply below_alloc | apply pw_below_drewN | apply below_drew1 | refine below_set ?_ GE191.out | refine below_set ?_ GE198.out) | exact HB.out)⟩
 case rest =>
  clear HC4
  try clear c1
  try clear c2
  try clear p2
  try clear c5
  try clear c13
  try clear c17
  try clear c18
  try clear hcz14_0
  try clear hcz14_1
  try clear hcz16_0
  try clear hcz16_1
  try clear hcz8_0
  try clear hcz8_1
  try clear hfz14_0
  try clear hfz14_1
  try clear hfz16_0
  try clear hfz16_1
  try clear hfz8_0
  try clear hfz8_1
  obtain ⟨kq, HA, HJ3, HO_192000, HO_192001, HO_199000, HO_199001, BK191, BK198, HB⟩ := hcut
  cases kq with
  | zero => exact absurd HA.out (by simp [laws_FnExactWalNew.j0])
  | succ kj3 =>
   have H := HA.out
   clear HA
   simp only [laws_FnExactWalNew.j0] at H
   replace H := Option.bind_eq_some_iff.mp H
   obtain ⟨⟨t200, t201, t202⟩, A190, H⟩ := H
   replace H : ((laws_heldSecDisk.f kj3 t201 t202 1).bind fun t203 => (if t203 < 0 then (some false) else (laws_FnExactWalNew.j1 kj3 t200 t203 t185 t188 t201 t202))) = some r := H
   have A19 := Aside0.mk A190
   clear A190
   replace H := Option.bind_eq_some_iff.mp H
   obtain ⟨t203, A200, H⟩ := H
   replace H : (if t203 < 0 then (some false) else (laws_FnExactWalNew.j1 kj3 t200 t203 t185 t188 t201 t202)) = some r := H
   have A20 := Aside0.mk A200
   clear A200
   have HC21 := Aside0.mk H
   clear H
   have hnb22 := NB198_191.out
   have hnc22 := NB191_198.out
   have hcz23_0 : wc.cell? ⟨gb198, 0, none⟩ = some (.slice Ao12 t192.length co12) := (blk_cell BK198.out 0).trans rfl
   have hcz23_1 : wc.cell? ⟨gb198, 1, none⟩ = some (.slice Ao15 t195.length co15) := (blk_cell BK198.out 1).trans rfl
   have hfz23_0 := blk_frozen BK198.out 0
   have hfz23_1 := blk_frozen BK198.out 1
   go_upto_if 19 with (first | ((with_reducible refine gate_callee (f := 18) rfl ?_); refine goesL_ (some 14) rfl rfl Try.func18 (by kernel_rfl) rfl #[.agg #[.slice Ao12 t192.length co12, .slice Ao15 t195.length co15], .int .i64 1] rfl bM ?_; (with_reducible refine (laws_markSecDisk.calls kj3 (fun k_ => some k_ = (.slice Ao12 t192.length co12 : Value).ownBlock) (.slice Ao12 t192.length co12) t192 (fun k_ => some k_ = (.slice Ao15 t195.length co15 : Value).ownBlock) (.slice Ao15 t195.length co15) t195 1 t200 t201 t202 w _ ?side1 ?side2 ?side3 A19.out).mono ?_); (case side1 => repeat (first | (with_reducible first | exact HB.out | apply below_alloc | apply pw_below_drewN | apply below_drew1 | refine below_set ?_ GE191.out | refine below_set ?_ GE198.out) | exact HB.out)); (case side2 => exact Kd.R_tight rfl HO_199000.out); (case side3 => exact Kd.R_tight rfl HO_199001.out); rintro e w24 ⟨rfl, hy0, hy1, hb, hkp⟩; refine ⟨_, rfl, ?_⟩; have n0_ := Aside0.mk (Kd.R_mono (ok' := fun k_ => some k_ ≠ (.slice Ao12 t192.length co12 : Value).ownBlock) (Kd.R_keptB ((Kd.R_apart' HO_192000.out (Kd.R_typed HO_199001.out) (by decide))) hkp (fun k_ hk_ hs_ => Or.elim hs_ (fun e_ => (hk_.1) e_) (fun e_ => (hk_.2) e_))) (fun k_ hk_ => hk_.1.1)); have n1_ := Aside0.mk (Kd.R_mono (ok' := fun k_ => some k_ ≠ (.slice Ao15 t195.length co15 : Value).ownBlock) (Kd.R_keptB ((Kd.R_apart' HO_192001.out (Kd.R_typed HO_199000.out) (by decide))) hkp (fun k_ hk_ hs_ => Or.elim hs_ (fun e_ => (hk_.2) e_) (fun e_ => (hk_.1) e_))) (fun k_ hk_ => hk_.1.1)); have n2_ := Aside0.mk (Kd.R_reok rfl hy0 (fun k_ e_ => HO_199000.out.1 k_ e_)); have n3_ := Aside0.mk (Kd.R_reok rfl hy1 (fun k_ e_ => HO_199001.out.1 k_ e_)); have n4_ := Aside0.mk (blk_kept (pK BK191.out) hkp (fun hs_ => Or.elim hs_ (fun e_ => (fun e_ => (Kd.R_ne HO_199000.out BK191.out (by decide)) e_) e_) (fun e_ => (fun e_ => (Kd.R_ne HO_199001.out BK191.out (by decide)) e_) e_))); have n5_ := Aside0.mk (blk_kept (pK BK198.out) hkp (fun hs_ => Or.elim hs_ (fun e_ => (fun e_ => (Kd.R_ne HO_199000.out BK198.out (by decide)) e_) e_) (fun e_ => (fun e_ => (Kd.R_ne HO_199001.out BK198.out (by decide)) e_) e_))); have n6_ := Aside0.mk (hb); clear HO_192000; clear HO_192001; clear HO_199000; clear HO_199001; clear BK191; clear BK198; clear HB; have HO_192000 := n0_; have HO_192001 := n1_; have HO_199000 := n2_; have HO_199001 := n3_; have BK191 := n4_; have BK198 := n5_; have HB := n6_; clear n0_ n1_ n2_ n3_ n4_ n5_ n6_; (try clear hb); (try clear hkp); (try clear hy0); (try clear hy1); have hcz25_0 : w24.cell? ⟨gb198, 0, none⟩ = some (.slice Ao12 t192.length co12) := (blk_cell BK198.out 0).trans rfl; have hcz25_1 : w24.cell? ⟨gb198, 1, none⟩ = some (.slice Ao15 t195.length co15) := (blk_cell BK198.out 1).trans rfl; have hfz25_0 := blk_frozen BK198.out 0; have hfz25_1 := blk_frozen BK198.out 1) | ((with_reducible refine gate_callee (f := 19) rfl ?_); refine goesL_ (some 17) rfl rfl Try.func19 (by kernel_rfl) rfl #[.agg #[.slice Ao12 t201.length co12, .slice Ao15 t202.length co15], .int .i64 1] rfl (by (try simp only [List.map_toArray, List.map_cons, List.map_nil]); first | done | (rw [show t201.length = t192.length from (Kd.R_reads' HO_199000.out).1.symm, show t202.length = t195.length from (Kd.R_reads' HO_199001.out).1.symm] <;> rfl) | rfl | (simp only [List.length_drop, List.length_take]; rfl)) ?_; (with_reducible refine (laws_heldSecDisk.calls kj3 _ _ t201 _ _ t202 1 t203 _ ?side1 ?side2 ?side3 ?side4 A20.out).mono ?_); (case side1 => exact pC (Kd.R_reads' HO_199000.out).2.2); (case side2 => rw [show t201.length = t192.length from (Kd.R_reads' HO_199000.out).1.symm]; exact (Kd.R_reads' HO_199000.out).2.1); (case side3 => exact pC (Kd.R_reads' HO_199001.out).2.2); (case side4 => rw [show t202.length = t195.length from (Kd.R_reads' HO_199001.out).1.symm]; exact (Kd.R_reads' HO_199001.out).2.1); rintro e w26 ⟨rfl, hb⟩; refine ⟨_, rfl, ?_⟩; have n0_ := Aside0.mk (Kd.R_below (pR HO_192000.out) hb); have n1_ := Aside0.mk (Kd.R_below (pR HO_192001.out) hb); have n2_ := Aside0.mk (Kd.R_below (pR HO_199000.out) hb); have n3_ := Aside0.mk (Kd.R_below (pR HO_199001.out) hb); have n4_ := Aside0.mk (blk_below (g := gb191) (o := .cells #[.slice Ao7 t185.length co7, .slice Ao9 t188.length co9] 26 (0, 0)) (pK BK191.out) hb); have n5_ := Aside0.mk (blk_below (g := gb198) (o := .cells #[.slice Ao12 t192.length co12, .slice Ao15 t195.length co15] 26 (0, 0)) (pK BK198.out) hb); have n6_ := Aside0.mk (below_step (by repeat (first | (with_reducible first | exact HB.out | apply below_alloc | apply pw_below_drewN | apply below_drew1 | refine below_set ?_ GE191.out | refine below_set ?_ GE198.out) | exact HB.out)) hb); clear HO_192000; clear HO_192001; clear HO_199000; clear HO_199001; clear BK191; clear BK198; clear HB; have HO_192000 := n0_; have HO_192001 := n1_; have HO_199000 := n2_; have HO_199001 := n3_; have BK191 := n4_; have BK198 := n5_; have HB := n6_; clear n0_ n1_ n2_ n3_ n4_ n5_ n6_; (try clear hb); (try clear hb2); (try clear hk); (try clear hi)))
   (try simp only [Act.put, List.setIfInBounds_toArray, List.set_cons_zero, List.set_cons_succ])
   go_cut [] (fun wc => ∃ (kq : Nat), Aside0 (laws_FnExactWalNew.j1 kq t200 t203 t185 t188 t201 t202 = some r) ∧ Aside0 (kq ≤ kj3) ∧ Aside0 (Kd.R Kd.string 9 wc w.heap.size (fun k_ => some k_ ≠ ((.slice Ao12 t192.length co12) : Value).ownBlock) (.slice Ao7 t185.length co7) t185) ∧ Aside0 (Kd.R k54 54 wc w.heap.size (fun k_ => some k_ ≠ ((.slice Ao15 t195.length co15) : Value).ownBlock) (.slice Ao9 t188.length co9) t188) ∧ Aside0 (Kd.R Kd.string 9 wc w.heap.size (fun k_ => some k_ ≠ ((.slice Ao7 t185.length co7) : Value).ownBlock) (.slice Ao12 t192.length co12) t201) ∧ Aside0 (Kd.R k54 54 wc w.heap.size (fun k_ => some k_ ≠ ((.slice Ao9 t188.length co9) : Value).ownBlock) (.slice Ao15 t195.length co15) t202) ∧ Aside0 (wc.heap[gb191]? = some (.cells #[(.slice Ao7 t185.length co7), (.slice Ao9 t188.length co9)] 26 (0, 0))) ∧ Aside0 (wc.heap[gb198]? = some (.cells #[(.slice Ao12 t192.length co12), (.slice Ao15 t195.length co15)] 26 (0, 0))) ∧ Aside0 (Below w.heap.size w wc))
   case first =>
    have H := HC21.out
    clear HC21
    by_cases c27 : t203 < 0
    ·rw [if_pos c27] at H
     have c27b0 : decide (t203 < 0) = true := decide_eq_true c27
     clear c27
     (first | rw [c27b0] | (simp only [i64_w, i32_w]; rw [c27b0]) | skip)
     obtain rfl := Option.some.inj H
     go_wp2
     go_ret
     exact ⟨by first | rfl | (simp [errW_none, errW_some] <;> rfl) | (simp [*, errW_none, errW_some] <;> rfl), by repeat (first | (with_reducible first | exact HB.out | apply below_alloc | apply pw_below_drewN | apply below_drew1 | refine below_set ?_ GE191.out | refine below_set ?_ GE198.out) | exact HB.out)⟩
    ·rw [if_neg c27] at H
     have c27b0 : decide (t203 < 0) = false := decide_eq_false c27
     clear c27
     (first | rw [c27b0] | (simp only [i64_w, i32_w]; rw [c27b0]) | skip)
     have H' := Aside0.mk H
     clear H
     go_wp2
     go_meet
     case rel => exact ⟨_, H', ⟨by have := HJ3.out; first | omega | exact Nat.le_refl _⟩, ⟨pR HO_192000.out⟩, ⟨pR HO_192001.out⟩, ⟨pR HO_199000.out⟩, ⟨pR HO_199001.out⟩, ⟨pK BK191.out⟩, ⟨pK BK198.out⟩, ⟨by repeat (first | (with_reducible first | exact HB.out | apply below_alloc | apply pw_below_drewN | apply below_drew1 | refine below_set ?_ GE191.out | refine below_set ?_ GE198.out) | exact HB.out)⟩⟩
   case rest =>
    clear HC21
    try clear c1
    try clear c2
    try clear p2
    try clear c5
    try clear c13
    try clear c17
    try clear c18
    try clear c19
    try clear c20
    try clear c21
    try clear c22
    try clear c27
    try clear c27b0
    try clear hcz14_0
    try clear hcz14_1
    try clear hcz16_0
    try clear hcz16_1
    try clear hcz23_0
    try clear hcz23_1
    try clear hcz25_0
    try clear hcz25_1
    try clear hcz8_0
    try clear hcz8_1
    try clear hfz14_0
    try clear hfz14_1
    try clear hfz16_0
    try clear hfz16_1
    try clear hfz23_0
    try clear hfz23_1
    try clear hfz25_0
    try clear hfz25_1
    try clear hfz8_0
    try clear hfz8_1
    try clear p2
    obtain ⟨kq, HA, HJ20, HO_192000, HO_192001, HO_199000, HO_199001, BK191, BK198, HB⟩ := hcut
    have hl199000_20 := (Kd.R_reads' HO_199000.out).1
    rw [hl199000_20] at HO_199000
    (try simp only [hl199000_20])
    (try simp only [hl199000_20] at BK191)
    (try simp only [hl199000_20] at BK198)
    (try simp only [hl199000_20] at HO_192000)
    (try simp only [hl199000_20] at HO_192001)
    (try simp only [hl199000_20] at HO_199001)
    have hl199001_20 := (Kd.R_reads' HO_199001.out).1
    rw [hl199001_20] at HO_199001
    (try simp only [hl199001_20])
    (try simp only [hl199001_20] at BK191)
    (try simp only [hl199001_20] at BK198)
    (try simp only [hl199001_20] at HO_192000)
    (try simp only [hl199001_20] at HO_192001)
    (try simp only [hl199001_20] at HO_199000)
    cases kq with
    | zero => exact absurd HA.out (by simp [laws_FnExactWalNew.j1])
    | succ kj20 =>
     have H := HA.out
     clear HA
     simp only [laws_FnExactWalNew.j1] at H
     have HC28 := Aside0.mk H
     clear H
     go_upto_if 22 with (fail)
     go_cut [] (fun wc => ∃ (kq : Nat), Aside0 (laws_FnExactWalNew.j2 kq t200 t185 t188 t201 t202 = some r) ∧ Aside0 (kq ≤ kj20) ∧ Aside0 (Kd.R Kd.string 9 wc w.heap.size (fun k_ => some k_ ≠ ((.slice Ao12 t201.length co12) : Value).ownBlock) (.slice Ao7 t185.length co7) t185) ∧ Aside0 (Kd.R k54 54 wc w.heap.size (fun k_ => some k_ ≠ ((.slice Ao15 t202.length co15) : Value).ownBlock) (.slice Ao9 t188.length co9) t188) ∧ Aside0 (Kd.R Kd.string 9 wc w.heap.size (fun k_ => some k_ ≠ ((.slice Ao7 t185.length co7) : Value).ownBlock) (.slice Ao12 t201.length co12) t201) ∧ Aside0 (Kd.R k54 54 wc w.heap.size (fun k_ => some k_ ≠ ((.slice Ao9 t188.length co9) : Value).ownBlock) (.slice Ao15 t202.length co15) t202) ∧ Aside0 (wc.heap[gb191]? = some (.cells #[(.slice Ao7 t185.length co7), (.slice Ao9 t188.length co9)] 26 (0, 0))) ∧ Aside0 (wc.heap[gb198]? = some (.cells #[(.slice Ao12 t201.length co12), (.slice Ao15 t202.length co15)] 26 (0, 0))) ∧ Aside0 (Below w.heap.size w wc))
     case first =>
      have H := HC28.out
      clear HC28
      by_cases c29 : t203 = t200
      ·rw [if_pos c29] at H
       have c29b0 : (t203 == t200) = true := beq_iff_eq.mpr c29
       have c29b1 : (t203 != t200) = false := bne_eq_false_iff_eq.mpr c29
       clear c29
       (first | rw [c29b0] | (simp only [i64_w, i32_w]; rw [c29b0]) | skip)
       have H' := Aside0.mk H
       clear H
       go_wp2
       go_meet
       case rel => exact ⟨_, H', ⟨by have := HJ3.out; have := HJ20.out; first | omega | exact Nat.le_refl _⟩, ⟨by (try simp only [hl199000_20]); (try simp only [hl199001_20]); (with_reducible repeat (first | apply Kd.R_alloc | apply Kd.R_drewN | apply Kd.R_drew)); exact HO_192000.out⟩, ⟨by (try simp only [hl199000_20]); (try simp only [hl199001_20]); (with_reducible repeat (first | apply Kd.R_alloc | apply Kd.R_drewN | apply Kd.R_drew)); exact HO_192001.out⟩, ⟨by (try simp only [hl199000_20]); (try simp only [hl199001_20]); (with_reducible repeat (first | apply Kd.R_alloc | apply Kd.R_drewN | apply Kd.R_drew)); exact HO_199000.out⟩, ⟨by (try simp only [hl199000_20]); (try simp only [hl199001_20]); (with_reducible repeat (first | apply Kd.R_alloc | apply Kd.R_drewN | apply Kd.R_drew)); exact HO_199001.out⟩, ⟨by (try simp only [hl199000_20]); (try simp only [hl199001_20]); (with_reducible repeat (first | refine blk_drewN ?_ _ | refine blk_drew ?_ | refine blk_alloc ?_ _)); exact BK191.out⟩, ⟨by (try simp only [hl199000_20]); (try simp only [hl199001_20]); (with_reducible repeat (first | refine blk_drewN ?_ _ | refine blk_drew ?_ | refine blk_alloc ?_ _)); exact BK198.out⟩, ⟨by repeat (first | (with_reducible first | exact HB.out | apply below_alloc | apply pw_below_drewN | apply below_drew1 | refine below_set ?_ GE191.out | refine below_set ?_ GE198.out) | exact HB.out)⟩⟩
      ·rw [if_neg c29] at H
       have c29b0 : (t203 == t200) = false := beq_eq_false_iff_ne.mpr c29
       have c29b1 : (t203 != t200) = true := bne_iff_ne.mpr c29
       (first | rw [c29b0] | (simp only [i64_w, i32_w]; rw [c29b0]) | skip)
       obtain rfl := Option.some.inj H
       go_wp2
       go_ret
       exact ⟨by first | rfl | (simp [errW_none, errW_some] <;> rfl) | (simp [*, errW_none, errW_some] <;> rfl), by repeat (first | (with_reducible first | exact HB.out | apply below_alloc | apply pw_below_drewN | apply below_drew1 | refine below_set ?_ GE191.out | refine below_set ?_ GE198.out) | exact HB.out)⟩
     case rest =>
      clear HC28
      try clear c1
      try clear c2
      try clear p2
      try clear c5
      try clear c13
      try clear c17
      try clear c18
      try clear c19
      try clear c20
      try clear c21
      try clear c22
      try clear c27
      try clear c27b0
      try clear c29
      try clear c29b0
      try clear c29b1
      try clear hcz14_0
      try clear hcz14_1
      try clear hcz16_0
      try clear hcz16_1
      try clear hcz23_0
      try clear hcz23_1
      try clear hcz25_0
      try clear hcz25_1
      try clear hcz8_0
      try clear hcz8_1
      try clear hfz14_0
      try clear hfz14_1
      try clear hfz16_0
      try clear hfz16_1
      try clear hfz23_0
      try clear hfz23_1
      try clear hfz25_0
      try clear hfz25_1
      try clear hfz8_0
      try clear hfz8_1
      try clear p2
      obtain ⟨kq, HA, HJ27, HO_192000, HO_192001, HO_199000, HO_199001, BK191, BK198, HB⟩ := hcut
      cases kq with
      | zero => exact absurd HA.out (by simp [laws_FnExactWalNew.j2])
      | succ kj27 =>
       have H := HA.out
       clear HA
       simp only [laws_FnExactWalNew.j2] at H
       replace H := Option.bind_eq_some_iff.mp H
       obtain ⟨⟨t204, t207⟩, A300, H⟩ := H
       replace H : ((laws_eqSecDisk.f kj27 t204 t207 t185 t188).bind fun t211 => (if t211 = true then (laws_FnExactWalNew.j3 kj27 t200 t201 t202) else (some false))) = some r := H
       have A30 := Aside0.mk A300
       clear A300
       replace H := Option.bind_eq_some_iff.mp H
       obtain ⟨t211, A310, H⟩ := H
       replace H : (if t211 = true then (laws_FnExactWalNew.j3 kj27 t200 t201 t202) else (some false)) = some r := H
       have A31 := Aside0.mk A310
       clear A310
       have HC32 := Aside0.mk H
       clear H
       go_upto_if 27 with (first | ((with_reducible refine gate_callee (f := 21) rfl ?_); refine goesL_ (some 23) rfl rfl Try.func21 (by kernel_rfl) rfl #[] rfl bM ?_; (with_reducible refine (impl_WalNew.calls  t204 t207 _ A30.out).mono ?_); rintro e w33 ⟨v205, v208, rfl, ho0, ho1, hb⟩; refine ⟨_, rfl, ?_⟩; have n0_ := Aside0.mk (Kd.R_elder' (pR HO_192000.out) (Kd.R_base ho0) hb); have n1_ := Aside0.mk (Kd.R_elder' (pR HO_192001.out) (Kd.R_base ho1) hb); have n2_ := Aside0.mk (Kd.R_elder' (pR HO_199000.out) (Kd.R_base ho0) hb); have n3_ := Aside0.mk (Kd.R_elder' (pR HO_199001.out) (Kd.R_base ho1) hb); have n4_ := Aside0.mk (Kd.R_lower (Kd.R_new' (Kd.R_new' ho0 (Kd.R_lt (pR HO_192000.out))) (Kd.R_lt (pR HO_199000.out))) (below_size (by repeat (first | (with_reducible first | exact HB.out | apply below_alloc | apply pw_below_drewN | apply below_drew1 | refine below_set ?_ GE191.out | refine below_set ?_ GE198.out) | exact HB.out)))); have n5_ := Aside0.mk (Kd.R_lower (Kd.R_new' (Kd.R_new' ho1 (Kd.R_lt (pR HO_192001.out))) (Kd.R_lt (pR HO_199001.out))) (below_size (by repeat (first | (with_reducible first | exact HB.out | apply below_alloc | apply pw_below_drewN | apply below_drew1 | refine below_set ?_ GE191.out | refine below_set ?_ GE198.out) | exact HB.out)))); have n6_ := Aside0.mk (blk_below (g := gb191) (o := .cells #[.slice Ao7 t185.length co7, .slice Ao9 t188.length co9] 26 (0, 0)) (pK BK191.out) hb); have n7_ := Aside0.mk (blk_below (g := gb198) (o := .cells #[.slice Ao12 t201.length co12, .slice Ao15 t202.length co15] 26 (0, 0)) (pK BK198.out) hb); have n8_ := Aside0.mk (below_step (by repeat (first | (with_reducible first | exact HB.out | apply below_alloc | apply pw_below_drewN | apply below_drew1 | refine below_set ?_ GE191.out | refine below_set ?_ GE198.out) | exact HB.out)) hb); clear HO_192000; clear HO_192001; clear HO_199000; clear HO_199001; clear BK191; clear BK198; clear HB; have HO_192000 := n0_; have HO_192001 := n1_; have HO_199000 := n2_; have HO_199001 := n3_; have HO206 := n4_; have HO209 := n5_; have BK191 := n6_; have BK198 := n7_; have HB := n8_; clear n0_ n1_ n2_ n3_ n4_ n5_ n6_ n7_ n8_; (try clear hb); (try clear hb2); (try clear hk); (try clear hi); (try clear ho0); (try clear ho1)) | ((with_reducible refine gate_dst (N := 5) rfl ?_); refine box_event ?hg (N := 5) ?hd (cs := #[.slice none 0 0, .slice none 0 0]) (t := 26) ?hr ?_; (case hd => rfl); (case hg => rfl); (case hr => first | (go_simp; done) | (go_simp; rfl)); intro gb210 hg w34 hbox hb; have n0_ := Aside0.mk (Kd.R_below (pR HO_192000.out) hb); have n1_ := Aside0.mk (Kd.R_below (pR HO_192001.out) hb); have n2_ := Aside0.mk (Kd.R_below (pR HO_199000.out) hb); have n3_ := Aside0.mk (Kd.R_below (pR HO_199001.out) hb); have n4_ := Aside0.mk (Kd.R_below (pR HO206.out) hb); have n5_ := Aside0.mk (Kd.R_below (pR HO209.out) hb); have n6_ := Aside0.mk (blk_below (g := gb191) (o := .cells #[.slice Ao7 t185.length co7, .slice Ao9 t188.length co9] 26 (0, 0)) (pK BK191.out) hb); have n7_ := Aside0.mk (blk_below (g := gb198) (o := .cells #[.slice Ao12 t201.length co12, .slice Ao15 t202.length co15] 26 (0, 0)) (pK BK198.out) hb); have n8_ := Aside0.mk (below_step (by repeat (first | (with_reducible first | exact HB.out | apply below_alloc | apply pw_below_drewN | apply below_drew1 | refine below_set ?_ GE191.out | refine below_set ?_ GE198.out) | exact HB.out)) hb); have n9_ := Aside0.mk (hbox); have n10_ := Aside0.mk ((by rw [hg]; exact (below_size (by repeat (first | (with_reducible first | exact HB.out | apply below_alloc | apply pw_below_drewN | apply below_drew1 | refine below_set ?_ GE191.out | refine below_set ?_ GE198.out) | exact HB.out))) : w.heap.size ≤ gb210)); have n11_ := Aside0.mk ((by rw [hg]; exact (below_size (by repeat (first | (with_reducible first | exact HB.out | apply below_alloc | apply pw_below_drewN | apply below_drew1 | refine below_set ?_ GE191.out | refine below_set ?_ GE198.out) | exact HB.out))) : w.heap.size ≤ gb210)); have n12_ := Aside0.mk ((by rw [hg]; exact Nat.ne_of_lt (blk_lt (g := gb191) (o := .cells #[.slice Ao7 t185.length co7, .slice Ao9 t188.length co9] 26 (0, 0)) (pK BK191.out)) : gb191 ≠ gb210)); have n13_ := Aside0.mk ((by rw [hg]; exact Nat.ne_of_gt (blk_lt (g := gb191) (o := .cells #[.slice Ao7 t185.length co7, .slice Ao9 t188.length co9] 26 (0, 0)) (pK BK191.out)) : gb210 ≠ gb191)); have n14_ := Aside0.mk ((by rw [hg]; exact Nat.ne_of_lt (blk_lt (g := gb198) (o := .cells #[.slice Ao12 t201.length co12, .slice Ao15 t202.length co15] 26 (0, 0)) (pK BK198.out)) : gb198 ≠ gb210)); have n15_ := Aside0.mk ((by rw [hg]; exact Nat.ne_of_gt (blk_lt (g := gb198) (o := .cells #[.slice Ao12 t201.length co12, .slice Ao15 t202.length co15] 26 (0, 0)) (pK BK198.out)) : gb210 ≠ gb198)); clear HO_192000; clear HO_192001; clear HO_199000; clear HO_199001; clear HO206; clear HO209; clear BK191; clear BK198; clear HB; have HO_192000 := n0_; have HO_192001 := n1_; have HO_199000 := n2_; have HO_199001 := n3_; have HO206 := n4_; have HO209 := n5_; have BK191 := n6_; have BK198 := n7_; have HB := n8_; have BK210 := n9_; have GW210 := n10_; have GE210 := n11_; have NB191_210 := n12_; have NB210_191 := n13_; have NB198_210 := n14_; have NB210_198 := n15_; clear n0_ n1_ n2_ n3_ n4_ n5_ n6_ n7_ n8_ n9_ n10_ n11_ n12_ n13_ n14_ n15_; clear hb hbox hg; obtain ⟨Ao35, co35, eo35⟩ := Kd.R_slice HO206.out; subst eo35; have hnb36 := NB210_191.out; have hnc36 := NB191_210.out; have hnb37 := NB210_198.out; have hnc37 := NB198_210.out; have hcz38_0 : w34.cell? ⟨gb210, 0, none⟩ = some (.slice none 0 0) := (blk_cell BK210.out 0).trans rfl; have hcz38_1 : w34.cell? ⟨gb210, 1, none⟩ = some (.slice none 0 0) := (blk_cell BK210.out 1).trans rfl; have hfz38_0 := blk_frozen BK210.out 0; have hfz38_1 := blk_frozen BK210.out 1; obtain ⟨Ao39, co39, eo39⟩ := Kd.R_slice HO209.out; subst eo39; have hnb40 := NB191_198.out; have hnc40 := NB198_191.out; have hcz41_0 : w34.cell? ⟨gb191, 0, none⟩ = some (.slice Ao7 t185.length co7) := (blk_cell BK191.out 0).trans rfl; have hcz41_1 : w34.cell? ⟨gb191, 1, none⟩ = some (.slice Ao9 t188.length co9) := (blk_cell BK191.out 1).trans rfl; have hfz41_0 := blk_frozen BK191.out 0; have hfz41_1 := blk_frozen BK191.out 1) | ((with_reducible refine gate_callee (f := 17) rfl ?_); refine goesL_ (some 26) rfl rfl Try.func17 (by kernel_rfl) rfl #[.agg #[.slice Ao35 t204.length co35, .slice Ao39 t207.length co39], .agg #[.slice Ao7 t185.length co7, .slice Ao9 t188.length co9]] rfl bM ?_; (with_reducible refine (laws_eqSecDisk.calls kj27 _ _ t204 _ _ t207 _ _ t185 _ _ t188 t211 _ ?side1 ?side2 ?side3 ?side4 ?side5 ?side6 ?side7 ?side8 A31.out).mono ?_); (case side1 => refine (Kd.R_reads' (e := 9) (base := w.heap.size) (ok := fun k_ => ((True ∧ some k_ ≠ (.slice Ao7 t185.length co7 : Value).ownBlock) ∧ some k_ ≠ (.slice Ao12 t201.length co12 : Value).ownBlock)) (n := t204.length) (c := co35) ?_).2.2; exact (pR (Kd.R_mono (Kd.R_far (p := ⟨gb210, 1, none⟩) (Kd.R_far (p := ⟨gb210, 0, none⟩) (Kd.R_types HO206.out BK210.out (by decide)) (fun _ hk => hk.2) (.slice Ao35 t204.length co35)) (fun _ hk => hk.2) (.slice Ao39 t207.length co39)) (fun _ h_ => h_.1)))); (case side2 => exact (Kd.R_reads' HO206.out).2.1); (case side3 => refine (Kd.R_reads' (e := 54) (base := w.heap.size) (ok := fun k_ => ((True ∧ some k_ ≠ (.slice Ao9 t188.length co9 : Value).ownBlock) ∧ some k_ ≠ (.slice Ao15 t202.length co15 : Value).ownBlock)) (n := t207.length) (c := co39) ?_).2.2; exact (pR (Kd.R_mono (Kd.R_far (p := ⟨gb210, 1, none⟩) (Kd.R_far (p := ⟨gb210, 0, none⟩) (Kd.R_types HO209.out BK210.out (by decide)) (fun _ hk => hk.2) (.slice Ao35 t204.length co35)) (fun _ hk => hk.2) (.slice Ao39 t207.length co39)) (fun _ h_ => h_.1)))); (case side4 => exact (Kd.R_reads' HO209.out).2.1); (case side5 => refine (Kd.R_reads' (e := 9) (base := w.heap.size) (ok := fun k_ => (some k_ ≠ (.slice Ao12 t201.length co12 : Value).ownBlock ∧ some k_ ≠ (.slice Ao35 t204.length co35 : Value).ownBlock)) (n := t185.length) (c := co7) ?_).2.2; exact (pR (Kd.R_mono (Kd.R_far (p := ⟨gb210, 1, none⟩) (Kd.R_far (p := ⟨gb210, 0, none⟩) (Kd.R_types HO_192000.out BK210.out (by decide)) (fun _ hk => hk.2) (.slice Ao35 t204.length co35)) (fun _ hk => hk.2) (.slice Ao39 t207.length co39)) (fun _ h_ => h_.1)))); (case side6 => exact (Kd.R_reads' HO_192000.out).2.1); (case side7 => refine (Kd.R_reads' (e := 54) (base := w.heap.size) (ok := fun k_ => (some k_ ≠ (.slice Ao15 t202.length co15 : Value).ownBlock ∧ some k_ ≠ (.slice Ao39 t207.length co39 : Value).ownBlock)) (n := t188.length) (c := co9) ?_).2.2; exact (pR (Kd.R_mono (Kd.R_far (p := ⟨gb210, 1, none⟩) (Kd.R_far (p := ⟨gb210, 0, none⟩) (Kd.R_types HO_192001.out BK210.out (by decide)) (fun _ hk => hk.2) (.slice Ao35 t204.length co35)) (fun _ hk => hk.2) (.slice Ao39 t207.length co39)) (fun _ h_ => h_.1)))); (case side8 => exact (Kd.R_reads' HO_192001.out).2.1); rintro e w42 ⟨rfl, hb⟩; refine ⟨_, rfl, ?_⟩; have n0_ := Aside0.mk (Kd.R_below (pR (Kd.R_mono (Kd.R_far (p := ⟨gb210, 1, none⟩) (Kd.R_far (p := ⟨gb210, 0, none⟩) (Kd.R_types HO_192000.out BK210.out (by decide)) (fun _ hk => hk.2) (.slice Ao35 t204.length co35)) (fun _ hk => hk.2) (.slice Ao39 t207.length co39)) (fun _ h_ => h_.1))) hb); have n1_ := Aside0.mk (Kd.R_below (pR (Kd.R_mono (Kd.R_far (p := ⟨gb210, 1, none⟩) (Kd.R_far (p := ⟨gb210, 0, none⟩) (Kd.R_types HO_192001.out BK210.out (by decide)) (fun _ hk => hk.2) (.slice Ao35 t204.length co35)) (fun _ hk => hk.2) (.slice Ao39 t207.length co39)) (fun _ h_ => h_.1))) hb); have n2_ := Aside0.mk (Kd.R_below (pR (Kd.R_mono (Kd.R_far (p := ⟨gb210, 1, none⟩) (Kd.R_far (p := ⟨gb210, 0, none⟩) (Kd.R_types HO_199000.out BK210.out (by decide)) (fun _ hk => hk.2) (.slice Ao35 t204.length co35)) (fun _ hk => hk.2) (.slice Ao39 t207.length co39)) (fun _ h_ => h_.1))) hb); have n3_ := Aside0.mk (Kd.R_below (pR (Kd.R_mono (Kd.R_far (p := ⟨gb210, 1, none⟩) (Kd.R_far (p := ⟨gb210, 0, none⟩) (Kd.R_types HO_199001.out BK210.out (by decide)) (fun _ hk => hk.2) (.slice Ao35 t204.length co35)) (fun _ hk => hk.2) (.slice Ao39 t207.length co39)) (fun _ h_ => h_.1))) hb); have n4_ := Aside0.mk (Kd.R_below (pR (Kd.R_mono (Kd.R_far (p := ⟨gb210, 1, none⟩) (Kd.R_far (p := ⟨gb210, 0, none⟩) (Kd.R_types HO206.out BK210.out (by decide)) (fun _ hk => hk.2) (.slice Ao35 t204.length co35)) (fun _ hk => hk.2) (.slice Ao39 t207.length co39)) (fun _ h_ => h_.1))) hb); have n5_ := Aside0.mk (Kd.R_below (pR (Kd.R_mono (Kd.R_far (p := ⟨gb210, 1, none⟩) (Kd.R_far (p := ⟨gb210, 0, none⟩) (Kd.R_types HO209.out BK210.out (by decide)) (fun _ hk => hk.2) (.slice Ao35 t204.length co35)) (fun _ hk => hk.2) (.slice Ao39 t207.length co39)) (fun _ h_ => h_.1))) hb); have n6_ := Aside0.mk (blk_below (g := gb191) (o := .cells #[.slice Ao7 t185.length co7, .slice Ao9 t188.length co9] 26 (0, 0)) (by (with_reducible repeat (first | refine blk_drewN ?_ _ | refine blk_drew ?_ | refine blk_alloc ?_ _)); refine blk_far ?_ NB191_210.out _; (with_reducible repeat (first | refine blk_drewN ?_ _ | refine blk_drew ?_ | refine blk_alloc ?_ _)); refine blk_far ?_ NB191_210.out _; (with_reducible repeat (first | refine blk_drewN ?_ _ | refine blk_drew ?_ | refine blk_alloc ?_ _)); exact BK191.out) hb); have n7_ := Aside0.mk (blk_below (g := gb198) (o := .cells #[.slice Ao12 t201.length co12, .slice Ao15 t202.length co15] 26 (0, 0)) (by (with_reducible repeat (first | refine blk_drewN ?_ _ | refine blk_drew ?_ | refine blk_alloc ?_ _)); refine blk_far ?_ NB198_210.out _; (with_reducible repeat (first | refine blk_drewN ?_ _ | refine blk_drew ?_ | refine blk_alloc ?_ _)); refine blk_far ?_ NB198_210.out _; (with_reducible repeat (first | refine blk_drewN ?_ _ | refine blk_drew ?_ | refine blk_alloc ?_ _)); exact BK198.out) hb); have n8_ := Aside0.mk (blk_below (g := gb210) (o := .cells #[.slice Ao35 t204.length co35, .slice Ao39 t207.length co39] 26 (0, 0)) (by (with_reducible repeat (first | refine blk_drewN ?_ _ | refine blk_drew ?_ | refine blk_alloc ?_ _)); refine blk_put (cs := #[.slice Ao35 t204.length co35, .slice none 0 0]) ?_ 1 _ rfl; (with_reducible repeat (first | refine blk_drewN ?_ _ | refine blk_drew ?_ | refine blk_alloc ?_ _)); refine blk_put (cs := #[.slice none 0 0, .slice none 0 0]) ?_ 0 _ rfl; (with_reducible repeat (first | refine blk_drewN ?_ _ | refine blk_drew ?_ | refine blk_alloc ?_ _)); exact BK210.out) hb); have n9_ := Aside0.mk (below_step (by repeat (first | (with_reducible first | exact HB.out | apply below_alloc | apply pw_below_drewN | apply below_drew1 | refine below_set ?_ GE191.out | refine below_set ?_ GE198.out | refine below_set ?_ GE210.out) | exact HB.out)) hb); clear HO_192000; clear HO_192001; clear HO_199000; clear HO_199001; clear HO206; clear HO209; clear BK191; clear BK198; clear BK210; clear HB; have HO_192000 := n0_; have HO_192001 := n1_; have HO_199000 := n2_; have HO_199001 := n3_; have HO206 := n4_; have HO209 := n5_; have BK191 := n6_; have BK198 := n7_; have BK210 := n8_; have HB := n9_; clear n0_ n1_ n2_ n3_ n4_ n5_ n6_ n7_ n8_ n9_; (try clear hb); (try clear hb2); (try clear hk); (try clear hi)))
       (try simp only [Act.put, List.setIfInBounds_toArray, List.set_cons_zero, List.set_cons_succ])
       go_cut [] (fun wc => ∃ (kq : Nat), Aside0 (laws_FnExactWalNew.j3 kq t200 t201 t202 = some r) ∧ Aside0 (kq ≤ kj27) ∧ Aside0 (Kd.R Kd.string 9 wc w.heap.size (fun k_ => some k_ ≠ ((.slice Ao12 t201.length co12) : Value).ownBlock ∧ some k_ ≠ ((.slice Ao35 t204.length co35) : Value).ownBlock) (.slice Ao7 t185.length co7) t185) ∧ Aside0 (Kd.R k54 54 wc w.heap.size (fun k_ => some k_ ≠ ((.slice Ao15 t202.length co15) : Value).ownBlock ∧ some k_ ≠ ((.slice Ao39 t207.length co39) : Value).ownBlock) (.slice Ao9 t188.length co9) t188) ∧ Aside0 (Kd.R Kd.string 9 wc w.heap.size (fun k_ => some k_ ≠ ((.slice Ao7 t185.length co7) : Value).ownBlock ∧ some k_ ≠ ((.slice Ao35 t204.length co35) : Value).ownBlock) (.slice Ao12 t201.length co12) t201) ∧ Aside0 (Kd.R k54 54 wc w.heap.size (fun k_ => some k_ ≠ ((.slice Ao9 t188.length co9) : Value).ownBlock ∧ some k_ ≠ ((.slice Ao39 t207.length co39) : Value).ownBlock) (.slice Ao15 t202.length co15) t202) ∧ Aside0 (Kd.R Kd.string 9 wc w.heap.size (fun k_ => some k_ ≠ ((.slice Ao7 t185.length co7) : Value).ownBlock ∧ some k_ ≠ ((.slice Ao12 t201.length co12) : Value).ownBlock) (.slice Ao35 t204.length co35) t204) ∧ Aside0 (Kd.R k54 54 wc w.heap.size (fun k_ => some k_ ≠ ((.slice Ao9 t188.length co9) : Value).ownBlock ∧ some k_ ≠ ((.slice Ao15 t202.length co15) : Value).ownBlock) (.slice Ao39 t207.length co39) t207) ∧ Aside0 (wc.heap[gb191]? = some (.cells #[(.slice Ao7 t185.length co7), (.slice Ao9 t188.length co9)] 26 (0, 0))) ∧ Aside0 (wc.heap[gb198]? = some (.cells #[(.slice Ao12 t201.length co12), (.slice Ao15 t202.length co15)] 26 (0, 0))) ∧ Aside0 (wc.heap[gb210]? = some (.cells #[(.slice Ao35 t204.length co35), (.slice Ao39 t207.length co39)] 26 (0, 0))) ∧ Aside0 (Below w.heap.size w wc))
       case first =>
        have H := HC32.out
        clear HC32
        by_cases c43 : t211 = true
        ·subst c43
         have H1 : (laws_FnExactWalNew.j3 kj27 t200 t201 t202) = some r := by rw [if_pos rfl] at H; exact H
         clear H
         have H := H1
         clear H1
         have H' := Aside0.mk H
         clear H
         go_wp2
         go_meet
         case rel => exact ⟨_, H', ⟨by have := HJ3.out; have := HJ20.out; have := HJ27.out; first | omega | exact Nat.le_refl _⟩, ⟨by (try simp only [hl199000_20]); (try simp only [hl199001_20]); (with_reducible repeat (first | apply Kd.R_alloc | apply Kd.R_drewN | apply Kd.R_drew)); exact HO_192000.out⟩, ⟨by (try simp only [hl199000_20]); (try simp only [hl199001_20]); (with_reducible repeat (first | apply Kd.R_alloc | apply Kd.R_drewN | apply Kd.R_drew)); exact HO_192001.out⟩, ⟨by (try simp only [hl199000_20]); (try simp only [hl199001_20]); (with_reducible repeat (first | apply Kd.R_alloc | apply Kd.R_drewN | apply Kd.R_drew)); exact HO_199000.out⟩, ⟨by (try simp only [hl199000_20]); (try simp only [hl199001_20]); (with_reducible repeat (first | apply Kd.R_alloc | apply Kd.R_drewN | apply Kd.R_drew)); exact HO_199001.out⟩, ⟨by (try simp only [hl199000_20]); (try simp only [hl199001_20]); (with_reducible repeat (first | apply Kd.R_alloc | apply Kd.R_drewN | apply Kd.R_drew)); exact Kd.R_mono HO206.out (fun _ hk => ⟨hk.1.2, hk.2⟩)⟩, ⟨by (try simp only [hl199000_20]); (try simp only [hl199001_20]); (with_reducible repeat (first | apply Kd.R_alloc | apply Kd.R_drewN | apply Kd.R_drew)); exact Kd.R_mono HO209.out (fun _ hk => ⟨hk.1.2, hk.2⟩)⟩, ⟨by (try simp only [hl199000_20]); (try simp only [hl199001_20]); (with_reducible repeat (first | refine blk_drewN ?_ _ | refine blk_drew ?_ | refine blk_alloc ?_ _)); exact BK191.out⟩, ⟨by (try simp only [hl199000_20]); (try simp only [hl199001_20]); (with_reducible repeat (first | refine blk_drewN ?_ _ | refine blk_drew ?_ | refine blk_alloc ?_ _)); exact BK198.out⟩, ⟨by (try simp only [hl199000_20]); (try simp only [hl199001_20]); (with_reducible repeat (first | refine blk_drewN ?_ _ | refine blk_drew ?_ | refine blk_alloc ?_ _)); exact BK210.out⟩, ⟨by repeat (first | (with_reducible first | exact HB.out | apply below_alloc | apply pw_below_drewN | apply below_drew1 | refine below_set ?_ GE191.out | refine below_set ?_ GE198.out | refine below_set ?_ GE210.out) | exact HB.out)⟩⟩
        ·replace c43 := Bool.eq_false_iff.mpr c43
         subst c43
         have H1 : (some false) = some r := by rw [if_neg (show ¬ (false = true) by decide)] at H; exact H
         clear H
         have H := H1
         clear H1
         obtain rfl := Option.some.inj H
         go_wp2
         go_ret
         exact ⟨by first | rfl | (simp [errW_none, errW_some] <;> rfl) | (simp [*, errW_none, errW_some] <;> rfl), by repeat (first | (with_reducible first | exact HB.out | apply below_alloc | apply pw_below_drewN | apply below_drew1 | refine below_set ?_ GE191.out | refine below_set ?_ GE198.out | refine below_set ?_ GE210.out) | exact HB.out)⟩
       case rest =>
        clear HC32
        try clear c1
        try clear c2
        try clear p2
        try clear c3
        try clear c4
        try clear c5
        try clear c13
        try clear c17
        try clear c18
        try clear c19
        try clear c20
        try clear c21
        try clear c22
        try clear c27
        try clear c27b0
        try clear c29
        try clear c29b0
        try clear c29b1
        try clear c36
        try clear c37
        try clear c40
        try clear c43
        try clear hcz14_0
        try clear hcz14_1
        try clear hcz16_0
        try clear hcz16_1
        try clear hcz23_0
        try clear hcz23_1
        try clear hcz25_0
        try clear hcz25_1
        try clear hcz38_0
        try clear hcz38_1
        try clear hcz41_0
        try clear hcz41_1
        try clear hcz8_0
        try clear hcz8_1
        try clear hfz14_0
        try clear hfz14_1
        try clear hfz16_0
        try clear hfz16_1
        try clear hfz23_0
        try clear hfz23_1
        try clear hfz25_0
        try clear hfz25_1
        try clear hfz38_0
        try clear hfz38_1
        try clear hfz41_0
        try clear hfz41_1
        try clear hfz8_0
        try clear hfz8_1
        try clear p2
        obtain ⟨kq, HA, HJ31, HO_192000, HO_192001, HO_199000, HO_199001, HO_211000, HO_211001, BK191, BK198, BK210, HB⟩ := hcut
        cases kq with
        | zero => exact absurd HA.out (by simp [laws_FnExactWalNew.j3])
        | succ kj31 =>
         have H := HA.out
         clear HA
         simp only [laws_FnExactWalNew.j3] at H
         replace H := Option.bind_eq_some_iff.mp H
         obtain ⟨t212, A440, H⟩ := H
         replace H : (if t212 < 0 then (some false) else (if t212 = t200 then (some true) else (some false))) = some r := H
         have A44 := Aside0.mk A440
         clear A440
         by_cases c45 : t212 < 0
         ·rw [if_pos c45] at H
          have c45b0 : decide (t212 < 0) = true := decide_eq_true c45
          clear c45
          obtain rfl := Option.some.inj H
          have hnb46 := NB198_191.out
          have hnc46 := NB191_198.out
          have hnb47 := NB198_210.out
          have hnc47 := NB210_198.out
          have hcz48_0 : wc.cell? ⟨gb198, 0, none⟩ = some (.slice Ao12 t201.length co12) := (blk_cell BK198.out 0).trans rfl
          have hcz48_1 : wc.cell? ⟨gb198, 1, none⟩ = some (.slice Ao15 t202.length co15) := (blk_cell BK198.out 1).trans rfl
          have hfz48_0 := blk_frozen BK198.out 0
          have hfz48_1 := blk_frozen BK198.out 1
          go_wp2_with (first | ((with_reducible refine gate_callee (f := 19) rfl ?_); refine goesL_ (some 30) rfl rfl Try.func19 (by kernel_rfl) rfl #[.agg #[.slice Ao12 t201.length co12, .slice Ao15 t202.length co15], .int .i64 1] rfl bM ?_; (with_reducible refine (laws_heldSecDisk.calls kj31 _ _ t201 _ _ t202 1 t212 _ ?side1 ?side2 ?side3 ?side4 A44.out).mono ?_); (case side1 => exact pC (Kd.R_reads' HO_199000.out).2.2); (case side2 => exact (Kd.R_reads' HO_199000.out).2.1); (case side3 => exact pC (Kd.R_reads' HO_199001.out).2.2); (case side4 => exact (Kd.R_reads' HO_199001.out).2.1); rintro e w49 ⟨rfl, hb⟩; refine ⟨_, rfl, ?_⟩; have n0_ := Aside0.mk (Kd.R_below (pR HO_192000.out) hb); have n1_ := Aside0.mk (Kd.R_below (pR HO_192001.out) hb); have n2_ := Aside0.mk (Kd.R_below (pR HO_199000.out) hb); have n3_ := Aside0.mk (Kd.R_below (pR HO_199001.out) hb); have n4_ := Aside0.mk (Kd.R_below (pR HO_211000.out) hb); have n5_ := Aside0.mk (Kd.R_below (pR HO_211001.out) hb); have n6_ := Aside0.mk (blk_below (g := gb191) (o := .cells #[.slice Ao7 t185.length co7, .slice Ao9 t188.length co9] 26 (0, 0)) (pK BK191.out) hb); have n7_ := Aside0.mk (blk_below (g := gb198) (o := .cells #[.slice Ao12 t201.length co12, .slice Ao15 t202.length co15] 26 (0, 0)) (pK BK198.out) hb); have n8_ := Aside0.mk (blk_below (g := gb210) (o := .cells #[.slice Ao35 t204.length co35, .slice Ao39 t207.length co39] 26 (0, 0)) (pK BK210.out) hb); have n9_ := Aside0.mk (below_step (by repeat (first | (with_reducible first | exact HB.out | apply below_alloc | apply pw_below_drewN | apply below_drew1 | refine below_set ?_ GE191.out | refine below_set ?_ GE198.out | refine below_set ?_ GE210.out) | exact HB.out)) hb); clear HO_192000; clear HO_192001; clear HO_199000; clear HO_199001; clear HO_211000; clear HO_211001; clear BK191; clear BK198; clear BK210; clear HB; have HO_192000 := n0_; have HO_192001 := n1_; have HO_199000 := n2_; have HO_199001 := n3_; have HO_211000 := n4_; have HO_211001 := n5_; have BK191 := n6_; have BK198 := n7_; have BK210 := n8_; have HB := n9_; clear n0_ n1_ n2_ n3_ n4_ n5_ n6_ n7_ n8_ n9_; (try clear hb); (try clear hb2); (try clear hk); (try clear hi)))
          go_ret
          exact ⟨by first | rfl | (simp [errW_none, errW_some] <;> rfl) | (simp [*, errW_none, errW_some] <;> rfl), by repeat (first | (with_reducible first | exact HB.out | apply below_alloc | apply pw_below_drewN | apply below_drew1 | refine below_set ?_ GE191.out | refine below_set ?_ GE198.out | refine below_set ?_ GE210.out) | exact HB.out)⟩
         ·rw [if_neg c45] at H
          have c45b0 : decide (t212 < 0) = false := decide_eq_false c45
          clear c45
          by_cases c50 : t212 = t200
          ·rw [if_pos c50] at H
           have c50b0 : (t212 == t200) = true := beq_iff_eq.mpr c50
           have c50b1 : (t212 != t200) = false := bne_eq_false_iff_eq.mpr c50
           clear c50
           obtain rfl := Option.some.inj H
           have hnb51 := NB198_191.out
           have hnc51 := NB191_198.out
           have hnb52 := NB198_210.out
           have hnc52 := NB210_198.out
           have hcz53_0 : wc.cell? ⟨gb198, 0, none⟩ = some (.slice Ao12 t201.length co12) := (blk_cell BK198.out 0).trans rfl
           have hcz53_1 : wc.cell? ⟨gb198, 1, none⟩ = some (.slice Ao15 t202.length co15) := (blk_cell BK198.out 1).trans rfl
           have hfz53_0 := blk_frozen BK198.out 0
           have hfz53_1 := blk_frozen BK198.out 1
           go_wp2_with (first | ((with_reducible refine gate_callee (f := 19) rfl ?_); refine goesL_ (some 30) rfl rfl Try.func19 (by kernel_rfl) rfl #[.agg #[.slice Ao12 t201.length co12, .slice Ao15 t202.length co15], .int .i64 1] rfl bM ?_; (with_reducible refine (laws_heldSecDisk.calls kj31 _ _ t201 _ _ t202 1 t212 _ ?side1 ?side2 ?side3 ?side4 A44.out).mono ?_); (case side1 => exact pC (Kd.R_reads' HO_199000.out).2.2); (case side2 => exact (Kd.R_reads' HO_199000.out).2.1); (case side3 => exact pC (Kd.R_reads' HO_199001.out).2.2); (case side4 => exact (Kd.R_reads' HO_199001.out).2.1); rintro e w54 ⟨rfl, hb⟩; refine ⟨_, rfl, ?_⟩; have n0_ := Aside0.mk (Kd.R_below (pR HO_192000.out) hb); have n1_ := Aside0.mk (Kd.R_below (pR HO_192001.out) hb); have n2_ := Aside0.mk (Kd.R_below (pR HO_199000.out) hb); have n3_ := Aside0.mk (Kd.R_below (pR HO_199001.out) hb); have n4_ := Aside0.mk (Kd.R_below (pR HO_211000.out) hb); have n5_ := Aside0.mk (Kd.R_below (pR HO_211001.out) hb); have n6_ := Aside0.mk (blk_below (g := gb191) (o := .cells #[.slice Ao7 t185.length co7, .slice Ao9 t188.length co9] 26 (0, 0)) (pK BK191.out) hb); have n7_ := Aside0.mk (blk_below (g := gb198) (o := .cells #[.slice Ao12 t201.length co12, .slice Ao15 t202.length co15] 26 (0, 0)) (pK BK198.out) hb); have n8_ := Aside0.mk (blk_below (g := gb210) (o := .cells #[.slice Ao35 t204.length co35, .slice Ao39 t207.length co39] 26 (0, 0)) (pK BK210.out) hb); have n9_ := Aside0.mk (below_step (by repeat (first | (with_reducible first | exact HB.out | apply below_alloc | apply pw_below_drewN | apply below_drew1 | refine below_set ?_ GE191.out | refine below_set ?_ GE198.out | refine below_set ?_ GE210.out) | exact HB.out)) hb); clear HO_192000; clear HO_192001; clear HO_199000; clear HO_199001; clear HO_211000; clear HO_211001; clear BK191; clear BK198; clear BK210; clear HB; have HO_192000 := n0_; have HO_192001 := n1_; have HO_199000 := n2_; have HO_199001 := n3_; have HO_211000 := n4_; have HO_211001 := n5_; have BK191 := n6_; have BK198 := n7_; have BK210 := n8_; have HB := n9_; clear n0_ n1_ n2_ n3_ n4_ n5_ n6_ n7_ n8_ n9_; (try clear hb); (try clear hb2); (try clear hk); (try clear hi)))
           go_ret
           exact ⟨by first | rfl | (simp [errW_none, errW_some] <;> rfl) | (simp [*, errW_none, errW_some] <;> rfl), by repeat (first | (with_reducible first | exact HB.out | apply below_alloc | apply pw_below_drewN | apply below_drew1 | refine below_set ?_ GE191.out | refine below_set ?_ GE198.out | refine below_set ?_ GE210.out) | exact HB.out)⟩
          ·rw [if_neg c50] at H
           have c50b0 : (t212 == t200) = false := beq_eq_false_iff_ne.mpr c50
           have c50b1 : (t212 != t200) = true := bne_iff_ne.mpr c50
           obtain rfl := Option.some.inj H
           have hnb55 := NB198_191.out
           have hnc55 := NB191_198.out
           have hnb56 := NB198_210.out
           have hnc56 := NB210_198.out
           have hcz57_0 : wc.cell? ⟨gb198, 0, none⟩ = some (.slice Ao12 t201.length co12) := (blk_cell BK198.out 0).trans rfl
           have hcz57_1 : wc.cell? ⟨gb198, 1, none⟩ = some (.slice Ao15 t202.length co15) := (blk_cell BK198.out 1).trans rfl
           have hfz57_0 := blk_frozen BK198.out 0
           have hfz57_1 := blk_frozen BK198.out 1
           go_wp2_with (first | ((with_reducible refine gate_callee (f := 19) rfl ?_); refine goesL_ (some 30) rfl rfl Try.func19 (by kernel_rfl) rfl #[.agg #[.slice Ao12 t201.length co12, .slice Ao15 t202.length co15], .int .i64 1] rfl bM ?_; (with_reducible refine (laws_heldSecDisk.calls kj31 _ _ t201 _ _ t202 1 t212 _ ?side1 ?side2 ?side3 ?side4 A44.out).mono ?_); (case side1 => exact pC (Kd.R_reads' HO_199000.out).2.2); (case side2 => exact (Kd.R_reads' HO_199000.out).2.1); (case side3 => exact pC (Kd.R_reads' HO_199001.out).2.2); (case side4 => exact (Kd.R_reads' HO_199001.out).2.1); rintro e w58 ⟨rfl, hb⟩; refine ⟨_, rfl, ?_⟩; have n0_ := Aside0.mk (Kd.R_below (pR HO_192000.out) hb); have n1_ := Aside0.mk (Kd.R_below (pR HO_192001.out) hb); have n2_ := Aside0.mk (Kd.R_below (pR HO_199000.out) hb); have n3_ := Aside0.mk (Kd.R_below (pR HO_199001.out) hb); have n4_ := Aside0.mk (Kd.R_below (pR HO_211000.out) hb); have n5_ := Aside0.mk (Kd.R_below (pR HO_211001.out) hb); have n6_ := Aside0.mk (blk_below (g := gb191) (o := .cells #[.slice Ao7 t185.length co7, .slice Ao9 t188.length co9] 26 (0, 0)) (pK BK191.out) hb); have n7_ := Aside0.mk (blk_below (g := gb198) (o := .cells #[.slice Ao12 t201.length co12, .slice Ao15 t202.length co15] 26 (0, 0)) (pK BK198.out) hb); have n8_ := Aside0.mk (blk_below (g := gb210) (o := .cells #[.slice Ao35 t204.length co35, .slice Ao39 t207.length co39] 26 (0, 0)) (pK BK210.out) hb); have n9_ := Aside0.mk (below_step (by repeat (first | (with_reducible first | exact HB.out | apply below_alloc | apply pw_below_drewN | apply below_drew1 | refine below_set ?_ GE191.out | refine below_set ?_ GE198.out | refine below_set ?_ GE210.out) | exact HB.out)) hb); clear HO_192000; clear HO_192001; clear HO_199000; clear HO_199001; clear HO_211000; clear HO_211001; clear BK191; clear BK198; clear BK210; clear HB; have HO_192000 := n0_; have HO_192001 := n1_; have HO_199000 := n2_; have HO_199001 := n3_; have HO_211000 := n4_; have HO_211001 := n5_; have BK191 := n6_; have BK198 := n7_; have BK210 := n8_; have HB := n9_; clear n0_ n1_ n2_ n3_ n4_ n5_ n6_ n7_ n8_ n9_; (try clear hb); (try clear hb2); (try clear hk); (try clear hi)))
           go_ret
           exact ⟨by first | rfl | (simp [errW_none, errW_some] <;> rfl) | (simp [*, errW_none, errW_some] <;> rfl), by repeat (first | (with_reducible first | exact HB.out | apply below_alloc | apply pw_below_drewN | apply below_drew1 | refine below_set ?_ GE191.out | refine below_set ?_ GE198.out | refine below_set ?_ GE210.out) | exact HB.out)⟩

/-- THE ONE PURE STATEMENT of laws_FnExactWalNew: yours. -/
def laws_FnExactWalNew.Pure : Prop := ∃ k, laws_FnExactWalNew.f k  = some true
theorem laws_FnExactWalNew.walk (P : laws_FnExactWalNew.Pure)  (w : World)  :
  Calls Try.prog 5 #[] w fun e w' => e = .returned (.bool true) ∧ Below w.heap.size w w' := by
 obtain ⟨k, h⟩ := P  
 refine (laws_FnExactWalNew.calls k  true w h).mono ?_
 rintro e w' ⟨rfl, hd⟩
 exact ⟨rfl, hd⟩

end Go.Proofs.Ythkdhcaojhbfoaa.P
