-- printed by pprint.py (this session's program over the kit's printer) out of the translation. Lean checks it.
import Derived.Test.YthkdhcaojhbfoaaPx0
import Derived.Test.YthkdhcaojhbfoaaPx4
import Derived.Test.YthkdhcaojhbfoaaPx5
import Derived.Test.YthkdhcaojhbfoaaPx8
import Derived.Test.YthkdhcaojhbfoaaPx9
import Derived.Test.YthkdhcaojhbfoaaPx16
namespace Go.Proofs.Ythkdhcaojhbfoaa.P
open Go.RowKit Go.Proofs.YthkdhcaojhbfoaaX Go.Proofs.YthkdhcaojhbfoaaW.PrintWords Go.Proofs.YthkdhcaojhbfoaaW.PrintLast Go.Proofs.YthkdhcaojhbfoaaW.PrintMore
attribute [local go_sem] max2_int min2_int max_two min_two max_three min_three max_four min_four   -- for this text's walks alone
set_option linter.unusedVariables false
set_option linter.unusedSimpArgs false

/-! ### laws_FnExactSecFlush: function 12 -/
mutual
def laws_FnExactSecFlush.j0 : Nat → List ByteArray → List (S79) → Option (Bool)
 | 0, _, _ => none
 | k + 1, x760000, x760001 => (laws_toSecDisk.f k x760000 x760001).bind fun bt761 => ((spec_SecFlush.f k bt761.1 bt761.2).bind fun bt767 => ((laws_toSecDisk.f k x760000 x760001).bind fun bt774 => ((impl_SecFlush.f k bt774.1 bt774.2).bind fun bt781 => ((laws_eqSecDisk.f k bt781.1 bt781.2 bt767.1 bt767.2).bind fun t788 => (if t788 = true then (laws_FnExactSecFlush.j1 k x760000 x760001 bt767.1 bt767.2 bt774.1 bt774.2 bt781.1 bt781.2) else (some false))))))
def laws_FnExactSecFlush.j1 : Nat → List ByteArray → List (S79) → List ByteArray → List (S54) → List ByteArray → List (S54) → List ByteArray → List (S54) → Option (Bool)
 | 0, _, _, _, _, _, _, _, _ => none
 | k + 1, x760000, x760001, x774000, x774001, x781000, x781001, x788000, x788001 => (laws_toSecDisk.f k x760000 x760001).bind fun bt789 => ((laws_eqSecDisk.f k x781000 x781001 bt789.1 bt789.2).bind fun t795 => (if t795 = true then (laws_FnExactSecFlush.j2 k x760000 x760001 x774000 x774001 x781000 x781001 x788000 x788001) else (some false)))
def laws_FnExactSecFlush.j2 : Nat → List ByteArray → List (S79) → List ByteArray → List (S54) → List ByteArray → List (S54) → List ByteArray → List (S54) → Option (Bool)
 | 0, _, _, _, _, _, _, _, _ => none
 | k + 1, x760000, x760001, x774000, x774001, x781000, x781001, x788000, x788001 => (laws_markSecDisk.f k x781000 x781001 1).bind fun bt796 => (if bt796.1 < 0 then (laws_FnExactSecFlush.j3 k true x760000 x760001 x774000 x774001 x788000 x788001) else ((laws_eqSecDisk.f k x788000 x788001 x774000 x774001).bind fun t799 => (laws_FnExactSecFlush.j3 k (!t799) x760000 x760001 x774000 x774001 x788000 x788001)))
def laws_FnExactSecFlush.j3 : Nat → Bool → List ByteArray → List (S79) → List ByteArray → List (S54) → List ByteArray → List (S54) → Option (Bool)
 | 0, _, _, _, _, _, _, _ => none
 | k + 1, x42, x760000, x760001, x774000, x774001, x788000, x788001 => if x42 = true then (some false) else (laws_FnExactSecFlush.j4 k x760000 x760001 x774000 x774001 x788000 x788001)
def laws_FnExactSecFlush.j4 : Nat → List ByteArray → List (S79) → List ByteArray → List (S54) → List ByteArray → List (S54) → Option (Bool)
 | 0, _, _, _, _, _, _ => none
 | k + 1, x760000, x760001, x774000, x774001, x788000, x788001 => (laws_markSecDisk.f k x788000 x788001 1).bind fun bt800 => ((laws_heldSecDisk.f k bt800.2.1 bt800.2.2 1).bind fun t803 => (if t803 < 0 then (some false) else (laws_FnExactSecFlush.j5 k bt800.1 t803 x760000 x760001 x774000 x774001 bt800.2.1 bt800.2.2)))
def laws_FnExactSecFlush.j5 : Nat → Int → Int → List ByteArray → List (S79) → List ByteArray → List (S54) → List ByteArray → List (S54) → Option (Bool)
 | 0, _, _, _, _, _, _, _, _ => none
 | k + 1, x8, x9, x760000, x760001, x774000, x774001, x788000, x788001 => if x9 = x8 then (laws_FnExactSecFlush.j6 k x8 x760000 x760001 x774000 x774001 x788000 x788001) else (some false)
def laws_FnExactSecFlush.j6 : Nat → Int → List ByteArray → List (S79) → List ByteArray → List (S54) → List ByteArray → List (S54) → Option (Bool)
 | 0, _, _, _, _, _, _, _ => none
 | k + 1, x8, x760000, x760001, x774000, x774001, x788000, x788001 => (laws_toSecDisk.f k x760000 x760001).bind fun bt804 => ((impl_SecFlush.f k bt804.1 bt804.2).bind fun bt810 => ((laws_eqSecDisk.f k bt810.1 bt810.2 x774000 x774001).bind fun t817 => (if t817 = true then (laws_FnExactSecFlush.j7 k x8 x788000 x788001) else (some false))))
def laws_FnExactSecFlush.j7 : Nat → Int → List ByteArray → List (S54) → Option (Bool)
 | 0, _, _, _ => none
 | k + 1, x8, x788000, x788001 => (laws_heldSecDisk.f k x788000 x788001 1).bind fun t818 => (if t818 < 0 then (some false) else (if t818 = x8 then (some true) else (some false)))
end
def laws_FnExactSecFlush.f (k : Nat) (l0_0 : List ByteArray) (l0_1 : List (S79)) : Option (Bool) := (laws_szSecDisk.f k l0_0 l0_1 1048576).bind fun t760 => (if t760 < 0 then (some true) else (laws_FnExactSecFlush.j0 k l0_0 l0_1))
theorem laws_FnExactSecFlush.mono_l : ∀ k, (∀ y0 y1, LeO (laws_FnExactSecFlush.j0 k y0 y1) (laws_FnExactSecFlush.j0 (k + 1) y0 y1)) ∧ (∀ y0 y1 y2 y3 y4 y5 y6 y7, LeO (laws_FnExactSecFlush.j1 k y0 y1 y2 y3 y4 y5 y6 y7) (laws_FnExactSecFlush.j1 (k + 1) y0 y1 y2 y3 y4 y5 y6 y7)) ∧ (∀ y0 y1 y2 y3 y4 y5 y6 y7, LeO (laws_FnExactSecFlush.j2 k y0 y1 y2 y3 y4 y5 y6 y7) (laws_FnExactSecFlush.j2 (k + 1) y0 y1 y2 y3 y4 y5 y6 y7)) ∧ (∀ y0 y1 y2 y3 y4 y5 y6, LeO (laws_FnExactSecFlush.j3 k y0 y1 y2 y3 y4 y5 y6) (laws_FnExactSecFlush.j3 (k + 1) y0 y1 y2 y3 y4 y5 y6)) ∧ (∀ y0 y1 y2 y3 y4 y5, LeO (laws_FnExactSecFlush.j4 k y0 y1 y2 y3 y4 y5) (laws_FnExactSecFlush.j4 (k + 1) y0 y1 y2 y3 y4 y5)) ∧ (∀ y0 y1 y2 y3 y4 y5 y6 y7, LeO (laws_FnExactSecFlush.j5 k y0 y1 y2 y3 y4 y5 y6 y7) (laws_FnExactSecFlush.j5 (k + 1) y0 y1 y2 y3 y4 y5 y6 y7)) ∧ (∀ y0 y1 y2 y3 y4 y5 y6, LeO (laws_FnExactSecFlush.j6 k y0 y1 y2 y3 y4 y5 y6) (laws_FnExactSecFlush.j6 (k + 1) y0 y1 y2 y3 y4 y5 y6)) ∧ (∀ y0 y1 y2, LeO (laws_FnExactSecFlush.j7 k y0 y1 y2) (laws_FnExactSecFlush.j7 (k + 1) y0 y1 y2))
 | 0 => ⟨fun _ _ r h => by simp [laws_FnExactSecFlush.j0] at h, fun _ _ _ _ _ _ _ _ r h => by simp [laws_FnExactSecFlush.j1] at h, fun _ _ _ _ _ _ _ _ r h => by simp [laws_FnExactSecFlush.j2] at h, fun _ _ _ _ _ _ _ r h => by simp [laws_FnExactSecFlush.j3] at h, fun _ _ _ _ _ _ r h => by simp [laws_FnExactSecFlush.j4] at h, fun _ _ _ _ _ _ _ _ r h => by simp [laws_FnExactSecFlush.j5] at h, fun _ _ _ _ _ _ _ r h => by simp [laws_FnExactSecFlush.j6] at h, fun _ _ _ r h => by simp [laws_FnExactSecFlush.j7] at h⟩
 | k + 1 => by
  obtain ⟨ih0, ih1, ih2, ih3, ih4, ih5, ih6, ih7⟩ := laws_FnExactSecFlush.mono_l k
  refine ⟨?_, ?_, ?_, ?_, ?_, ?_, ?_, ?_⟩
  ·intro y0 y1
   unfold laws_FnExactSecFlush.j0
   repeat' first
   | (with_reducible exact ih0 _ _)
   | (with_reducible exact ih1 _ _ _ _ _ _ _ _)
   | (with_reducible exact ih2 _ _ _ _ _ _ _ _)
   | (with_reducible exact ih3 _ _ _ _ _ _ _)
   | (with_reducible exact ih4 _ _ _ _ _ _)
   | (with_reducible exact ih5 _ _ _ _ _ _ _ _)
   | (with_reducible exact ih6 _ _ _ _ _ _ _)
   | (with_reducible exact ih7 _ _ _)
   | (with_reducible exact impl_SecFlush.mono _ _ _)
   | (with_reducible exact laws_eqSecDisk.mono _ _ _ _ _)
   | (with_reducible exact laws_heldSecDisk.mono _ _ _ _)
   | (with_reducible exact laws_markSecDisk.mono _ _ _ _)
   | (with_reducible exact laws_szSecDisk.mono _ _ _ _)
   | (with_reducible exact laws_toSecDisk.mono _ _ _)
   | (with_reducible exact spec_SecFlush.mono _ _ _)
   | (with_reducible exact LeO.refl _)
   | (with_reducible exact LeO.none _)
   | (with_reducible refine LeO.ite ?_ ?_)
   | (with_reducible refine LeO.bind ?_ (fun _ => ?_))
   | exact ih0 _ _
   | exact ih1 _ _ _ _ _ _ _ _
   | exact ih2 _ _ _ _ _ _ _ _
   | exact ih3 _ _ _ _ _ _ _
   | exact ih4 _ _ _ _ _ _
   | exact ih5 _ _ _ _ _ _ _ _
   | exact ih6 _ _ _ _ _ _ _
   | exact ih7 _ _ _
   | exact impl_SecFlush.mono _ _ _
   | exact laws_eqSecDisk.mono _ _ _ _ _
   | exact laws_heldSecDisk.mono _ _ _ _
   | exact laws_markSecDisk.mono _ _ _ _
   | exact laws_szSecDisk.mono _ _ _ _
   | exact laws_toSecDisk.mono _ _ _
   | exact spec_SecFlush.mono _ _ _
   | exact LeO.none _
   | refine LeO.ite ?_ ?_
   | refine LeO.bind ?_ (fun _ => ?_)
  ·intro y0 y1 y2 y3 y4 y5 y6 y7
   unfold laws_FnExactSecFlush.j1
   repeat' first
   | (with_reducible exact ih0 _ _)
   | (with_reducible exact ih1 _ _ _ _ _ _ _ _)
   | (with_reducible exact ih2 _ _ _ _ _ _ _ _)
   | (with_reducible exact ih3 _ _ _ _ _ _ _)
   | (with_reducible exact ih4 _ _ _ _ _ _)
   | (with_reducible exact ih5 _ _ _ _ _ _ _ _)
   | (with_reducible exact ih6 _ _ _ _ _ _ _)
   | (with_reducible exact ih7 _ _ _)
   | (with_reducible exact impl_SecFlush.mono _ _ _)
   | (with_reducible exact laws_eqSecDisk.mono _ _ _ _ _)
   | (with_reducible exact laws_heldSecDisk.mono _ _ _ _)
   | (with_reducible exact laws_markSecDisk.mono _ _ _ _)
   | (with_reducible exact laws_szSecDisk.mono _ _ _ _)
   | (with_reducible exact laws_toSecDisk.mono _ _ _)
   | (with_reducible exact spec_SecFlush.mono _ _ _)
   | (with_reducible exact LeO.refl _)
   | (with_reducible exact LeO.none _)
   | (with_reducible refine LeO.ite ?_ ?_)
   | (with_reducible refine LeO.bind ?_ (fun _ => ?_))
   | exact ih0 _ _
   | exact ih1 _ _ _ _ _ _ _ _
   | exact ih2 _ _ _ _ _ _ _ _
   | exact ih3 _ _ _ _ _ _ _
   | exact ih4 _ _ _ _ _ _
   | exact ih5 _ _ _ _ _ _ _ _
   | exact ih6 _ _ _ _ _ _ _
   | exact ih7 _ _ _
   | exact impl_SecFlush.mono _ _ _
   | exact laws_eqSecDisk.mono _ _ _ _ _
   | exact laws_heldSecDisk.mono _ _ _ _
   | exact laws_markSecDisk.mono _ _ _ _
   | exact laws_szSecDisk.mono _ _ _ _
   | exact laws_toSecDisk.mono _ _ _
   | exact spec_SecFlush.mono _ _ _
   | exact LeO.none _
   | refine LeO.ite ?_ ?_
   | refine LeO.bind ?_ (fun _ => ?_)
  ·intro y0 y1 y2 y3 y4 y5 y6 y7
   unfold laws_FnExactSecFlush.j2
   repeat' first
   | (with_reducible exact ih0 _ _)
   | (with_reducible exact ih1 _ _ _ _ _ _ _ _)
   | (with_reducible exact ih2 _ _ _ _ _ _ _ _)
   | (with_reducible exact ih3 _ _ _ _ _ _ _)
   | (with_reducible exact ih4 _ _ _ _ _ _)
   | (with_reducible exact ih5 _ _ _ _ _ _ _ _)
   | (with_reducible exact ih6 _ _ _ _ _ _ _)
   | (with_reducible exact ih7 _ _ _)
   | (with_reducible exact impl_SecFlush.mono _ _ _)
   | (with_reducible exact laws_eqSecDisk.mono _ _ _ _ _)
   | (with_reducible exact laws_heldSecDisk.mono _ _ _ _)
   | (with_reducible exact laws_markSecDisk.mono _ _ _ _)
   | (with_reducible exact laws_szSecDisk.mono _ _ _ _)
   | (with_reducible exact laws_toSecDisk.mono _ _ _)
   | (with_reducible exact spec_SecFlush.mono _ _ _)
   | (with_reducible exact LeO.refl _)
   | (with_reducible exact LeO.none _)
   | (with_reducible refine LeO.ite ?_ ?_)
   | (with_reducible refine LeO.bind ?_ (fun _ => ?_))
   | exact ih0 _ _
   | exact ih1 _ _ _ _ _ _ _ _
   | exact ih2 _ _ _ _ _ _ _ _
   | exact ih3 _ _ _ _ _ _ _
   | exact ih4 _ _ _ _ _ _
   | exact ih5 _ _ _ _ _ _ _ _
   | exact ih6 _ _ _ _ _ _ _
   | exact ih7 _ _ _
   | exact impl_SecFlush.mono _ _ _
   | exact laws_eqSecDisk.mono _ _ _ _ _
   | exact laws_heldSecDisk.mono _ _ _ _
   | exact laws_markSecDisk.mono _ _ _ _
   | exact laws_szSecDisk.mono _ _ _ _
   | exact laws_toSecDisk.mono _ _ _
   | exact spec_SecFlush.mono _ _ _
   | exact LeO.none _
   | refine LeO.ite ?_ ?_
   | refine LeO.bind ?_ (fun _ => ?_)
  ·intro y0 y1 y2 y3 y4 y5 y6
   unfold laws_FnExactSecFlush.j3
   repeat' first
   | (with_reducible exact ih0 _ _)
   | (with_reducible exact ih1 _ _ _ _ _ _ _ _)
   | (with_reducible exact ih2 _ _ _ _ _ _ _ _)
   | (with_reducible exact ih3 _ _ _ _ _ _ _)
   | (with_reducible exact ih4 _ _ _ _ _ _)
   | (with_reducible exact ih5 _ _ _ _ _ _ _ _)
   | (with_reducible exact ih6 _ _ _ _ _ _ _)
   | (with_reducible exact ih7 _ _ _)
   | (with_reducible exact impl_SecFlush.mono _ _ _)
   | (with_reducible exact laws_eqSecDisk.mono _ _ _ _ _)
   | (with_reducible exact laws_heldSecDisk.mono _ _ _ _)
   | (with_reducible exact laws_markSecDisk.mono _ _ _ _)
   | (with_reducible exact laws_szSecDisk.mono _ _ _ _)
   | (with_reducible exact laws_toSecDisk.mono _ _ _)
   | (with_reducible exact spec_SecFlush.mono _ _ _)
   | (with_reducible exact LeO.refl _)
   | (with_reducible exact LeO.none _)
   | (with_reducible refine LeO.ite ?_ ?_)
   | (with_reducible refine LeO.bind ?_ (fun _ => ?_))
   | exact ih0 _ _
   | exact ih1 _ _ _ _ _ _ _ _
   | exact ih2 _ _ _ _ _ _ _ _
   | exact ih3 _ _ _ _ _ _ _
   | exact ih4 _ _ _ _ _ _
   | exact ih5 _ _ _ _ _ _ _ _
   | exact ih6 _ _ _ _ _ _ _
   | exact ih7 _ _ _
   | exact impl_SecFlush.mono _ _ _
   | exact laws_eqSecDisk.mono _ _ _ _ _
   | exact laws_heldSecDisk.mono _ _ _ _
   | exact laws_markSecDisk.mono _ _ _ _
   | exact laws_szSecDisk.mono _ _ _ _
   | exact laws_toSecDisk.mono _ _ _
   | exact spec_SecFlush.mono _ _ _
   | exact LeO.none _
   | refine LeO.ite ?_ ?_
   | refine LeO.bind ?_ (fun _ => ?_)
  ·intro y0 y1 y2 y3 y4 y5
   unfold laws_FnExactSecFlush.j4
   repeat' first
   | (with_reducible exact ih0 _ _)
   | (with_reducible exact ih1 _ _ _ _ _ _ _ _)
   | (with_reducible exact ih2 _ _ _ _ _ _ _ _)
   | (with_reducible exact ih3 _ _ _ _ _ _ _)
   | (with_reducible exact ih4 _ _ _ _ _ _)
   | (with_reducible exact ih5 _ _ _ _ _ _ _ _)
   | (with_reducible exact ih6 _ _ _ _ _ _ _)
   | (with_reducible exact ih7 _ _ _)
   | (with_reducible exact impl_SecFlush.mono _ _ _)
   | (with_reducible exact laws_eqSecDisk.mono _ _ _ _ _)
   | (with_reducible exact laws_heldSecDisk.mono _ _ _ _)
   | (with_reducible exact laws_markSecDisk.mono _ _ _ _)
   | (with_reducible exact laws_szSecDisk.mono _ _ _ _)
   | (with_reducible exact laws_toSecDisk.mono _ _ _)
   | (with_reducible exact spec_SecFlush.mono _ _ _)
   | (with_reducible exact LeO.refl _)
   | (with_reducible exact LeO.none _)
   | (with_reducible refine LeO.ite ?_ ?_)
   | (with_reducible refine LeO.bind ?_ (fun _ => ?_))
   | exact ih0 _ _
   | exact ih1 _ _ _ _ _ _ _ _
   | exact ih2 _ _ _ _ _ _ _ _
   | exact ih3 _ _ _ _ _ _ _
   | exact ih4 _ _ _ _ _ _
   | exact ih5 _ _ _ _ _ _ _ _
   | exact ih6 _ _ _ _ _ _ _
   | exact ih7 _ _ _
   | exact impl_SecFlush.mono _ _ _
   | exact laws_eqSecDisk.mono _ _ _ _ _
   | exact laws_heldSecDisk.mono _ _ _ _
   | exact laws_markSecDisk.mono _ _ _ _
   | exact laws_szSecDisk.mono _ _ _ _
   | exact laws_toSecDisk.mono _ _ _
   | exact spec_SecFlush.mono _ _ _
   | exact LeO.none _
   | refine LeO.ite ?_ ?_
   | refine LeO.bind ?_ (fun _ => ?_)
  ·intro y0 y1 y2 y3 y4 y5 y6 y7
   unfold laws_FnExactSecFlush.j5
   repeat' first
   | (with_reducible exact ih0 _ _)
   | (with_reducible exact ih1 _ _ _ _ _ _ _ _)
   | (with_reducible exact ih2 _ _ _ _ _ _ _ _)
   | (with_reducible exact ih3 _ _ _ _ _ _ _)
   | (with_reducible exact ih4 _ _ _ _ _ _)
   | (with_reducible exact ih5 _ _ _ _ _ _ _ _)
   | (with_reducible exact ih6 _ _ _ _ _ _ _)
   | (with_reducible exact ih7 _ _ _)
   | (with_reducible exact impl_SecFlush.mono _ _ _)
   | (with_reducible exact laws_eqSecDisk.mono _ _ _ _ _)
   | (with_reducible exact laws_heldSecDisk.mono _ _ _ _)
   | (with_reducible exact laws_markSecDisk.mono _ _ _ _)
   | (with_reducible exact laws_szSecDisk.mono _ _ _ _)
   | (with_reducible exact laws_toSecDisk.mono _ _ _)
   | (with_reducible exact spec_SecFlush.mono _ _ _)
   | (with_reducible exact LeO.refl _)
   | (with_reducible exact LeO.none _)
   | (with_reducible refine LeO.ite ?_ ?_)
   | (with_reducible refine LeO.bind ?_ (fun _ => ?_))
   | exact ih0 _ _
   | exact ih1 _ _ _ _ _ _ _ _
   | exact ih2 _ _ _ _ _ _ _ _
   | exact ih3 _ _ _ _ _ _ _
   | exact ih4 _ _ _ _ _ _
   | exact ih5 _ _ _ _ _ _ _ _
   | exact ih6 _ _ _ _ _ _ _
   | exact ih7 _ _ _
   | exact impl_SecFlush.mono _ _ _
   | exact laws_eqSecDisk.mono _ _ _ _ _
   | exact laws_heldSecDisk.mono _ _ _ _
   | exact laws_markSecDisk.mono _ _ _ _
   | exact laws_szSecDisk.mono _ _ _ _
   | exact laws_toSecDisk.mono _ _ _
   | exact spec_SecFlush.mono _ _ _
   | exact LeO.none _
   | refine LeO.ite ?_ ?_
   | refine LeO.bind ?_ (fun _ => ?_)
  ·intro y0 y1 y2 y3 y4 y5 y6
   unfold laws_FnExactSecFlush.j6
   repeat' first
   | (with_reducible exact ih0 _ _)
   | (with_reducible exact ih1 _ _ _ _ _ _ _ _)
   | (with_reducible exact ih2 _ _ _ _ _ _ _ _)
   | (with_reducible exact ih3 _ _ _ _ _ _ _)
   | (with_reducible exact ih4 _ _ _ _ _ _)
   | (with_reducible exact ih5 _ _ _ _ _ _ _ _)
   | (with_reducible exact ih6 _ _ _ _ _ _ _)
   | (with_reducible exact ih7 _ _ _)
   | (with_reducible exact impl_SecFlush.mono _ _ _)
   | (with_reducible exact laws_eqSecDisk.mono _ _ _ _ _)
   | (with_reducible exact laws_heldSecDisk.mono _ _ _ _)
   | (with_reducible exact laws_markSecDisk.mono _ _ _ _)
   | (with_reducible exact laws_szSecDisk.mono _ _ _ _)
   | (with_reducible exact laws_toSecDisk.mono _ _ _)
   | (with_reducible exact spec_SecFlush.mono _ _ _)
   | (with_reducible exact LeO.refl _)
   | (with_reducible exact LeO.none _)
   | (with_reducible refine LeO.ite ?_ ?_)
   | (with_reducible refine LeO.bind ?_ (fun _ => ?_))
   | exact ih0 _ _
   | exact ih1 _ _ _ _ _ _ _ _
   | exact ih2 _ _ _ _ _ _ _ _
   | exact ih3 _ _ _ _ _ _ _
   | exact ih4 _ _ _ _ _ _
   | exact ih5 _ _ _ _ _ _ _ _
   | exact ih6 _ _ _ _ _ _ _
   | exact ih7 _ _ _
   | exact impl_SecFlush.mono _ _ _
   | exact laws_eqSecDisk.mono _ _ _ _ _
   | exact laws_heldSecDisk.mono _ _ _ _
   | exact laws_markSecDisk.mono _ _ _ _
   | exact laws_szSecDisk.mono _ _ _ _
   | exact laws_toSecDisk.mono _ _ _
   | exact spec_SecFlush.mono _ _ _
   | exact LeO.none _
   | refine LeO.ite ?_ ?_
   | refine LeO.bind ?_ (fun _ => ?_)
  ·intro y0 y1 y2
   unfold laws_FnExactSecFlush.j7
   repeat' first
   | (with_reducible exact ih0 _ _)
   | (with_reducible exact ih1 _ _ _ _ _ _ _ _)
   | (with_reducible exact ih2 _ _ _ _ _ _ _ _)
   | (with_reducible exact ih3 _ _ _ _ _ _ _)
   | (with_reducible exact ih4 _ _ _ _ _ _)
   | (with_reducible exact ih5 _ _ _ _ _ _ _ _)
   | (with_reducible exact ih6 _ _ _ _ _ _ _)
   | (with_reducible exact ih7 _ _ _)
   | (with_reducible exact impl_SecFlush.mono _ _ _)
   | (with_reducible exact laws_eqSecDisk.mono _ _ _ _ _)
   | (with_reducible exact laws_heldSecDisk.mono _ _ _ _)
   | (with_reducible exact laws_markSecDisk.mono _ _ _ _)
   | (with_reducible exact laws_szSecDisk.mono _ _ _ _)
   | (with_reducible exact laws_toSecDisk.mono _ _ _)
   | (with_reducible exact spec_SecFlush.mono _ _ _)
   | (with_reducible exact LeO.refl _)
   | (with_reducible exact LeO.none _)
   | (with_reducible refine LeO.ite ?_ ?_)
   | (with_reducible refine LeO.bind ?_ (fun _ => ?_))
   | exact ih0 _ _
   | exact ih1 _ _ _ _ _ _ _ _
   | exact ih2 _ _ _ _ _ _ _ _
   | exact ih3 _ _ _ _ _ _ _
   | exact ih4 _ _ _ _ _ _
   | exact ih5 _ _ _ _ _ _ _ _
   | exact ih6 _ _ _ _ _ _ _
   | exact ih7 _ _ _
   | exact impl_SecFlush.mono _ _ _
   | exact laws_eqSecDisk.mono _ _ _ _ _
   | exact laws_heldSecDisk.mono _ _ _ _
   | exact laws_markSecDisk.mono _ _ _ _
   | exact laws_szSecDisk.mono _ _ _ _
   | exact laws_toSecDisk.mono _ _ _
   | exact spec_SecFlush.mono _ _ _
   | exact LeO.none _
   | refine LeO.ite ?_ ?_
   | refine LeO.bind ?_ (fun _ => ?_)
theorem laws_FnExactSecFlush.mono : ∀ a0 a1 k, LeO (laws_FnExactSecFlush.f k a0 a1) (laws_FnExactSecFlush.f (k + 1) a0 a1) := by
 intro a0 a1 k
 obtain ⟨ih0, ih1, ih2, ih3, ih4, ih5, ih6, ih7⟩ := laws_FnExactSecFlush.mono_l k
 unfold laws_FnExactSecFlush.f
 repeat' first
   | (with_reducible exact ih0 _ _)
   | (with_reducible exact ih1 _ _ _ _ _ _ _ _)
   | (with_reducible exact ih2 _ _ _ _ _ _ _ _)
   | (with_reducible exact ih3 _ _ _ _ _ _ _)
   | (with_reducible exact ih4 _ _ _ _ _ _)
   | (with_reducible exact ih5 _ _ _ _ _ _ _ _)
   | (with_reducible exact ih6 _ _ _ _ _ _ _)
   | (with_reducible exact ih7 _ _ _)
   | (with_reducible exact impl_SecFlush.mono _ _ _)
   | (with_reducible exact laws_eqSecDisk.mono _ _ _ _ _)
   | (with_reducible exact laws_heldSecDisk.mono _ _ _ _)
   | (with_reducible exact laws_markSecDisk.mono _ _ _ _)
   | (with_reducible exact laws_szSecDisk.mono _ _ _ _)
   | (with_reducible exact laws_toSecDisk.mono _ _ _)
   | (with_reducible exact spec_SecFlush.mono _ _ _)
   | (with_reducible exact LeO.refl _)
   | (with_reducible exact LeO.none _)
   | (with_reducible refine LeO.ite ?_ ?_)
   | (with_reducible refine LeO.bind ?_ (fun _ => ?_))
   | exact ih0 _ _
   | exact ih1 _ _ _ _ _ _ _ _
   | exact ih2 _ _ _ _ _ _ _ _
   | exact ih3 _ _ _ _ _ _ _
   | exact ih4 _ _ _ _ _ _
   | exact ih5 _ _ _ _ _ _ _ _
   | exact ih6 _ _ _ _ _ _ _
   | exact ih7 _ _ _
   | exact impl_SecFlush.mono _ _ _
   | exact laws_eqSecDisk.mono _ _ _ _ _
   | exact laws_heldSecDisk.mono _ _ _ _
   | exact laws_markSecDisk.mono _ _ _ _
   | exact laws_szSecDisk.mono _ _ _ _
   | exact laws_toSecDisk.mono _ _ _
   | exact spec_SecFlush.mono _ _ _
   | exact LeO.none _
   | refine LeO.ite ?_ ?_
   | refine LeO.bind ?_ (fun _ => ?_)
set_option maxHeartbeats 8000000 in
set_option maxRecDepth 100000 in
theorem laws_FnExactSecFlush.calls (k : Nat) (A0_0 : Option Addr) (c0_0 : Nat) (l0_0 : List ByteArray) (A0_1 : Option Addr) (c0_1 : Nat) (l0_1 : List (S79)) (r : Bool) (w : World) (hr0_0 : Kd.C Kd.string w A0_0 l0_0.length l0_0) (hc0_0 : l0_0.length ≤ c0_0) (hr0_1 : Kd.C k79 w A0_1 l0_1.length l0_1) (hc0_1 : l0_1.length ≤ c0_1) (h : laws_FnExactSecFlush.f k l0_0 l0_1 = some r) :
  Calls Try.prog 12 #[.agg #[.slice A0_0 l0_0.length c0_0, .slice A0_1 l0_1.length c0_1]] w fun e w' => e = .returned (.bool r) ∧ Below w.heap.size w w' := by
 have hu34 := Try.underlying34
 have hu26 := Try.underlying26
 have HR0_0 := Aside0.mk hr0_0
 have HC0_0 := Aside0.mk hc0_0
 clear hr0_0 hc0_0
 have HR0_1 := Aside0.mk hr0_1
 have HC0_1 := Aside0.mk hc0_1
 clear hr0_1 hc0_1
 have HB := Aside0.mk (Below.refl w.heap.size w)
 have H : ((laws_szSecDisk.f k l0_0 l0_1 1048576).bind fun t760 => (if t760 < 0 then (some true) else (laws_FnExactSecFlush.j0 k l0_0 l0_1))) = some r := h
 clear h
 replace H := Option.bind_eq_some_iff.mp H
 obtain ⟨t760, A20, H⟩ := H
 replace H : (if t760 < 0 then (some true) else (laws_FnExactSecFlush.j0 k l0_0 l0_1)) = some r := H
 have A2 := Aside0.mk A20
 clear A20
 have HC3 := Aside0.mk H
 clear H
 go_enter Try.func12, Try.ntmps12
 go_upto_if 15 with (first | ((with_reducible refine gate_dst (N := 1) rfl ?_); refine box_event ?hg (N := 1) ?hd (cs := #[.slice A0_0 l0_0.length c0_0, .slice A0_1 l0_1.length c0_1]) (t := 34) ?hr ?_; (case hd => rfl); (case hg => rfl); (case hr => first | (go_simp; done) | (go_simp; rfl)); intro gb759 hg w4 hbox hb; have n0_ := Aside0.mk (below_step (pB HB.out) hb); have n1_ := Aside0.mk (hbox); have n2_ := Aside0.mk ((by rw [hg]; exact (below_size (pB HB.out)) : w.heap.size ≤ gb759)); have n3_ := Aside0.mk ((by rw [hg]; exact (below_size (pB HB.out)) : w.heap.size ≤ gb759)); clear HB; have HB := n0_; have BK759 := n1_; have GW759 := n2_; have GE759 := n3_; clear n0_ n1_ n2_ n3_; clear hb hbox hg; have hcz5_0 : w4.cell? ⟨gb759, 0, none⟩ = some (.slice A0_0 l0_0.length c0_0) := (blk_cell BK759.out 0).trans rfl; have hcz5_1 : w4.cell? ⟨gb759, 1, none⟩ = some (.slice A0_1 l0_1.length c0_1) := (blk_cell BK759.out 1).trans rfl; have hfz5_0 := blk_frozen BK759.out 0; have hfz5_1 := blk_frozen BK759.out 1) | ((with_reducible refine gate_callee (f := 22) rfl ?_); refine goesL_ (some 13) rfl rfl Try.func22 (by kernel_rfl) rfl #[.agg #[.slice A0_0 l0_0.length c0_0, .slice A0_1 l0_1.length c0_1], .int .i64 1048576] rfl bM ?_; (with_reducible refine (laws_szSecDisk.calls k _ _ l0_0 _ _ l0_1 1048576 t760 _ ?side1 ?side2 ?side3 ?side4 A2.out).mono ?_); (case side1 => repeat (first | exact (Kd.C_below HR0_0.out HB.out) | (with_reducible refine Kd.C_alloc ?_ _) | (with_reducible refine Kd.C_drewN ?_ _) | (with_reducible refine Kd.C_drew ?_))); (case side2 => exact HC0_0.out); (case side3 => repeat (first | exact (Kd.C_below HR0_1.out HB.out) | (with_reducible refine Kd.C_alloc ?_ _) | (with_reducible refine Kd.C_drewN ?_ _) | (with_reducible refine Kd.C_drew ?_))); (case side4 => exact HC0_1.out); rintro e w6 ⟨rfl, hb⟩; refine ⟨_, rfl, ?_⟩; have n0_ := Aside0.mk (blk_below (g := gb759) (o := .cells #[.slice A0_0 l0_0.length c0_0, .slice A0_1 l0_1.length c0_1] 34 (0, 0)) (pK BK759.out) hb); have n1_ := Aside0.mk (below_step (by repeat (first | (with_reducible first | exact HB.out | apply below_alloc | apply pw_below_drewN | apply below_drew1 | refine below_set ?_ GE759.out) | exact HB.out)) hb); clear BK759; clear HB; have BK759 := n0_; have HB := n1_; clear n0_ n1_; (try clear hb); (try clear hb2); (try clear hk); (try clear hi)))
 (try simp only [Act.put, List.setIfInBounds_toArray, List.set_cons_zero, List.set_cons_succ])
 go_cut [] (fun wc => ∃ (kq : Nat), Aside0 (laws_FnExactSecFlush.j0 kq l0_0 l0_1 = some r) ∧ Aside0 (kq ≤ k) ∧ Aside0 (wc.heap[gb759]? = some (.cells #[(.slice A0_0 l0_0.length c0_0), (.slice A0_1 l0_1.length c0_1)] 34 (0, 0))) ∧ Aside0 (Below w.heap.size w wc))
 case first =>
  have H := HC3.out
  clear HC3
  by_cases c7 : t760 < 0
  ·rw [if_pos c7] at H
   have c7b0 : decide (t760 < 0) = true := decide_eq_true c7
   clear c7
   (first | rw [c7b0] | (simp only [i64_w, i32_w]; rw [c7b0]) | skip)
   obtain rfl := Option.some.inj H
   go_wp2
   go_ret
   exact ⟨by first | rfl | (simp [errW_none, errW_some] <;> rfl) | (simp [*, errW_none, errW_some] <;> rfl), by repeat (first | (with_reducible first | exact HB.out | apply below_alloc | apply pw_below_drewN | apply below_drew1 | refine below_set ?_ GE759.out) | exact HB.out)⟩
  ·rw [if_neg c7] at H
   have c7b0 : decide (t760 < 0) = false := decide_eq_false c7
   clear c7
   (first | rw [c7b0] | (simp only [i64_w, i32_w]; rw [c7b0]) | skip)
   have H' := Aside0.mk H
   clear H
   go_wp2
   go_meet
   case rel => exact ⟨_, H', ⟨by first | omega | exact Nat.le_refl _⟩, ⟨pK BK759.out⟩, ⟨by repeat (first | (with_reducible first | exact HB.out | apply below_alloc | apply pw_below_drewN | apply below_drew1 | refine below_set ?_ GE759.out) | exact HB.out)⟩⟩
 case rest =>
  clear HC3
  try clear c1
  try clear c2
  try clear p2
  try clear c7
  try clear c7b0
  try clear hcz5_0
  try clear hcz5_1
  try clear hfz5_0
  try clear hfz5_1
  obtain ⟨kq, HA, HJ2, BK759, HB⟩ := hcut
  cases kq with
  | zero => exact absurd HA.out (by simp [laws_FnExactSecFlush.j0])
  | succ kj2 =>
   have H := HA.out
   clear HA
   simp only [laws_FnExactSecFlush.j0] at H
   replace H := Option.bind_eq_some_iff.mp H
   obtain ⟨⟨t761, t764⟩, A80, H⟩ := H
   replace H : ((spec_SecFlush.f kj2 t761 t764).bind fun bt767 => ((laws_toSecDisk.f kj2 l0_0 l0_1).bind fun bt774 => ((impl_SecFlush.f kj2 bt774.1 bt774.2).bind fun bt781 => ((laws_eqSecDisk.f kj2 bt781.1 bt781.2 bt767.1 bt767.2).bind fun t788 => (if t788 = true then (laws_FnExactSecFlush.j1 kj2 l0_0 l0_1 bt767.1 bt767.2 bt774.1 bt774.2 bt781.1 bt781.2) else (some false)))))) = some r := H
   have A8 := Aside0.mk A80
   clear A80
   replace H := Option.bind_eq_some_iff.mp H
   obtain ⟨⟨t767, t770⟩, A90, H⟩ := H
   replace H : ((laws_toSecDisk.f kj2 l0_0 l0_1).bind fun bt774 => ((impl_SecFlush.f kj2 bt774.1 bt774.2).bind fun bt781 => ((laws_eqSecDisk.f kj2 bt781.1 bt781.2 t767 t770).bind fun t788 => (if t788 = true then (laws_FnExactSecFlush.j1 kj2 l0_0 l0_1 t767 t770 bt774.1 bt774.2 bt781.1 bt781.2) else (some false))))) = some r := H
   have A9 := Aside0.mk A90
   clear A90
   replace H := Option.bind_eq_some_iff.mp H
   obtain ⟨⟨t774, t777⟩, A100, H⟩ := H
   replace H : ((impl_SecFlush.f kj2 t774 t777).bind fun bt781 => ((laws_eqSecDisk.f kj2 bt781.1 bt781.2 t767 t770).bind fun t788 => (if t788 = true then (laws_FnExactSecFlush.j1 kj2 l0_0 l0_1 t767 t770 t774 t777 bt781.1 bt781.2) else (some false)))) = some r := H
   have A10 := Aside0.mk A100
   clear A100
   replace H := Option.bind_eq_some_iff.mp H
   obtain ⟨⟨t781, t784⟩, A110, H⟩ := H
   replace H : ((laws_eqSecDisk.f kj2 t781 t784 t767 t770).bind fun t788 => (if t788 = true then (laws_FnExactSecFlush.j1 kj2 l0_0 l0_1 t767 t770 t774 t777 t781 t784) else (some false))) = some r := H
   have A11 := Aside0.mk A110
   clear A110
   replace H := Option.bind_eq_some_iff.mp H
   obtain ⟨t788, A120, H⟩ := H
   replace H : (if t788 = true then (laws_FnExactSecFlush.j1 kj2 l0_0 l0_1 t767 t770 t774 t777 t781 t784) else (some false)) = some r := H
   have A12 := Aside0.mk A120
   clear A120
   have HC13 := Aside0.mk H
   clear H
   have hcz14_0 : wc.cell? ⟨gb759, 0, none⟩ = some (.slice A0_0 l0_0.length c0_0) := (blk_cell BK759.out 0).trans rfl
   have hcz14_1 : wc.cell? ⟨gb759, 1, none⟩ = some (.slice A0_1 l0_1.length c0_1) := (blk_cell BK759.out 1).trans rfl
   have hfz14_0 := blk_frozen BK759.out 0
   have hfz14_1 := blk_frozen BK759.out 1
   go_upto_if 26 with (first | ((with_reducible refine gate_callee (f := 24) rfl ?_); refine goesL_ (some 17) rfl rfl Try.func24 (by kernel_rfl) rfl #[.agg #[.slice A0_0 l0_0.length c0_0, .slice A0_1 l0_1.length c0_1]] rfl bM ?_; (with_reducible refine (laws_toSecDisk.calls kj2 _ _ l0_0 _ _ l0_1 t761 t764 _ ?side1 ?side2 ?side3 ?side4 A8.out).mono ?_); (case side1 => repeat (first | exact (Kd.C_below HR0_0.out HB.out) | (with_reducible refine Kd.C_alloc ?_ _) | (with_reducible refine Kd.C_drewN ?_ _) | (with_reducible refine Kd.C_drew ?_))); (case side2 => exact HC0_0.out); (case side3 => repeat (first | exact (Kd.C_below HR0_1.out HB.out) | (with_reducible refine Kd.C_alloc ?_ _) | (with_reducible refine Kd.C_drewN ?_ _) | (with_reducible refine Kd.C_drew ?_))); (case side4 => exact HC0_1.out); rintro e w15 ⟨v762, v765, rfl, ho0, ho1, hb⟩; refine ⟨_, rfl, ?_⟩; have n0_ := Aside0.mk (Kd.R_lower ho0 (below_size (by repeat (first | (with_reducible first | exact HB.out | apply below_alloc | apply pw_below_drewN | apply below_drew1 | refine below_set ?_ GE759.out) | exact HB.out)))); have n1_ := Aside0.mk (Kd.R_lower ho1 (below_size (by repeat (first | (with_reducible first | exact HB.out | apply below_alloc | apply pw_below_drewN | apply below_drew1 | refine below_set ?_ GE759.out) | exact HB.out)))); have n2_ := Aside0.mk (blk_below (g := gb759) (o := .cells #[.slice A0_0 l0_0.length c0_0, .slice A0_1 l0_1.length c0_1] 34 (0, 0)) (pK BK759.out) hb); have n3_ := Aside0.mk (below_step (by repeat (first | (with_reducible first | exact HB.out | apply below_alloc | apply pw_below_drewN | apply below_drew1 | refine below_set ?_ GE759.out) | exact HB.out)) hb); clear BK759; clear HB; have HO763 := n0_; have HO766 := n1_; have BK759 := n2_; have HB := n3_; clear n0_ n1_ n2_ n3_; (try clear hb); (try clear hb2); (try clear hk); (try clear hi); (try clear ho0); (try clear ho1); obtain ⟨Ao16, co16, eo16⟩ := Kd.R_slice HO763.out; subst eo16; obtain ⟨Ao17, co17, eo17⟩ := Kd.R_slice HO766.out; subst eo17) | ((with_reducible refine gate_callee (f := 37) rfl ?_); refine goesL_ (some 18) rfl rfl Try.func37 (by kernel_rfl) rfl #[.agg #[.slice Ao16 t761.length co16, .slice Ao17 t764.length co17]] rfl bM ?_; (with_reducible refine (spec_SecFlush.calls kj2 _ _ t761 _ _ t764 t767 t770 _ ?side1 ?side2 ?side3 ?side4 A9.out).mono ?_); (case side1 => exact pC (Kd.R_reads' HO763.out).2.2); (case side2 => exact (Kd.R_reads' HO763.out).2.1); (case side3 => exact pC (Kd.R_reads' HO766.out).2.2); (case side4 => exact (Kd.R_reads' HO766.out).2.1); rintro e w18 ⟨v768, v771, rfl, ho0, ho1, hb⟩; refine ⟨_, rfl, ?_⟩; have n0_ := Aside0.mk (Kd.R_elder' (pR HO763.out) (Kd.R_base ho0) hb); have n1_ := Aside0.mk (Kd.R_elder' (pR HO766.out) (Kd.R_base ho1) hb); have n2_ := Aside0.mk (Kd.R_lower (Kd.R_new' ho0 (Kd.R_lt (pR HO763.out))) (below_size (by repeat (first | (with_reducible first | exact HB.out | apply below_alloc | apply pw_below_drewN | apply below_drew1 | refine below_set ?_ GE759.out) | exact HB.out)))); have n3_ := Aside0.mk (Kd.R_lower (Kd.R_new' ho1 (Kd.R_lt (pR HO766.out))) (below_size (by repeat (first | (with_reducible first | exact HB.out | apply below_alloc | apply pw_below_drewN | apply below_drew1 | refine below_set ?_ GE759.out) | exact HB.out)))); have n4_ := Aside0.mk (blk_below (g := gb759) (o := .cells #[.slice A0_0 l0_0.length c0_0, .slice A0_1 l0_1.length c0_1] 34 (0, 0)) (pK BK759.out) hb); have n5_ := Aside0.mk (below_step (by repeat (first | (with_reducible first | exact HB.out | apply below_alloc | apply pw_below_drewN | apply below_drew1 | refine below_set ?_ GE759.out) | exact HB.out)) hb); clear HO763; clear HO766; clear BK759; clear HB; have HO763 := n0_; have HO766 := n1_; have HO769 := n2_; have HO772 := n3_; have BK759 := n4_; have HB := n5_; clear n0_ n1_ n2_ n3_ n4_ n5_; (try clear hb); (try clear hb2); (try clear hk); (try clear hi); (try clear ho0); (try clear ho1)) | ((with_reducible refine gate_dst (N := 4) rfl ?_); refine box_event ?hg (N := 4) ?hd (cs := #[.slice none 0 0, .slice none 0 0]) (t := 26) ?hr ?_; (case hd => rfl); (case hg => rfl); (case hr => first | (go_simp; done) | (go_simp; rfl)); intro gb773 hg w19 hbox hb; have n0_ := Aside0.mk (Kd.R_below (pR HO763.out) hb); have n1_ := Aside0.mk (Kd.R_below (pR HO766.out) hb); have n2_ := Aside0.mk (Kd.R_below (pR HO769.out) hb); have n3_ := Aside0.mk (Kd.R_below (pR HO772.out) hb); have n4_ := Aside0.mk (blk_below (g := gb759) (o := .cells #[.slice A0_0 l0_0.length c0_0, .slice A0_1 l0_1.length c0_1] 34 (0, 0)) (pK BK759.out) hb); have n5_ := Aside0.mk (below_step (by repeat (first | (with_reducible first | exact HB.out | apply below_alloc | apply pw_below_drewN | apply below_drew1 | refine below_set ?_ GE759.out) | exact HB.out)) hb); have n6_ := Aside0.mk (hbox); have n7_ := Aside0.mk ((by rw [hg]; exact (below_size (by repeat (first | (with_reducible first | exact HB.out | apply below_alloc | apply pw_below_drewN | apply below_drew1 | refine below_set ?_ GE759.out) | exact HB.out))) : w.heap.size ≤ gb773)); have n8_ := Aside0.mk ((by rw [hg]; exact (below_size (by repeat (first | (with_reducible first | exact HB.out | apply below_alloc | apply pw_below_drewN | apply below_drew1 | refine below_set ?_ GE759.out) | exact HB.out))) : w.heap.size ≤ gb773)); have n9_ := Aside0.mk ((by rw [hg]; exact Nat.ne_of_lt (blk_lt (g := gb759) (o := .cells #[.slice A0_0 l0_0.length c0_0, .slice A0_1 l0_1.length c0_1] 34 (0, 0)) (pK BK759.out)) : gb759 ≠ gb773)); have n10_ := Aside0.mk ((by rw [hg]; exact Nat.ne_of_gt (blk_lt (g := gb759) (o := .cells #[.slice A0_0 l0_0.length c0_0, .slice A0_1 l0_1.length c0_1] 34 (0, 0)) (pK BK759.out)) : gb773 ≠ gb759)); clear HO763; clear HO766; clear HO769; clear HO772; clear BK759; clear HB; have HO763 := n0_; have HO766 := n1_; have HO769 := n2_; have HO772 := n3_; have BK759 := n4_; have HB := n5_; have BK773 := n6_; have GW773 := n7_; have GE773 := n8_; have NB759_773 := n9_; have NB773_759 := n10_; clear n0_ n1_ n2_ n3_ n4_ n5_ n6_ n7_ n8_ n9_ n10_; clear hb hbox hg; obtain ⟨Ao20, co20, eo20⟩ := Kd.R_slice HO769.out; subst eo20; have hnb21 := NB773_759.out; have hnc21 := NB759_773.out; have hcz22_0 : w19.cell? ⟨gb773, 0, none⟩ = some (.slice none 0 0) := (blk_cell BK773.out 0).trans rfl; have hcz22_1 : w19.cell? ⟨gb773, 1, none⟩ = some (.slice none 0 0) := (blk_cell BK773.out 1).trans rfl; have hfz22_0 := blk_frozen BK773.out 0; have hfz22_1 := blk_frozen BK773.out 1; obtain ⟨Ao23, co23, eo23⟩ := Kd.R_slice HO772.out; subst eo23; have hcz24_0 : w19.cell? ⟨gb759, 0, none⟩ = some (.slice A0_0 l0_0.length c0_0) := (blk_cell BK759.out 0).trans rfl; have hcz24_1 : w19.cell? ⟨gb759, 1, none⟩ = some (.slice A0_1 l0_1.length c0_1) := (blk_cell BK759.out 1).trans rfl; have hfz24_0 := blk_frozen BK759.out 0; have hfz24_1 := blk_frozen BK759.out 1) | ((with_reducible refine gate_callee (f := 24) rfl ?_); refine goesL_ (some 20) rfl rfl Try.func24 (by kernel_rfl) rfl #[.agg #[.slice A0_0 l0_0.length c0_0, .slice A0_1 l0_1.length c0_1]] rfl bM ?_; (with_reducible refine (laws_toSecDisk.calls kj2 _ _ l0_0 _ _ l0_1 t774 t777 _ ?side1 ?side2 ?side3 ?side4 A10.out).mono ?_); (case side1 => exact Kd.C_below HR0_0.out (by repeat (first | (with_reducible first | exact HB.out | apply below_alloc | apply pw_below_drewN | apply below_drew1 | refine below_set ?_ GE759.out | refine below_set ?_ GE773.out) | exact HB.out))); (case side2 => exact HC0_0.out); (case side3 => exact Kd.C_below HR0_1.out (by repeat (first | (with_reducible first | exact HB.out | apply below_alloc | apply pw_below_drewN | apply below_drew1 | refine below_set ?_ GE759.out | refine below_set ?_ GE773.out) | exact HB.out))); (case side4 => exact HC0_1.out); rintro e w25 ⟨v775, v778, rfl, ho0, ho1, hb⟩; refine ⟨_, rfl, ?_⟩; have n0_ := Aside0.mk (Kd.R_elder' (pR (Kd.R_mono (Kd.R_far (p := ⟨gb773, 1, none⟩) (Kd.R_far (p := ⟨gb773, 0, none⟩) (Kd.R_types HO763.out BK773.out (by decide)) (fun _ hk => hk.2) (.slice Ao20 t767.length co20)) (fun _ hk => hk.2) (.slice Ao23 t770.length co23)) (fun _ h_ => h_.1))) (Kd.R_base ho0) hb); have n1_ := Aside0.mk (Kd.R_elder' (pR (Kd.R_mono (Kd.R_far (p := ⟨gb773, 1, none⟩) (Kd.R_far (p := ⟨gb773, 0, none⟩) (Kd.R_types HO766.out BK773.out (by decide)) (fun _ hk => hk.2) (.slice Ao20 t767.length co20)) (fun _ hk => hk.2) (.slice Ao23 t770.length co23)) (fun _ h_ => h_.1))) (Kd.R_base ho1) hb); have n2_ := Aside0.mk (Kd.R_elder' (pR (Kd.R_mono (Kd.R_far (p := ⟨gb773, 1, none⟩) (Kd.R_far (p := ⟨gb773, 0, none⟩) (Kd.R_types HO769.out BK773.out (by decide)) (fun _ hk => hk.2) (.slice Ao20 t767.length co20)) (fun _ hk => hk.2) (.slice Ao23 t770.length co23)) (fun _ h_ => h_.1))) (Kd.R_base ho0) hb); have n3_ := Aside0.mk (Kd.R_elder' (pR (Kd.R_mono (Kd.R_far (p := ⟨gb773, 1, none⟩) (Kd.R_far (p := ⟨gb773, 0, none⟩) (Kd.R_types HO772.out BK773.out (by decide)) (fun _ hk => hk.2) (.slice Ao20 t767.length co20)) (fun _ hk => hk.2) (.slice Ao23 t770.length co23)) (fun _ h_ => h_.1))) (Kd.R_base ho1) hb); have n4_ := Aside0.mk (Kd.R_lower (Kd.R_new' (Kd.R_new' ho0 (Kd.R_lt (pR (Kd.R_mono (Kd.R_far (p := ⟨gb773, 1, none⟩) (Kd.R_far (p := ⟨gb773, 0, none⟩) (Kd.R_types HO763.out BK773.out (by decide)) (fun _ hk => hk.2) (.slice Ao20 t767.length co20)) (fun _ hk => hk.2) (.slice Ao23 t770.length co23)) (fun _ h_ => h_.1))))) (Kd.R_lt (pR (Kd.R_mono (Kd.R_far (p := ⟨gb773, 1, none⟩) (Kd.R_far (p := ⟨gb773, 0, none⟩) (Kd.R_types HO769.out BK773.out (by decide)) (fun _ hk => hk.2) (.slice Ao20 t767.length co20)) (fun _ hk => hk.2) (.slice Ao23 t770.length co23)) (fun _ h_ => h_.1))))) (below_size (by repeat (first | (with_reducible first | exact HB.out | apply below_alloc | apply pw_below_drewN | apply below_drew1 | refine below_set ?_ GE759.out | refine below_set ?_ GE773.out) | exact HB.out)))); have n5_ := Aside0.mk (Kd.R_lower (Kd.R_new' (Kd.R_new' ho1 (Kd.R_lt (pR (Kd.R_mono (Kd.R_far (p := ⟨gb773, 1, none⟩) (Kd.R_far (p := ⟨gb773, 0, none⟩) (Kd.R_types HO766.out BK773.out (by decide)) (fun _ hk => hk.2) (.slice Ao20 t767.length co20)) (fun _ hk => hk.2) (.slice Ao23 t770.length co23)) (fun _ h_ => h_.1))))) (Kd.R_lt (pR (Kd.R_mono (Kd.R_far (p := ⟨gb773, 1, none⟩) (Kd.R_far (p := ⟨gb773, 0, none⟩) (Kd.R_types HO772.out BK773.out (by decide)) (fun _ hk => hk.2) (.slice Ao20 t767.length co20)) (fun _ hk => hk.2) (.slice Ao23 t770.length co23)) (fun _ h_ => h_.1))))) (below_size (by repeat (first | (with_reducible first | exact HB.out | apply below_alloc | apply pw_below_drewN | apply below_drew1 | refine below_set ?_ GE759.out | refine below_set ?_ GE773.out) | exact HB.out)))); have n6_ := Aside0.mk (blk_below (g := gb759) (o := .cells #[.slice A0_0 l0_0.length c0_0, .slice A0_1 l0_1.length c0_1] 34 (0, 0)) (by (with_reducible repeat (first | refine blk_drewN ?_ _ | refine blk_drew ?_ | refine blk_alloc ?_ _)); refine blk_far ?_ NB759_773.out _; (with_reducible repeat (first | refine blk_drewN ?_ _ | refine blk_drew ?_ | refine blk_alloc ?_ _)); refine blk_far ?_ NB759_773.out _; (with_reducible repeat (first | refine blk_drewN ?_ _ | refine blk_drew ?_ | refine blk_alloc ?_ _)); exact BK759.out) hb); have n7_ := Aside0.mk (blk_below (g := gb773) (o := .cells #[.slice Ao20 t767.length co20, .slice Ao23 t770.length co23] 26 (0, 0)) (by (with_reducible repeat (first | refine blk_drewN ?_ _ | refine blk_drew ?_ | refine blk_alloc ?_ _)); refine blk_put (cs := #[.slice Ao20 t767.length co20, .slice none 0 0]) ?_ 1 _ rfl; (with_reducible repeat (first | refine blk_drewN ?_ _ | refine blk_drew ?_ | refine blk_alloc ?_ _)); refine blk_put (cs := #[.slice none 0 0, .slice none 0 0]) ?_ 0 _ rfl; (with_reducible repeat (first | refine blk_drewN ?_ _ | refine blk_drew ?_ | refine blk_alloc ?_ _)); exact BK773.out) hb); have n8_ := Aside0.mk (below_step (by repeat (first | (with_reducible first | exact HB.out | apply below_alloc | apply pw_below_drewN | apply below_drew1 | refine below_set ?_ GE759.out | refine below_set ?_ GE773.out) | exact HB.out)) hb); clear HO763; clear HO766; clear HO769; clear HO772; clear BK759; clear BK773; clear HB; have HO763 := n0_; have HO766 := n1_; have HO769 := n2_; have HO772 := n3_; have HO776 := n4_; have HO779 := n5_; have BK759 := n6_; have BK773 := n7_; have HB := n8_; clear n0_ n1_ n2_ n3_ n4_ n5_ n6_ n7_ n8_; (try clear hb); (try clear hb2); (try clear hk); (try clear hi); (try clear ho0); (try clear ho1)) | ((with_reducible refine gate_dst (N := 5) rfl ?_); refine box_event ?hg (N := 5) ?hd (cs := #[.slice none 0 0, .slice none 0 0]) (t := 26) ?hr ?_; (case hd => rfl); (case hg => rfl); (case hr => first | (go_simp; done) | (go_simp; rfl)); intro gb780 hg w26 hbox hb; have n0_ := Aside0.mk (Kd.R_below (pR HO763.out) hb); have n1_ := Aside0.mk (Kd.R_below (pR HO766.out) hb); have n2_ := Aside0.mk (Kd.R_below (pR HO769.out) hb); have n3_ := Aside0.mk (Kd.R_below (pR HO772.out) hb); have n4_ := Aside0.mk (Kd.R_below (pR HO776.out) hb); have n5_ := Aside0.mk (Kd.R_below (pR HO779.out) hb); have n6_ := Aside0.mk (blk_below (g := gb759) (o := .cells #[.slice A0_0 l0_0.length c0_0, .slice A0_1 l0_1.length c0_1] 34 (0, 0)) (pK BK759.out) hb); have n7_ := Aside0.mk (blk_below (g := gb773) (o := .cells #[.slice Ao20 t767.length co20, .slice Ao23 t770.length co23] 26 (0, 0)) (pK BK773.out) hb); have n8_ := Aside0.mk (below_step (by repeat (first | (with_reducible first | exact HB.out | apply below_alloc | apply pw_below_drewN | apply below_drew1 | refine below_set ?_ GE759.out | refine below_set ?_ GE773.out) | exact HB.out)) hb); have n9_ := Aside0.mk (hbox); have n10_ := Aside0.mk ((by rw [hg]; exact (below_size (by repeat (first | (with_reducible first | exact HB.out | apply below_alloc | apply pw_below_drewN | apply below_drew1 | refine below_set ?_ GE759.out | refine below_set ?_ GE773.out) | exact HB.out))) : w.heap.size ≤ gb780)); have n11_ := Aside0.mk ((by rw [hg]; exact (below_size (by repeat (first | (with_reducible first | exact HB.out | apply below_alloc | apply pw_below_drewN | apply below_drew1 | refine below_set ?_ GE759.out | refine below_set ?_ GE773.out) | exact HB.out))) : w.heap.size ≤ gb780)); have n12_ := Aside0.mk ((by rw [hg]; exact Nat.ne_of_lt (blk_lt (g := gb759) (o := .cells #[.slice A0_0 l0_0.length c0_0, .slice A0_1 l0_1.length c0_1] 34 (0, 0)) (pK BK759.out)) : gb759 ≠ gb780)); have n13_ := Aside0.mk ((by rw [hg]; exact Nat.ne_of_gt (blk_lt (g := gb759) (o := .cells #[.slice A0_0 l0_0.length c0_0, .slice A0_1 l0_1.length c0_1] 34 (0, 0)) (pK BK759.out)) : gb780 ≠ gb759)); have n14_ := Aside0.mk ((by rw [hg]; exact Nat.ne_of_lt (blk_lt (g := gb773) (o := .cells #[.slice Ao20 t767.length co20, .slice Ao23 t770.length co23] 26 (0, 0)) (pK BK773.out)) : gb773 ≠ gb780)); have n15_ := Aside0.mk ((by rw [hg]; exact Nat.ne_of_gt (blk_lt (g := gb773) (o := .cells #[.slice Ao20 t767.length co20, .slice Ao23 t770.length co23] 26 (0, 0)) (pK BK773.out)) : gb780 ≠ gb773)); clear HO763; clear HO766; clear HO769; clear HO772; clear HO776; clear HO779; clear BK759; clear BK773; clear HB; have HO763 := n0_; have HO766 := n1_; have HO769 := n2_; have HO772 := n3_; have HO776 := n4_; have HO779 := n5_; have BK759 := n6_; have BK773 := n7_; have HB := n8_; have BK780 := n9_; have GW780 := n10_; have GE780 := n11_; have NB759_780 := n12_; have NB780_759 := n13_; have NB773_780 := n14_; have NB780_773 := n15_; clear n0_ n1_ n2_ n3_ n4_ n5_ n6_ n7_ n8_ n9_ n10_ n11_ n12_ n13_ n14_ n15_; clear hb hbox hg; obtain ⟨Ao27, co27, eo27⟩ := Kd.R_slice HO776.out; subst eo27; have hnb28 := NB780_759.out; have hnc28 := NB759_780.out; have hnb29 := NB780_773.out; have hnc29 := NB773_780.out; have hcz30_0 : w26.cell? ⟨gb780, 0, none⟩ = some (.slice none 0 0) := (blk_cell BK780.out 0).trans rfl; have hcz30_1 : w26.cell? ⟨gb780, 1, none⟩ = some (.slice none 0 0) := (blk_cell BK780.out 1).trans rfl; have hfz30_0 := blk_frozen BK780.out 0; have hfz30_1 := blk_frozen BK780.out 1; obtain ⟨Ao31, co31, eo31⟩ := Kd.R_slice HO779.out; subst eo31) | ((with_reducible refine gate_callee (f := 32) rfl ?_); refine goesL_ (some 22) rfl rfl Try.func32 (by kernel_rfl) rfl #[.agg #[.slice Ao27 t774.length co27, .slice Ao31 t777.length co31]] rfl bM ?_; (with_reducible refine (impl_SecFlush.calls kj2 _ _ t774 _ _ t777 t781 t784 _ ?side1 ?side2 ?side3 ?side4 A11.out).mono ?_); (case side1 => refine (Kd.R_reads' (e := 9) (base := w.heap.size) (ok := fun k_ => ((True ∧ some k_ ≠ (.slice Ao16 t761.length co16 : Value).ownBlock) ∧ some k_ ≠ (.slice Ao20 t767.length co20 : Value).ownBlock)) (n := t774.length) (c := co27) ?_).2.2; exact (pR (Kd.R_mono (Kd.R_far (p := ⟨gb780, 1, none⟩) (Kd.R_far (p := ⟨gb780, 0, none⟩) (Kd.R_types HO776.out BK780.out (by decide)) (fun _ hk => hk.2) (.slice Ao27 t774.length co27)) (fun _ hk => hk.2) (.slice Ao31 t777.length co31)) (fun _ h_ => h_.1)))); (case side2 => exact (Kd.R_reads' HO776.out).2.1); (case side3 => refine (Kd.R_reads' (e := 54) (base := w.heap.size) (ok := fun k_ => ((True ∧ some k_ ≠ (.slice Ao17 t764.length co17 : Value).ownBlock) ∧ some k_ ≠ (.slice Ao23 t770.length co23 : Value).ownBlock)) (n := t777.length) (c := co31) ?_).2.2; exact (pR (Kd.R_mono (Kd.R_far (p := ⟨gb780, 1, none⟩) (Kd.R_far (p := ⟨gb780, 0, none⟩) (Kd.R_types HO779.out BK780.out (by decide)) (fun _ hk => hk.2) (.slice Ao27 t774.length co27)) (fun _ hk => hk.2) (.slice Ao31 t777.length co31)) (fun _ h_ => h_.1)))); (case side4 => exact (Kd.R_reads' HO779.out).2.1); rintro e w32 ⟨v782, v785, rfl, ho0, ho1, hb⟩; refine ⟨_, rfl, ?_⟩; have n0_ := Aside0.mk (Kd.R_elder' (pR (Kd.R_mono (Kd.R_far (p := ⟨gb780, 1, none⟩) (Kd.R_far (p := ⟨gb780, 0, none⟩) (Kd.R_types HO763.out BK780.out (by decide)) (fun _ hk => hk.2) (.slice Ao27 t774.length co27)) (fun _ hk => hk.2) (.slice Ao31 t777.length co31)) (fun _ h_ => h_.1))) (Kd.R_base ho0) hb); have n1_ := Aside0.mk (Kd.R_elder' (pR (Kd.R_mono (Kd.R_far (p := ⟨gb780, 1, none⟩) (Kd.R_far (p := ⟨gb780, 0, none⟩) (Kd.R_types HO766.out BK780.out (by decide)) (fun _ hk => hk.2) (.slice Ao27 t774.length co27)) (fun _ hk => hk.2) (.slice Ao31 t777.length co31)) (fun _ h_ => h_.1))) (Kd.R_base ho1) hb); have n2_ := Aside0.mk (Kd.R_elder' (pR (Kd.R_mono (Kd.R_far (p := ⟨gb780, 1, none⟩) (Kd.R_far (p := ⟨gb780, 0, none⟩) (Kd.R_types HO769.out BK780.out (by decide)) (fun _ hk => hk.2) (.slice Ao27 t774.length co27)) (fun _ hk => hk.2) (.slice Ao31 t777.length co31)) (fun _ h_ => h_.1))) (Kd.R_base ho0) hb); have n3_ := Aside0.mk (Kd.R_elder' (pR (Kd.R_mono (Kd.R_far (p := ⟨gb780, 1, none⟩) (Kd.R_far (p := ⟨gb780, 0, none⟩) (Kd.R_types HO772.out BK780.out (by decide)) (fun _ hk => hk.2) (.slice Ao27 t774.length co27)) (fun _ hk => hk.2) (.slice Ao31 t777.length co31)) (fun _ h_ => h_.1))) (Kd.R_base ho1) hb); have n4_ := Aside0.mk (Kd.R_elder' (pR (Kd.R_mono (Kd.R_far (p := ⟨gb780, 1, none⟩) (Kd.R_far (p := ⟨gb780, 0, none⟩) (Kd.R_types HO776.out BK780.out (by decide)) (fun _ hk => hk.2) (.slice Ao27 t774.length co27)) (fun _ hk => hk.2) (.slice Ao31 t777.length co31)) (fun _ h_ => h_.1))) (Kd.R_base ho0) hb); have n5_ := Aside0.mk (Kd.R_elder' (pR (Kd.R_mono (Kd.R_far (p := ⟨gb780, 1, none⟩) (Kd.R_far (p := ⟨gb780, 0, none⟩) (Kd.R_types HO779.out BK780.out (by decide)) (fun _ hk => hk.2) (.slice Ao27 t774.length co27)) (fun _ hk => hk.2) (.slice Ao31 t777.length co31)) (fun _ h_ => h_.1))) (Kd.R_base ho1) hb); have n6_ := Aside0.mk (Kd.R_lower (Kd.R_new' (Kd.R_new' (Kd.R_new' ho0 (Kd.R_lt (pR (Kd.R_mono (Kd.R_far (p := ⟨gb780, 1, none⟩) (Kd.R_far (p := ⟨gb780, 0, none⟩) (Kd.R_types HO763.out BK780.out (by decide)) (fun _ hk => hk.2) (.slice Ao27 t774.length co27)) (fun _ hk => hk.2) (.slice Ao31 t777.length co31)) (fun _ h_ => h_.1))))) (Kd.R_lt (pR (Kd.R_mono (Kd.R_far (p := ⟨gb780, 1, none⟩) (Kd.R_far (p := ⟨gb780, 0, none⟩) (Kd.R_types HO769.out BK780.out (by decide)) (fun _ hk => hk.2) (.slice Ao27 t774.length co27)) (fun _ hk => hk.2) (.slice Ao31 t777.length co31)) (fun _ h_ => h_.1))))) (Kd.R_lt (pR (Kd.R_mono (Kd.R_far (p := ⟨gb780, 1, none⟩) (Kd.R_far (p := ⟨gb780, 0, none⟩) (Kd.R_types HO776.out BK780.out (by decide)) (fun _ hk => hk.2) (.slice Ao27 t774.length co27)) (fun _ hk => hk.2) (.slice Ao31 t777.length co31)) (fun _ h_ => h_.1))))) (below_size (by repeat (first | (with_reducible first | exact HB.out | apply below_alloc | apply pw_below_drewN | apply below_drew1 | refine below_set ?_ GE759.out | refine below_set ?_ GE773.out | refine below_set ?_ GE780.out) | exact HB.out)))); have n7_ := Aside0.mk (Kd.R_lower (Kd.R_new' (Kd.R_new' (Kd.R_new' ho1 (Kd.R_lt (pR (Kd.R_mono (Kd.R_far (p := ⟨gb780, 1, none⟩) (Kd.R_far (p := ⟨gb780, 0, none⟩) (Kd.R_types HO766.out BK780.out (by decide)) (fun _ hk => hk.2) (.slice Ao27 t774.length co27)) (fun _ hk => hk.2) (.slice Ao31 t777.length co31)) (fun _ h_ => h_.1))))) (Kd.R_lt (pR (Kd.R_mono (Kd.R_far (p := ⟨gb780, 1, none⟩) (Kd.R_far (p := ⟨gb780, 0, none⟩) (Kd.R_types HO772.out BK780.out (by decide)) (fun _ hk => hk.2) (.slice Ao27 t774.length co27)) (fun _ hk => hk.2) (.slice Ao31 t777.length co31)) (fun _ h_ => h_.1))))) (Kd.R_lt (pR (Kd.R_mono (Kd.R_far (p := ⟨gb780, 1, none⟩) (Kd.R_far (p := ⟨gb780, 0, none⟩) (Kd.R_types HO779.out BK780.out (by decide)) (fun _ hk => hk.2) (.slice Ao27 t774.length co27)) (fun _ hk => hk.2) (.slice Ao31 t777.length co31)) (fun _ h_ => h_.1))))) (below_size (by repeat (first | (with_reducible first | exact HB.out | apply below_alloc | apply pw_below_drewN | apply below_drew1 | refine below_set ?_ GE759.out | refine below_set ?_ GE773.out | refine below_set ?_ GE780.out) | exact HB.out)))); have n8_ := Aside0.mk (blk_below (g := gb759) (o := .cells #[.slice A0_0 l0_0.length c0_0, .slice A0_1 l0_1.length c0_1] 34 (0, 0)) (by (with_reducible repeat (first | refine blk_drewN ?_ _ | refine blk_drew ?_ | refine blk_alloc ?_ _)); refine blk_far ?_ NB759_780.out _; (with_reducible repeat (first | refine blk_drewN ?_ _ | refine blk_drew ?_ | refine blk_alloc ?_ _)); refine blk_far ?_ NB759_780.out _; (with_reducible repeat (first | refine blk_drewN ?_ _ | refine blk_drew ?_ | refine blk_alloc ?_ _)); exact BK759.out) hb); have n9_ := Aside0.mk (blk_below (g := gb773) (o := .cells #[.slice Ao20 t767.length co20, .slice Ao23 t770.length co23] 26 (0, 0)) (by (with_reducible repeat (first | refine blk_drewN ?_ _ | refine blk_drew ?_ | refine blk_alloc ?_ _)); refine blk_far ?_ NB773_780.out _; (with_reducible repeat (first | refine blk_drewN ?_ _ | refine blk_drew ?_ | refine blk_alloc ?_ _)); refine blk_far ?_ NB773_780.out _; (with_reducible repeat (first | refine blk_drewN ?_ _ | refine blk_drew ?_ | refine blk_alloc ?_ _)); exact BK773.out) hb); have n10_ := Aside0.mk (blk_below (g := gb780) (o := .cells #[.slice Ao27 t774.length co27, .slice Ao31 t777.length co31] 26 (0, 0)) (by (with_reducible repeat (first | refine blk_drewN ?_ _ | refine blk_drew ?_ | refine blk_alloc ?_ _)); refine blk_put (cs := #[.slice Ao27 t774.length co27, .slice none 0 0]) ?_ 1 _ rfl; (with_reducible repeat (first | refine blk_drewN ?_ _ | refine blk_drew ?_ | refine blk_alloc ?_ _)); refine blk_put (cs := #[.slice none 0 0, .slice none 0 0]) ?_ 0 _ rfl; (with_reducible repeat (first | refine blk_drewN ?_ _ | refine blk_drew ?_ | refine blk_alloc ?_ _)); exact BK780.out) hb); have n11_ := Aside0.mk (below_step (by repeat (first | (with_reducible first | exact HB.out | apply below_alloc | apply pw_below_drewN | apply below_drew1 | refine below_set ?_ GE759.out | refine below_set ?_ GE773.out | refine below_set ?_ GE780.out) | exact HB.out)) hb); clear HO763; clear HO766; clear HO769; clear HO772; clear HO776; clear HO779; clear BK759; clear BK773; clear BK780; clear HB; have HO763 := n0_; have HO766 := n1_; have HO769 := n2_; have HO772 := n3_; have HO776 := n4_; have HO779 := n5_; have HO783 := n6_; have HO786 := n7_; have BK759 := n8_; have BK773 := n9_; have BK780 := n10_; have HB := n11_; clear n0_ n1_ n2_ n3_ n4_ n5_ n6_ n7_ n8_ n9_ n10_ n11_; (try clear hb); (try clear hb2); (try clear hk); (try clear hi); (try clear ho0); (try clear ho1)) | ((with_reducible refine gate_dst (N := 6) rfl ?_); refine box_event ?hg (N := 6) ?hd (cs := #[.slice none 0 0, .slice none 0 0]) (t := 26) ?hr ?_; (case hd => rfl); (case hg => rfl); (case hr => first | (go_simp; done) | (go_simp; rfl)); intro gb787 hg w33 hbox hb; have n0_ := Aside0.mk (Kd.R_below (pR HO763.out) hb); have n1_ := Aside0.mk (Kd.R_below (pR HO766.out) hb); have n2_ := Aside0.mk (Kd.R_below (pR HO769.out) hb); have n3_ := Aside0.mk (Kd.R_below (pR HO772.out) hb); have n4_ := Aside0.mk (Kd.R_below (pR HO776.out) hb); have n5_ := Aside0.mk (Kd.R_below (pR HO779.out) hb); have n6_ := Aside0.mk (Kd.R_below (pR HO783.out) hb); have n7_ := Aside0.mk (Kd.R_below (pR HO786.out) hb); have n8_ := Aside0.mk (blk_below (g := gb759) (o := .cells #[.slice A0_0 l0_0.length c0_0, .slice A0_1 l0_1.length c0_1] 34 (0, 0)) (pK BK759.out) hb); have n9_ := Aside0.mk (blk_below (g := gb773) (o := .cells #[.slice Ao20 t767.length co20, .slice Ao23 t770.length co23] 26 (0, 0)) (pK BK773.out) hb); have n10_ := Aside0.mk (blk_below (g := gb780) (o := .cells #[.slice Ao27 t774.length co27, .slice Ao31 t777.length co31] 26 (0, 0)) (pK BK780.out) hb); have n11_ := Aside0.mk (below_step (by repeat (first | (with_reducible first | exact HB.out | apply below_alloc | apply pw_below_drewN | apply below_drew1 | refine below_set ?_ GE759.out | refine below_set ?_ GE773.out | refine below_set ?_ GE780.out) | exact HB.out)) hb); have n12_ := Aside0.mk (hbox); have n13_ := Aside0.mk ((by rw [hg]; exact (below_size (by repeat (first | (with_reducible first | exact HB.out | apply below_alloc | apply pw_below_drewN | apply below_drew1 | refine below_set ?_ GE759.out | refine below_set ?_ GE773.out | refine below_set ?_ GE780.out) | exact HB.out))) : w.heap.size ≤ gb787)); have n14_ := Aside0.mk ((by rw [hg]; exact (below_size (by repeat (first | (with_reducible first | exact HB.out | apply below_alloc | apply pw_below_drewN | apply below_drew1 | refine below_set ?_ GE759.out | refine below_set ?_ GE773.out | refine below_set ?_ GE780.out) | exact HB.out))) : w.heap.size ≤ gb787)); have n15_ := Aside0.mk ((by rw [hg]; exact Nat.ne_of_lt (blk_lt (g := gb759) (o := .cells #[.slice A0_0 l0_0.length c0_0, .slice A0_1 l0_1.length c0_1] 34 (0, 0)) (pK BK759.out)) : gb759 ≠ gb787)); have n16_ := Aside0.mk ((by rw [hg]; exact Nat.ne_of_gt (blk_lt (g := gb759) (o := .cells #[.slice A0_0 l0_0.length c0_0, .slice A0_1 l0_1.length c0_1] 34 (0, 0)) (pK BK759.out)) : gb787 ≠ gb759)); have n17_ := Aside0.mk ((by rw [hg]; exact Nat.ne_of_lt (blk_lt (g := gb773) (o := .cells #[.slice Ao20 t767.length co20, .slice Ao23 t770.length co23] 26 (0, 0)) (pK BK773.out)) : gb773 ≠ gb787)); have n18_ := Aside0.mk ((by rw [hg]; exact Nat.ne_of_gt (blk_lt (g := gb773) (o := .cells #[.slice Ao20 t767.length co20, .slice Ao23 t770.length co23] 26 (0, 0)) (pK BK773.out)) : gb787 ≠ gb773)); have n19_ := Aside0.mk ((by rw [hg]; exact Nat.ne_of_lt (blk_lt (g := gb780) (o := .cells #[.slice Ao27 t774.length co27, .slice Ao31 t777.length co31] 26 (0, 0)) (pK BK780.out)) : gb780 ≠ gb787)); have n20_ := Aside0.mk ((by rw [hg]; exact Nat.ne_of_gt (blk_lt (g := gb780) (o := .cells #[.slice Ao27 t774.length co27, .slice Ao31 t777.length co31] 26 (0, 0)) (pK BK780.out)) : gb787 ≠ gb780)); clear HO763; clear HO766; clear HO769; clear HO772; clear HO776; clear HO779; clear HO783; clear HO786; clear BK759; clear BK773; clear BK780; clear HB; have HO763 := n0_; have HO766 := n1_; have HO769 := n2_; have HO772 := n3_; have HO776 := n4_; have HO779 := n5_; have HO783 := n6_; have HO786 := n7_; have BK759 := n8_; have BK773 := n9_; have BK780 := n10_; have HB := n11_; have BK787 := n12_; have GW787 := n13_; have GE787 := n14_; have NB759_787 := n15_; have NB787_759 := n16_; have NB773_787 := n17_; have NB787_773 := n18_; have NB780_787 := n19_; have NB787_780 := n20_; clear n0_ n1_ n2_ n3_ n4_ n5_ n6_ n7_ n8_ n9_ n10_ n11_ n12_ n13_ n14_ n15_ n16_ n17_ n18_ n19_ n20_; clear hb hbox hg; obtain ⟨Ao34, co34, eo34⟩ := Kd.R_slice HO783.out; subst eo34; have hnb35 := NB787_759.out; have hnc35 := NB759_787.out; have hnb36 := NB787_773.out; have hnc36 := NB773_787.out; have hnb37 := NB787_780.out; have hnc37 := NB780_787.out; have hcz38_0 : w33.cell? ⟨gb787, 0, none⟩ = some (.slice none 0 0) := (blk_cell BK787.out 0).trans rfl; have hcz38_1 : w33.cell? ⟨gb787, 1, none⟩ = some (.slice none 0 0) := (blk_cell BK787.out 1).trans rfl; have hfz38_0 := blk_frozen BK787.out 0; have hfz38_1 := blk_frozen BK787.out 1; obtain ⟨Ao39, co39, eo39⟩ := Kd.R_slice HO786.out; subst eo39; have hcz40_0 : w33.cell? ⟨gb773, 0, none⟩ = some (.slice Ao20 t767.length co20) := (blk_cell BK773.out 0).trans rfl; have hcz40_1 : w33.cell? ⟨gb773, 1, none⟩ = some (.slice Ao23 t770.length co23) := (blk_cell BK773.out 1).trans rfl; have hfz40_0 := blk_frozen BK773.out 0; have hfz40_1 := blk_frozen BK773.out 1) | ((with_reducible refine gate_callee (f := 17) rfl ?_); refine goesL_ (some 25) rfl rfl Try.func17 (by kernel_rfl) rfl #[.agg #[.slice Ao34 t781.length co34, .slice Ao39 t784.length co39], .agg #[.slice Ao20 t767.length co20, .slice Ao23 t770.length co23]] rfl bM ?_; (with_reducible refine (laws_eqSecDisk.calls kj2 _ _ t781 _ _ t784 _ _ t767 _ _ t770 t788 _ ?side1 ?side2 ?side3 ?side4 ?side5 ?side6 ?side7 ?side8 A12.out).mono ?_); (case side1 => refine (Kd.R_reads' (e := 9) (base := w.heap.size) (ok := fun k_ => (((True ∧ some k_ ≠ (.slice Ao16 t761.length co16 : Value).ownBlock) ∧ some k_ ≠ (.slice Ao20 t767.length co20 : Value).ownBlock) ∧ some k_ ≠ (.slice Ao27 t774.length co27 : Value).ownBlock)) (n := t781.length) (c := co34) ?_).2.2; exact (pR (Kd.R_mono (Kd.R_far (p := ⟨gb787, 1, none⟩) (Kd.R_far (p := ⟨gb787, 0, none⟩) (Kd.R_types HO783.out BK787.out (by decide)) (fun _ hk => hk.2) (.slice Ao34 t781.length co34)) (fun _ hk => hk.2) (.slice Ao39 t784.length co39)) (fun _ h_ => h_.1)))); (case side2 => exact (Kd.R_reads' HO783.out).2.1); (case side3 => refine (Kd.R_reads' (e := 54) (base := w.heap.size) (ok := fun k_ => (((True ∧ some k_ ≠ (.slice Ao17 t764.length co17 : Value).ownBlock) ∧ some k_ ≠ (.slice Ao23 t770.length co23 : Value).ownBlock) ∧ some k_ ≠ (.slice Ao31 t777.length co31 : Value).ownBlock)) (n := t784.length) (c := co39) ?_).2.2; exact (pR (Kd.R_mono (Kd.R_far (p := ⟨gb787, 1, none⟩) (Kd.R_far (p := ⟨gb787, 0, none⟩) (Kd.R_types HO786.out BK787.out (by decide)) (fun _ hk => hk.2) (.slice Ao34 t781.length co34)) (fun _ hk => hk.2) (.slice Ao39 t784.length co39)) (fun _ h_ => h_.1)))); (case side4 => exact (Kd.R_reads' HO786.out).2.1); (case side5 => refine (Kd.R_reads' (e := 9) (base := w.heap.size) (ok := fun k_ => (((True ∧ some k_ ≠ (.slice Ao16 t761.length co16 : Value).ownBlock) ∧ some k_ ≠ (.slice Ao27 t774.length co27 : Value).ownBlock) ∧ some k_ ≠ (.slice Ao34 t781.length co34 : Value).ownBlock)) (n := t767.length) (c := co20) ?_).2.2; exact (pR (Kd.R_mono (Kd.R_far (p := ⟨gb787, 1, none⟩) (Kd.R_far (p := ⟨gb787, 0, none⟩) (Kd.R_types HO769.out BK787.out (by decide)) (fun _ hk => hk.2) (.slice Ao34 t781.length co34)) (fun _ hk => hk.2) (.slice Ao39 t784.length co39)) (fun _ h_ => h_.1)))); (case side6 => exact (Kd.R_reads' HO769.out).2.1); (case side7 => refine (Kd.R_reads' (e := 54) (base := w.heap.size) (ok := fun k_ => (((True ∧ some k_ ≠ (.slice Ao17 t764.length co17 : Value).ownBlock) ∧ some k_ ≠ (.slice Ao31 t777.length co31 : Value).ownBlock) ∧ some k_ ≠ (.slice Ao39 t784.length co39 : Value).ownBlock)) (n := t770.length) (c := co23) ?_).2.2; exact (pR (Kd.R_mono (Kd.R_far (p := ⟨gb787, 1, none⟩) (Kd.R_far (p := ⟨gb787, 0, none⟩) (Kd.R_types HO772.out BK787.out (by decide)) (fun _ hk => hk.2) (.slice Ao34 t781.length co34)) (fun _ hk => hk.2) (.slice Ao39 t784.length co39)) (fun _ h_ => h_.1)))); (case side8 => exact (Kd.R_reads' HO772.out).2.1); rintro e w41 ⟨rfl, hb⟩; refine ⟨_, rfl, ?_⟩; have n0_ := Aside0.mk (Kd.R_below (pR (Kd.R_mono (Kd.R_far (p := ⟨gb787, 1, none⟩) (Kd.R_far (p := ⟨gb787, 0, none⟩) (Kd.R_types HO763.out BK787.out (by decide)) (fun _ hk => hk.2) (.slice Ao34 t781.length co34)) (fun _ hk => hk.2) (.slice Ao39 t784.length co39)) (fun _ h_ => h_.1))) hb); have n1_ := Aside0.mk (Kd.R_below (pR (Kd.R_mono (Kd.R_far (p := ⟨gb787, 1, none⟩) (Kd.R_far (p := ⟨gb787, 0, none⟩) (Kd.R_types HO766.out BK787.out (by decide)) (fun _ hk => hk.2) (.slice Ao34 t781.length co34)) (fun _ hk => hk.2) (.slice Ao39 t784.length co39)) (fun _ h_ => h_.1))) hb); have n2_ := Aside0.mk (Kd.R_below (pR (Kd.R_mono (Kd.R_far (p := ⟨gb787, 1, none⟩) (Kd.R_far (p := ⟨gb787, 0, none⟩) (Kd.R_types HO769.out BK787.out (by decide)) (fun _ hk => hk.2) (.slice Ao34 t781.length co34)) (fun _ hk => hk.2) (.slice Ao39 t784.length co39)) (fun _ h_ => h_.1))) hb); have n3_ := Aside0.mk (Kd.R_below (pR (Kd.R_mono (Kd.R_far (p := ⟨gb787, 1, none⟩) (Kd.R_far (p := ⟨gb787, 0, none⟩) (Kd.R_types HO772.out BK787.out (by decide)) (fun _ hk => hk.2) (.slice Ao34 t781.length co34)) (fun _ hk => hk.2) (.slice Ao39 t784.length co39)) (fun _ h_ => h_.1))) hb); have n4_ := Aside0.mk (Kd.R_below (pR (Kd.R_mono (Kd.R_far (p := ⟨gb787, 1, none⟩) (Kd.R_far (p := ⟨gb787, 0, none⟩) (Kd.R_types HO776.out BK787.out (by decide)) (fun _ hk => hk.2) (.slice Ao34 t781.length co34)) (fun _ hk => hk.2) (.slice Ao39 t784.length co39)) (fun _ h_ => h_.1))) hb); have n5_ := Aside0.mk (Kd.R_below (pR (Kd.R_mono (Kd.R_far (p := ⟨gb787, 1, none⟩) (Kd.R_far (p := ⟨gb787, 0, none⟩) (Kd.R_types HO779.out BK787.out (by decide)) (fun _ hk => hk.2) (.slice Ao34 t781.length co34)) (fun _ hk => hk.2) (.slice Ao39 t784.length co39)) (fun _ h_ => h_.1))) hb); have n6_ := Aside0.mk (Kd.R_below (pR (Kd.R_mono (Kd.R_far (p := ⟨gb787, 1, none⟩) (Kd.R_far (p := ⟨gb787, 0, none⟩) (Kd.R_types HO783.out BK787.out (by decide)) (fun _ hk => hk.2) (.slice Ao34 t781.length co34)) (fun _ hk => hk.2) (.slice Ao39 t784.length co39)) (fun _ h_ => h_.1))) hb); have n7_ := Aside0.mk (Kd.R_below (pR (Kd.R_mono (Kd.R_far (p := ⟨gb787, 1, none⟩) (Kd.R_far (p := ⟨gb787, 0, none⟩) (Kd.R_types HO786.out BK787.out (by decide)) (fun _ hk => hk.2) (.slice Ao34 t781.length co34)) (fun _ hk => hk.2) (.slice Ao39 t784.length co39)) (fun _ h_ => h_.1))) hb); have n8_ := Aside0.mk (blk_below (g := gb759) (o := .cells #[.slice A0_0 l0_0.length c0_0, .slice A0_1 l0_1.length c0_1] 34 (0, 0)) (by (with_reducible repeat (first | refine blk_drewN ?_ _ | refine blk_drew ?_ | refine blk_alloc ?_ _)); refine blk_far ?_ NB759_787.out _; (with_reducible repeat (first | refine blk_drewN ?_ _ | refine blk_drew ?_ | refine blk_alloc ?_ _)); refine blk_far ?_ NB759_787.out _; (with_reducible repeat (first | refine blk_drewN ?_ _ | refine blk_drew ?_ | refine blk_alloc ?_ _)); exact BK759.out) hb); have n9_ := Aside0.mk (blk_below (g := gb773) (o := .cells #[.slice Ao20 t767.length co20, .slice Ao23 t770.length co23] 26 (0, 0)) (by (with_reducible repeat (first | refine blk_drewN ?_ _ | refine blk_drew ?_ | refine blk_alloc ?_ _)); refine blk_far ?_ NB773_787.out _; (with_reducible repeat (first | refine blk_drewN ?_ _ | refine blk_drew ?_ | refine blk_alloc ?_ _)); refine blk_far ?_ NB773_787.out _; (with_reducible repeat (first | refine blk_drewN ?_ _ | refine blk_drew ?_ | refine blk_alloc ?_ _)); exact BK773.out) hb); have n10_ := Aside0.mk (blk_below (g := gb780) (o := .cells #[.slice Ao27 t774.length co27, .slice Ao31 t777.length co31] 26 (0, 0)) (by (with_reducible repeat (first | refine blk_drewN ?_ _ | refine blk_drew ?_ | refine blk_alloc ?_ _)); refine blk_far ?_ NB780_787.out _; (with_reducible repeat (first | refine blk_drewN ?_ _ | refine blk_drew ?_ | refine blk_alloc ?_ _)); refine blk_far ?_ NB780_787.out _; (with_reducible repeat (first | refine blk_drewN ?_ _ | refine blk_drew ?_ | refine blk_alloc ?_ _)); exact BK780.out) hb); have n11_ := Aside0.mk (blk_below (g := gb787) (o := .cells #[.slice Ao34 t781.length co34, .slice Ao39 t784.length co39] 26 (0, 0)) (by (with_reducible repeat (first | refine blk_drewN ?_ _ | refine blk_drew ?_ | refine blk_alloc ?_ _)); refine blk_put (cs := #[.slice Ao34 t781.length co34, .slice none 0 0]) ?_ 1 _ rfl; (with_reducible repeat (first | refine blk_drewN ?_ _ | refine blk_drew ?_ | refine blk_alloc ?_ _)); refine blk_put (cs := #[.slice none 0 0, .slice none 0 0]) ?_ 0 _ rfl; (with_reducible repeat (first | refine blk_drewN ?_ _ | refine blk_drew ?_ | refine blk_alloc ?_ _)); exact BK787.out) hb); have n12_ := Aside0.mk (below_step (by repeat (first | (with_reducible first | exact HB.out | apply below_alloc | apply pw_below_drewN | apply below_drew1 | refine below_set ?_ GE759.out | refine below_set ?_ GE773.out | refine below_set ?_ GE780.out | refine below_set ?_ GE787.out) | exact HB.out)) hb); clear HO763; clear HO766; clear HO769; clear HO772; clear HO776; clear HO779; clear HO783; clear HO786; clear BK759; clear BK773; clear BK780; clear BK787; clear HB; have HO763 := n0_; have HO766 := n1_; have HO769 := n2_; have HO772 := n3_; have HO776 := n4_; have HO779 := n5_; have HO783 := n6_; have HO786 := n7_; have BK759 := n8_; have BK773 := n9_; have BK780 := n10_; have BK787 := n11_; have HB := n12_; clear n0_ n1_ n2_ n3_ n4_ n5_ n6_ n7_ n8_ n9_ n10_ n11_ n12_; (try clear hb); (try clear hb2); (try clear hk); (try clear hi)))
   (try simp only [Act.put, List.setIfInBounds_toArray, List.set_cons_zero, List.set_cons_succ])
   go_cut [] (fun wc => ∃ (kq : Nat), Aside0 (laws_FnExactSecFlush.j1 kq l0_0 l0_1 t767 t770 t774 t777 t781 t784 = some r) ∧ Aside0 (kq ≤ kj2) ∧ Aside0 (Kd.R Kd.string 9 wc w.heap.size (fun k_ => some k_ ≠ ((.slice Ao27 t774.length co27) : Value).ownBlock ∧ some k_ ≠ ((.slice Ao34 t781.length co34) : Value).ownBlock) (.slice Ao20 t767.length co20) t767) ∧ Aside0 (Kd.R k54 54 wc w.heap.size (fun k_ => some k_ ≠ ((.slice Ao31 t777.length co31) : Value).ownBlock ∧ some k_ ≠ ((.slice Ao39 t784.length co39) : Value).ownBlock) (.slice Ao23 t770.length co23) t770) ∧ Aside0 (Kd.R Kd.string 9 wc w.heap.size (fun k_ => some k_ ≠ ((.slice Ao20 t767.length co20) : Value).ownBlock ∧ some k_ ≠ ((.slice Ao34 t781.length co34) : Value).ownBlock) (.slice Ao27 t774.length co27) t774) ∧ Aside0 (Kd.R k54 54 wc w.heap.size (fun k_ => some k_ ≠ ((.slice Ao23 t770.length co23) : Value).ownBlock ∧ some k_ ≠ ((.slice Ao39 t784.length co39) : Value).ownBlock) (.slice Ao31 t777.length co31) t777) ∧ Aside0 (Kd.R Kd.string 9 wc w.heap.size (fun k_ => some k_ ≠ ((.slice Ao20 t767.length co20) : Value).ownBlock ∧ some k_ ≠ ((.slice Ao27 t774.length co27) : Value).ownBlock) (.slice Ao34 t781.length co34) t781) ∧ Aside0 (Kd.R k54 54 wc w.heap.size (fun k_ => some k_ ≠ ((.slice Ao23 t770.length co23) : Value).ownBlock ∧ some k_ ≠ ((.slice Ao31 t777.length co31) : Value).ownBlock) (.slice Ao39 t784.length co39) t784) ∧ Aside0 (wc.heap[gb759]? = some (.cells #[(.slice A0_0 l0_0.length c0_0), (.slice A0_1 l0_1.length c0_1)] 34 (0, 0))) ∧ Aside0 (wc.heap[gb773]? = some (.cells #[(.slice Ao20 t767.length co20), (.slice Ao23 t770.length co23)] 26 (0, 0))) ∧ Aside0 (wc.heap[gb780]? = some (.cells #[(.slice Ao27 t774.length co27), (.slice Ao31 t777.length co31)] 26 (0, 0))) ∧ Aside0 (wc.heap[gb787]? = some (.cells #[(.slice Ao34 t781.length co34), (.slice Ao39 t784.length co39)] 26 (0, 0))) ∧ Aside0 (Below w.heap.size w wc))
   case first =>
    have H := HC13.out
    clear HC13
    by_cases c42 : t788 = true
    ·subst c42
     have H1 : (laws_FnExactSecFlush.j1 kj2 l0_0 l0_1 t767 t770 t774 t777 t781 t784) = some r := by rw [if_pos rfl] at H; exact H
     clear H
     have H := H1
     clear H1
     have H' := Aside0.mk H
     clear H
     go_wp2
     go_meet
     case rel => exact ⟨_, H', ⟨by have := HJ2.out; first | omega | exact Nat.le_refl _⟩, ⟨pR (Kd.R_mono HO769.out (fun _ hk => ⟨hk.1.2, hk.2⟩))⟩, ⟨pR (Kd.R_mono HO772.out (fun _ hk => ⟨hk.1.2, hk.2⟩))⟩, ⟨pR (Kd.R_mono HO776.out (fun _ hk => ⟨hk.1.2, hk.2⟩))⟩, ⟨pR (Kd.R_mono HO779.out (fun _ hk => ⟨hk.1.2, hk.2⟩))⟩, ⟨pR (Kd.R_mono HO783.out (fun _ hk => ⟨hk.1.2, hk.2⟩))⟩, ⟨pR (Kd.R_mono HO786.out (fun _ hk => ⟨hk.1.2, hk.2⟩))⟩, ⟨pK BK759.out⟩, ⟨pK BK773.out⟩, ⟨pK BK780.out⟩, ⟨pK BK787.out⟩, ⟨by repeat (first | (with_reducible first | exact HB.out | apply below_alloc | apply pw_below_drewN | apply below_drew1 | refine below_set ?_ GE759.out | refine below_set ?_ GE773.out | refine below_set ?_ GE780.out | refine below_set ?_ GE787.out) | exact HB.out)⟩⟩
    ·replace c42 := Bool.eq_false_iff.mpr c42
     subst c42
     have H1 : (some false) = some r := by rw [if_neg (show ¬ (false = true) by decide)] at H; exact H
     clear H
     have H := H1
     clear H1
     obtain rfl := Option.some.inj H
     go_wp2
     go_ret
     exact ⟨by first | rfl | (simp [errW_none, errW_some] <;> rfl) | (simp [*, errW_none, errW_some] <;> rfl), by repeat (first | (with_reducible first | exact HB.out | apply below_alloc | apply pw_below_drewN | apply below_drew1 | refine below_set ?_ GE759.out | refine below_set ?_ GE773.out | refine below_set ?_ GE780.out | refine below_set ?_ GE787.out) | exact HB.out)⟩
   case rest =>
    clear HC13
    try clear c1
    try clear c2
    try clear p2
    try clear c3
    try clear c4
    try clear c7
    try clear c7b0
    try clear c12
    try clear c17
    try clear c21
    try clear c22
    try clear c24
    try clear c28
    try clear c29
    try clear c32
    try clear c35
    try clear c36
    try clear c37
    try clear c42
    try clear hcz14_0
    try clear hcz14_1
    try clear hcz22_0
    try clear hcz22_1
    try clear hcz24_0
    try clear hcz24_1
    try clear hcz30_0
    try clear hcz30_1
    try clear hcz38_0
    try clear hcz38_1
    try clear hcz40_0
    try clear hcz40_1
    try clear hcz5_0
    try clear hcz5_1
    try clear hfz14_0
    try clear hfz14_1
    try clear hfz22_0
    try clear hfz22_1
    try clear hfz24_0
    try clear hfz24_1
    try clear hfz30_0
    try clear hfz30_1
    try clear hfz38_0
    try clear hfz38_1
    try clear hfz40_0
    try clear hfz40_1
    try clear hfz5_0
    try clear hfz5_1
    try clear p2
    obtain ⟨kq, HA, HJ12, HO_774000, HO_774001, HO_781000, HO_781001, HO_788000, HO_788001, BK759, BK773, BK780, BK787, HB⟩ := hcut
    cases kq with
    | zero => exact absurd HA.out (by simp [laws_FnExactSecFlush.j1])
    | succ kj12 =>
     have H := HA.out
     clear HA
     simp only [laws_FnExactSecFlush.j1] at H
     replace H := Option.bind_eq_some_iff.mp H
     obtain ⟨⟨t789, t792⟩, A430, H⟩ := H
     replace H : ((laws_eqSecDisk.f kj12 t774 t777 t789 t792).bind fun t795 => (if t795 = true then (laws_FnExactSecFlush.j2 kj12 l0_0 l0_1 t767 t770 t774 t777 t781 t784) else (some false))) = some r := H
     have A43 := Aside0.mk A430
     clear A430
     replace H := Option.bind_eq_some_iff.mp H
     obtain ⟨t795, A440, H⟩ := H
     replace H : (if t795 = true then (laws_FnExactSecFlush.j2 kj12 l0_0 l0_1 t767 t770 t774 t777 t781 t784) else (some false)) = some r := H
     have A44 := Aside0.mk A440
     clear A440
     have HC45 := Aside0.mk H
     clear H
     try go_wp2
     have n0_ := Aside0.mk (Kd.R_drew HO_774000.out)
     have n1_ := Aside0.mk (Kd.R_drew HO_774001.out)
     have n2_ := Aside0.mk (Kd.R_drew HO_781000.out)
     have n3_ := Aside0.mk (Kd.R_drew HO_781001.out)
     have n4_ := Aside0.mk (Kd.R_drew HO_788000.out)
     have n5_ := Aside0.mk (Kd.R_drew HO_788001.out)
     have n6_ := Aside0.mk (blk_drew BK759.out)
     have n7_ := Aside0.mk (blk_drew BK773.out)
     have n8_ := Aside0.mk (blk_drew BK780.out)
     have n9_ := Aside0.mk (blk_drew BK787.out)
     have n10_ := Aside0.mk (below_drew1 HB.out)
     clear HO_774000
     clear HO_774001
     clear HO_781000
     clear HO_781001
     clear HO_788000
     clear HO_788001
     clear BK759
     clear BK773
     clear BK780
     clear BK787
     clear HB
     have HO_774000 := n0_
     have HO_774001 := n1_
     have HO_781000 := n2_
     have HO_781001 := n3_
     have HO_788000 := n4_
     have HO_788001 := n5_
     have BK759 := n6_
     have BK773 := n7_
     have BK780 := n8_
     have BK787 := n9_
     have HB := n10_
     clear n0_ n1_ n2_ n3_ n4_ n5_ n6_ n7_ n8_ n9_ n10_
     refine start_ (n := 5) (S := fun w' => w'.cell? ⟨gb780, 0, none⟩ = some (.slice Ao27 t774.length co27) ∧ w'.cell? ⟨gb780, 1, none⟩ = some (.slice Ao31 t777.length co31) ∧ w'.cell? ⟨gb759, 0, none⟩ = some (.slice A0_0 l0_0.length c0_0) ∧ w'.cell? ⟨gb759, 1, none⟩ = some (.slice A0_1 l0_1.length c0_1)) (ds := []) #[false, false, false, false, false] (by kernel_rfl) rfl rfl ⟨(blk_cell BK780.out 0).trans rfl, (blk_cell BK780.out 1).trans rfl, (blk_cell BK759.out 0).trans rfl, (blk_cell BK759.out 1).trans rfl⟩ (fun hHeld => ?_)
     generalize wc.drew = w46 at HO_774000 HO_774001 HO_781000 HO_781001 HO_788000 HO_788001 BK759 BK773 BK780 BK787 HB hHeld ⊢
     refine take_ (i := 0) (N := some 27) (v := ?_) (a' := ?_) #[true, false, false, false, false] rfl rfl (by kernel_rfl) (fun _ _ _ h => h) (Or.inl ⟨by rfl, ?_⟩) hHeld ?_ ?_
     rotate_left
     ·rintro w' ⟨s0, s1, s2, s3⟩
      go_simp
      with_reducible rfl
     rotate_left
     ·simp only [Act.put, List.setIfInBounds_toArray, List.set_cons_zero, List.set_cons_succ, i64_w, i32_w]
      rfl
     refine take_ (i := 1) (N := some 28) (v := ?_) (a' := ?_) #[true, true, false, false, false] rfl rfl (by kernel_rfl) (fun _ _ _ h => h) (Or.inl ⟨by rfl, ?_⟩) hHeld ?_ ?_
     rotate_left
     ·rintro w' ⟨s0, s1, s2, s3⟩
      go_simp
      with_reducible rfl
     rotate_left
     ·simp only [Act.put, List.setIfInBounds_toArray, List.set_cons_zero, List.set_cons_succ, i64_w, i32_w]
      rfl
     refine one_ (i := 2) (N := some 29) #[true, true, true, false, false] rfl rfl (by kernel_rfl) (by decide) (fun K hK => ?_)
     refine goes_ Try.func24 (by kernel_rfl) rfl #[.agg #[.slice A0_0 l0_0.length c0_0, .slice A0_1 l0_1.length c0_1]] (by rfl) rfl rfl bM ?_
     with_reducible refine (laws_toSecDisk.calls kj12 _ _ l0_0 _ _ l0_1 t789 t792 _ ?side1 ?side2 ?side3 ?side4 A43.out).mono ?_
     (case side1 => repeat (first | exact (Kd.C_below HR0_0.out HB.out) | (with_reducible refine Kd.C_alloc ?_ _) | (with_reducible refine Kd.C_drewN ?_ _) | (with_reducible refine Kd.C_drew ?_)))
     (case side2 => exact HC0_0.out)
     (case side3 => repeat (first | exact (Kd.C_below HR0_1.out HB.out) | (with_reducible refine Kd.C_alloc ?_ _) | (with_reducible refine Kd.C_drewN ?_ _) | (with_reducible refine Kd.C_drew ?_)))
     (case side4 => exact HC0_1.out)
     rintro e w47 ⟨v790, v793, rfl, ho0, ho1, hb⟩
     refine ⟨_, rfl, ?_⟩
     have n0_ := Aside0.mk (Kd.R_elder' (pR HO_774000.out) (Kd.R_base ho0) hb)
     have n1_ := Aside0.mk (Kd.R_elder' (pR HO_774001.out) (Kd.R_base ho1) hb)
     have n2_ := Aside0.mk (Kd.R_elder' (pR HO_781000.out) (Kd.R_base ho0) hb)
     have n3_ := Aside0.mk (Kd.R_elder' (pR HO_781001.out) (Kd.R_base ho1) hb)
     have n4_ := Aside0.mk (Kd.R_elder' (pR HO_788000.out) (Kd.R_base ho0) hb)
     have n5_ := Aside0.mk (Kd.R_elder' (pR HO_788001.out) (Kd.R_base ho1) hb)
     have n6_ := Aside0.mk (Kd.R_lower (Kd.R_new' (Kd.R_new' (Kd.R_new' ho0 (Kd.R_lt (pR HO_774000.out))) (Kd.R_lt (pR HO_781000.out))) (Kd.R_lt (pR HO_788000.out))) (below_size (by repeat (first | (with_reducible first | exact HB.out | apply below_alloc | apply pw_below_drewN | apply below_drew1 | refine below_set ?_ GE759.out | refine below_set ?_ GE773.out | refine below_set ?_ GE780.out | refine below_set ?_ GE787.out) | exact HB.out))))
     have n7_ := Aside0.mk (Kd.R_lower (Kd.R_new' (Kd.R_new' (Kd.R_new' ho1 (Kd.R_lt (pR HO_774001.out))) (Kd.R_lt (pR HO_781001.out))) (Kd.R_lt (pR HO_788001.out))) (below_size (by repeat (first | (with_reducible first | exact HB.out | apply below_alloc | apply pw_below_drewN | apply below_drew1 | refine below_set ?_ GE759.out | refine below_set ?_ GE773.out | refine below_set ?_ GE780.out | refine below_set ?_ GE787.out) | exact HB.out))))
     have n8_ := Aside0.mk (blk_below (g := gb759) (o := .cells #[.slice A0_0 l0_0.length c0_0, .slice A0_1 l0_1.length c0_1] 34 (0, 0)) (pK BK759.out) hb)
     have n9_ := Aside0.mk (blk_below (g := gb773) (o := .cells #[.slice Ao20 t767.length co20, .slice Ao23 t770.length co23] 26 (0, 0)) (pK BK773.out) hb)
     have n10_ := Aside0.mk (blk_below (g := gb780) (o := .cells #[.slice Ao27 t774.length co27, .slice Ao31 t777.length co31] 26 (0, 0)) (pK BK780.out) hb)
     have n11_ := Aside0.mk (blk_below (g := gb787) (o := .cells #[.slice Ao34 t781.length co34, .slice Ao39 t784.length co39] 26 (0, 0)) (pK BK787.out) hb)
     have n12_ := Aside0.mk (below_step (by repeat (first | (with_reducible first | exact HB.out | apply below_alloc | apply pw_below_drewN | apply below_drew1 | refine below_set ?_ GE759.out | refine below_set ?_ GE773.out | refine below_set ?_ GE780.out | refine below_set ?_ GE787.out) | exact HB.out)) hb)
     clear HO_774000
     clear HO_774001
     clear HO_781000
     clear HO_781001
     clear HO_788000
     clear HO_788001
     clear BK759
     clear BK773
     clear BK780
     clear BK787
     clear HB
     have HO_774000 := n0_
     have HO_774001 := n1_
     have HO_781000 := n2_
     have HO_781001 := n3_
     have HO_788000 := n4_
     have HO_788001 := n5_
     have HO791 := n6_
     have HO794 := n7_
     have BK759 := n8_
     have BK773 := n9_
     have BK780 := n10_
     have BK787 := n11_
     have HB := n12_
     clear n0_ n1_ n2_ n3_ n4_ n5_ n6_ n7_ n8_ n9_ n10_ n11_ n12_
     (try clear hb)
     (try clear hb2)
     (try clear hk)
     (try clear hi)
     (try clear ho0)
     (try clear ho1)
     obtain ⟨Ao48, co48, eo48⟩ := Kd.R_slice HO791.out
     (first | subst eo48 | (injection eo48 with f1_ f2_ f3_; have f4_ := f1_.symm; have f5_ := f3_.symm; clear f1_ f2_ f3_; subst f4_; subst f5_))
     obtain ⟨Ao49, co49, eo49⟩ := Kd.R_slice HO794.out
     (first | subst eo49 | (injection eo49 with f1_ f2_ f3_; have f4_ := f1_.symm; have f5_ := f3_.symm; clear f1_ f2_ f3_; subst f4_; subst f5_))
     refine hK.out _ _ ⟨(blk_cell BK780.out 0).trans rfl, (blk_cell BK780.out 1).trans rfl, (blk_cell BK759.out 0).trans rfl, (blk_cell BK759.out 1).trans rfl⟩ (fun hHeld => ?_)
     clear hK K
     refine norm_ (a' := ?_) ?_ ?_
     rotate_left
     ·show Act.put _ (some 29) _ = _
      simp only [Act.put, List.setIfInBounds_toArray, List.set_cons_zero, List.set_cons_succ, i64_w, i32_w]
      rfl
     refine one_ (i := 3) (N := some 30) #[true, true, true, true, false] rfl rfl (by kernel_rfl) (by decide) (fun K hK => ?_)
     refine goes_ Try.func17 (by kernel_rfl) rfl #[.agg #[.slice Ao27 t774.length co27, .slice Ao31 t777.length co31], .agg #[.slice Ao48 t789.length co48, .slice Ao49 t792.length co49]] (by rfl) rfl rfl bM ?_
     with_reducible refine (laws_eqSecDisk.calls kj12 _ _ t774 _ _ t777 _ _ t789 _ _ t792 t795 _ ?side1 ?side2 ?side3 ?side4 ?side5 ?side6 ?side7 ?side8 A44.out).mono ?_
     (case side1 => exact pC (Kd.R_reads' HO_781000.out).2.2)
     (case side2 => exact (Kd.R_reads' HO_781000.out).2.1)
     (case side3 => exact pC (Kd.R_reads' HO_781001.out).2.2)
     (case side4 => exact (Kd.R_reads' HO_781001.out).2.1)
     (case side5 => exact pC (Kd.R_reads' HO791.out).2.2)
     (case side6 => exact (Kd.R_reads' HO791.out).2.1)
     (case side7 => exact pC (Kd.R_reads' HO794.out).2.2)
     (case side8 => exact (Kd.R_reads' HO794.out).2.1)
     rintro e w50 ⟨rfl, hb⟩
     refine ⟨_, rfl, ?_⟩
     have n0_ := Aside0.mk (Kd.R_below (pR HO_774000.out) hb)
     have n1_ := Aside0.mk (Kd.R_below (pR HO_774001.out) hb)
     have n2_ := Aside0.mk (Kd.R_below (pR HO_781000.out) hb)
     have n3_ := Aside0.mk (Kd.R_below (pR HO_781001.out) hb)
     have n4_ := Aside0.mk (Kd.R_below (pR HO_788000.out) hb)
     have n5_ := Aside0.mk (Kd.R_below (pR HO_788001.out) hb)
     have n6_ := Aside0.mk (Kd.R_below (pR HO791.out) hb)
     have n7_ := Aside0.mk (Kd.R_below (pR HO794.out) hb)
     have n8_ := Aside0.mk (blk_below (g := gb759) (o := .cells #[.slice A0_0 l0_0.length c0_0, .slice A0_1 l0_1.length c0_1] 34 (0, 0)) (pK BK759.out) hb)
     have n9_ := Aside0.mk (blk_below (g := gb773) (o := .cells #[.slice Ao20 t767.length co20, .slice Ao23 t770.length co23] 26 (0, 0)) (pK BK773.out) hb)
     have n10_ := Aside0.mk (blk_below (g := gb780) (o := .cells #[.slice Ao27 t774.length co27, .slice Ao31 t777.length co31] 26 (0, 0)) (pK BK780.out) hb)
     have n11_ := Aside0.mk (blk_below (g := gb787) (o := .cells #[.slice Ao34 t781.length co34, .slice Ao39 t784.length co39] 26 (0, 0)) (pK BK787.out) hb)
     have n12_ := Aside0.mk (below_step (by repeat (first | (with_reducible first | exact HB.out | apply below_alloc | apply pw_below_drewN | apply below_drew1 | refine below_set ?_ GE759.out | refine below_set ?_ GE773.out | refine below_set ?_ GE780.out | refine below_set ?_ GE787.out) | exact HB.out)) hb)
     clear HO_774000
     clear HO_774001
     clear HO_781000
     clear HO_781001
     clear HO_788000
     clear HO_788001
     clear HO791
     clear HO794
     clear BK759
     clear BK773
     clear BK780
     clear BK787
     clear HB
     have HO_774000 := n0_
     have HO_774001 := n1_
     have HO_781000 := n2_
     have HO_781001 := n3_
     have HO_788000 := n4_
     have HO_788001 := n5_
     have HO791 := n6_
     have HO794 := n7_
     have BK759 := n8_
     have BK773 := n9_
     have BK780 := n10_
     have BK787 := n11_
     have HB := n12_
     clear n0_ n1_ n2_ n3_ n4_ n5_ n6_ n7_ n8_ n9_ n10_ n11_ n12_
     (try clear hb)
     (try clear hb2)
     (try clear hk)
     (try clear hi)
     refine hK.out _ _ ⟨(blk_cell BK780.out 0).trans rfl, (blk_cell BK780.out 1).trans rfl, (blk_cell BK759.out 0).trans rfl, (blk_cell BK759.out 1).trans rfl⟩ (fun hHeld => ?_)
     clear hK K
     refine norm_ (a' := ?_) ?_ ?_
     rotate_left
     ·show Act.put _ (some 30) _ = _
      simp only [Act.put, List.setIfInBounds_toArray, List.set_cons_zero, List.set_cons_succ, i64_w, i32_w]
      rfl
     refine pure_ (i := 4) (N := some 31) (v := ?_) (a' := ?_) #[true, true, true, true, true] rfl rfl (by kernel_rfl) (fun _ _ _ h => h) (Or.inl ⟨by rfl, ?_⟩) ?_ ?_
     rotate_left
     ·intro w'
      go_simp
      with_reducible rfl
     rotate_left
     ·simp only [Act.put, List.setIfInBounds_toArray, List.set_cons_zero, List.set_cons_succ, i64_w, i32_w]
      rfl
     refine done_ (by kernel_rfl) ?_
     go_upto_if 31 with (fail)
     go_cut [] (fun wc => ∃ (kq : Nat), Aside0 (laws_FnExactSecFlush.j2 kq l0_0 l0_1 t767 t770 t774 t777 t781 t784 = some r) ∧ Aside0 (kq ≤ kj12) ∧ Aside0 (Kd.R Kd.string 9 wc w.heap.size (fun k_ => some k_ ≠ ((.slice Ao27 t774.length co27) : Value).ownBlock ∧ some k_ ≠ ((.slice Ao34 t781.length co34) : Value).ownBlock) (.slice Ao20 t767.length co20) t767) ∧ Aside0 (Kd.R k54 54 wc w.heap.size (fun k_ => some k_ ≠ ((.slice Ao31 t777.length co31) : Value).ownBlock ∧ some k_ ≠ ((.slice Ao39 t784.length co39) : Value).ownBlock) (.slice Ao23 t770.length co23) t770) ∧ Aside0 (Kd.R Kd.string 9 wc w.heap.size (fun k_ => some k_ ≠ ((.slice Ao20 t767.length co20) : Value).ownBlock ∧ some k_ ≠ ((.slice Ao34 t781.length co34) : Value).ownBlock) (.slice Ao27 t774.length co27) t774) ∧ Aside0 (Kd.R k54 54 wc w.heap.size (fun k_ => some k_ ≠ ((.slice Ao23 t770.length co23) : Value).ownBlock ∧ some k_ ≠ ((.slice Ao39 t784.length co39) : Value).ownBlock) (.slice Ao31 t777.length co31) t777) ∧ Aside0 (Kd.R Kd.string 9 wc w.heap.size (fun k_ => some k_ ≠ ((.slice Ao20 t767.length co20) : Value).ownBlock ∧ some k_ ≠ ((.slice Ao27 t774.length co27) : Value).ownBlock) (.slice Ao34 t781.length co34) t781) ∧ Aside0 (Kd.R k54 54 wc w.heap.size (fun k_ => some k_ ≠ ((.slice Ao23 t770.length co23) : Value).ownBlock ∧ some k_ ≠ ((.slice Ao31 t777.length co31) : Value).ownBlock) (.slice Ao39 t784.length co39) t784) ∧ Aside0 (wc.heap[gb759]? = some (.cells #[(.slice A0_0 l0_0.length c0_0), (.slice A0_1 l0_1.length c0_1)] 34 (0, 0))) ∧ Aside0 (wc.heap[gb773]? = some (.cells #[(.slice Ao20 t767.length co20), (.slice Ao23 t770.length co23)] 26 (0, 0))) ∧ Aside0 (wc.heap[gb780]? = some (.cells #[(.slice Ao27 t774.length co27), (.slice Ao31 t777.length co31)] 26 (0, 0))) ∧ Aside0 (wc.heap[gb787]? = some (.cells #[(.slice Ao34 t781.length co34), (.slice Ao39 t784.length co39)] 26 (0, 0))) ∧ Aside0 (Below w.heap.size w wc))
     case first =>
      have H := HC45.out
      clear HC45
      by_cases c51 : t795 = true
      ·subst c51
       have H1 : (laws_FnExactSecFlush.j2 kj12 l0_0 l0_1 t767 t770 t774 t777 t781 t784) = some r := by rw [if_pos rfl] at H; exact H
       clear H
       have H := H1
       clear H1
       have H' := Aside0.mk H
       clear H
       go_wp2
       go_meet
       case rel => exact ⟨_, H', ⟨by have := HJ2.out; have := HJ12.out; first | omega | exact Nat.le_refl _⟩, ⟨pR (Kd.R_mono HO_774000.out (fun _ hk => ⟨hk.1.1, hk.1.2⟩))⟩, ⟨pR (Kd.R_mono HO_774001.out (fun _ hk => ⟨hk.1.1, hk.1.2⟩))⟩, ⟨pR (Kd.R_mono HO_781000.out (fun _ hk => ⟨hk.1.1, hk.1.2⟩))⟩, ⟨pR (Kd.R_mono HO_781001.out (fun _ hk => ⟨hk.1.1, hk.1.2⟩))⟩, ⟨pR (Kd.R_mono HO_788000.out (fun _ hk => ⟨hk.1.1, hk.1.2⟩))⟩, ⟨pR (Kd.R_mono HO_788001.out (fun _ hk => ⟨hk.1.1, hk.1.2⟩))⟩, ⟨pK BK759.out⟩, ⟨pK BK773.out⟩, ⟨pK BK780.out⟩, ⟨pK BK787.out⟩, ⟨by repeat (first | (with_reducible first | exact HB.out | apply below_alloc | apply pw_below_drewN | apply below_drew1 | refine below_set ?_ GE759.out | refine below_set ?_ GE773.out | refine below_set ?_ GE780.out | refine below_set ?_ GE787.out) | exact HB.out)⟩⟩
      ·replace c51 := Bool.eq_false_iff.mpr c51
       subst c51
       have H1 : (some false) = some r := by rw [if_neg (show ¬ (false = true) by decide)] at H; exact H
       clear H
       have H := H1
       clear H1
       obtain rfl := Option.some.inj H
       go_wp2
       go_ret
       exact ⟨by first | rfl | (simp [errW_none, errW_some] <;> rfl) | (simp [*, errW_none, errW_some] <;> rfl), by repeat (first | (with_reducible first | exact HB.out | apply below_alloc | apply pw_below_drewN | apply below_drew1 | refine below_set ?_ GE759.out | refine below_set ?_ GE773.out | refine below_set ?_ GE780.out | refine below_set ?_ GE787.out) | exact HB.out)⟩
     case rest =>
      clear HC45
      try clear c1
      try clear c2
      try clear p2
      try clear c3
      try clear c4
      try clear c5
      try clear c7
      try clear c7b0
      try clear c12
      try clear c17
      try clear c21
      try clear c22
      try clear c24
      try clear c28
      try clear c29
      try clear c32
      try clear c35
      try clear c36
      try clear c37
      try clear c42
      try clear c51
      try clear hcz14_0
      try clear hcz14_1
      try clear hcz22_0
      try clear hcz22_1
      try clear hcz24_0
      try clear hcz24_1
      try clear hcz30_0
      try clear hcz30_1
      try clear hcz38_0
      try clear hcz38_1
      try clear hcz40_0
      try clear hcz40_1
      try clear hcz5_0
      try clear hcz5_1
      try clear hfz14_0
      try clear hfz14_1
      try clear hfz22_0
      try clear hfz22_1
      try clear hfz24_0
      try clear hfz24_1
      try clear hfz30_0
      try clear hfz30_1
      try clear hfz38_0
      try clear hfz38_1
      try clear hfz40_0
      try clear hfz40_1
      try clear hfz5_0
      try clear hfz5_1
      try clear p2
      obtain ⟨kq, HA, HJ44, HO_774000, HO_774001, HO_781000, HO_781001, HO_788000, HO_788001, BK759, BK773, BK780, BK787, HB⟩ := hcut
      cases kq with
      | zero => exact absurd HA.out (by simp [laws_FnExactSecFlush.j2])
      | succ kj44 =>
       have H := HA.out
       clear HA
       simp only [laws_FnExactSecFlush.j2] at H
       replace H := Option.bind_eq_some_iff.mp H
       obtain ⟨⟨t796, t797, t798⟩, A520, H⟩ := H
       replace H : (if t796 < 0 then (laws_FnExactSecFlush.j3 kj44 true l0_0 l0_1 t767 t770 t781 t784) else ((laws_eqSecDisk.f kj44 t781 t784 t767 t770).bind fun t799 => (laws_FnExactSecFlush.j3 kj44 (!t799) l0_0 l0_1 t767 t770 t781 t784))) = some r := H
       have A52 := Aside0.mk A520
       clear A520
       have HC53 := Aside0.mk H
       clear H
       have hnb54 := NB780_759.out
       have hnc54 := NB759_780.out
       have hnb55 := NB780_773.out
       have hnc55 := NB773_780.out
       have hnb56 := NB780_787.out
       have hnc56 := NB787_780.out
       have hcz57_0 : wc.cell? ⟨gb780, 0, none⟩ = some (.slice Ao27 t774.length co27) := (blk_cell BK780.out 0).trans rfl
       have hcz57_1 : wc.cell? ⟨gb780, 1, none⟩ = some (.slice Ao31 t777.length co31) := (blk_cell BK780.out 1).trans rfl
       have hfz57_0 := blk_frozen BK780.out 0
       have hfz57_1 := blk_frozen BK780.out 1
       go_upto_region 14 with (first | ((with_reducible refine gate_callee (f := 18) rfl ?_); refine goesL_ (some 34) rfl rfl Try.func18 (by kernel_rfl) rfl #[.agg #[.slice Ao27 t774.length co27, .slice Ao31 t777.length co31], .int .i64 1] rfl bM ?_; (with_reducible refine (laws_markSecDisk.calls kj44 (fun k_ => some k_ = (.slice Ao27 t774.length co27 : Value).ownBlock) (.slice Ao27 t774.length co27) t774 (fun k_ => some k_ = (.slice Ao31 t777.length co31 : Value).ownBlock) (.slice Ao31 t777.length co31) t777 1 t796 t797 t798 w _ ?side1 ?side2 ?side3 A52.out).mono ?_); (case side1 => repeat (first | (with_reducible first | exact HB.out | apply below_alloc | apply pw_below_drewN | apply below_drew1 | refine below_set ?_ GE759.out | refine below_set ?_ GE773.out | refine below_set ?_ GE780.out | refine below_set ?_ GE787.out) | exact HB.out)); (case side2 => exact Kd.R_tight rfl HO_781000.out); (case side3 => exact Kd.R_tight rfl HO_781001.out); rintro e w58 ⟨rfl, hy0, hy1, hb, hkp⟩; refine ⟨_, rfl, ?_⟩; have n0_ := Aside0.mk (Kd.R_mono (ok' := fun k_ => some k_ ≠ (.slice Ao27 t774.length co27 : Value).ownBlock ∧ some k_ ≠ (.slice Ao34 t781.length co34 : Value).ownBlock) (Kd.R_keptB ((Kd.R_apart' HO_774000.out (Kd.R_typed HO_781001.out) (by decide))) hkp (fun k_ hk_ hs_ => Or.elim hs_ (fun e_ => (hk_.1.1) e_) (fun e_ => (hk_.2) e_))) (fun k_ hk_ => ⟨hk_.1.1.1, hk_.1.1.2⟩)); have n1_ := Aside0.mk (Kd.R_mono (ok' := fun k_ => some k_ ≠ (.slice Ao31 t777.length co31 : Value).ownBlock ∧ some k_ ≠ (.slice Ao39 t784.length co39 : Value).ownBlock) (Kd.R_keptB ((Kd.R_apart' HO_774001.out (Kd.R_typed HO_781000.out) (by decide))) hkp (fun k_ hk_ hs_ => Or.elim hs_ (fun e_ => (hk_.2) e_) (fun e_ => (hk_.1.1) e_))) (fun k_ hk_ => ⟨hk_.1.1.1, hk_.1.1.2⟩)); have n2_ := Aside0.mk (Kd.R_reok rfl hy0 (fun k_ e_ => HO_781000.out.1 k_ e_)); have n3_ := Aside0.mk (Kd.R_reok rfl hy1 (fun k_ e_ => HO_781001.out.1 k_ e_)); have n4_ := Aside0.mk (Kd.R_mono (ok' := fun k_ => some k_ ≠ (.slice Ao20 t767.length co20 : Value).ownBlock ∧ some k_ ≠ (.slice Ao27 t774.length co27 : Value).ownBlock) (Kd.R_keptB ((Kd.R_apart' HO_788000.out (Kd.R_typed HO_781001.out) (by decide))) hkp (fun k_ hk_ hs_ => Or.elim hs_ (fun e_ => (hk_.1.2) e_) (fun e_ => (hk_.2) e_))) (fun k_ hk_ => ⟨hk_.1.1.1, hk_.1.1.2⟩)); have n5_ := Aside0.mk (Kd.R_mono (ok' := fun k_ => some k_ ≠ (.slice Ao23 t770.length co23 : Value).ownBlock ∧ some k_ ≠ (.slice Ao31 t777.length co31 : Value).ownBlock) (Kd.R_keptB ((Kd.R_apart' HO_788001.out (Kd.R_typed HO_781000.out) (by decide))) hkp (fun k_ hk_ hs_ => Or.elim hs_ (fun e_ => (hk_.2) e_) (fun e_ => (hk_.1.2) e_))) (fun k_ hk_ => ⟨hk_.1.1.1, hk_.1.1.2⟩)); have n6_ := Aside0.mk (blk_kept (pK BK759.out) hkp (fun hs_ => Or.elim hs_ (fun e_ => (fun e_ => (Kd.R_ne HO_781000.out BK759.out (by decide)) e_) e_) (fun e_ => (fun e_ => (Kd.R_ne HO_781001.out BK759.out (by decide)) e_) e_))); have n7_ := Aside0.mk (blk_kept (pK BK773.out) hkp (fun hs_ => Or.elim hs_ (fun e_ => (fun e_ => (Kd.R_ne HO_781000.out BK773.out (by decide)) e_) e_) (fun e_ => (fun e_ => (Kd.R_ne HO_781001.out BK773.out (by decide)) e_) e_))); have n8_ := Aside0.mk (blk_kept (pK BK780.out) hkp (fun hs_ => Or.elim hs_ (fun e_ => (fun e_ => (Kd.R_ne HO_781000.out BK780.out (by decide)) e_) e_) (fun e_ => (fun e_ => (Kd.R_ne HO_781001.out BK780.out (by decide)) e_) e_))); have n9_ := Aside0.mk (blk_kept (pK BK787.out) hkp (fun hs_ => Or.elim hs_ (fun e_ => (fun e_ => (Kd.R_ne HO_781000.out BK787.out (by decide)) e_) e_) (fun e_ => (fun e_ => (Kd.R_ne HO_781001.out BK787.out (by decide)) e_) e_))); have n10_ := Aside0.mk (hb); clear HO_774000; clear HO_774001; clear HO_781000; clear HO_781001; clear HO_788000; clear HO_788001; clear BK759; clear BK773; clear BK780; clear BK787; clear HB; have HO_774000 := n0_; have HO_774001 := n1_; have HO_781000 := n2_; have HO_781001 := n3_; have HO_788000 := n4_; have HO_788001 := n5_; have BK759 := n6_; have BK773 := n7_; have BK780 := n8_; have BK787 := n9_; have HB := n10_; clear n0_ n1_ n2_ n3_ n4_ n5_ n6_ n7_ n8_ n9_ n10_; (try clear hb); (try clear hkp); (try clear hy0); (try clear hy1)))
       (try simp only [Act.put, List.setIfInBounds_toArray, List.set_cons_zero, List.set_cons_succ])
       go_cut [42] (fun v42 wc => ∃ (kq : Nat) (x42_52 : Bool), v42 = .bool x42_52 ∧ Aside0 (laws_FnExactSecFlush.j3 kq x42_52 l0_0 l0_1 t767 t770 t781 t784 = some r) ∧ Aside0 (kq ≤ kj44) ∧ Aside0 (Kd.R Kd.string 9 wc w.heap.size (fun k_ => some k_ ≠ ((.slice Ao27 t774.length co27) : Value).ownBlock ∧ some k_ ≠ ((.slice Ao34 t781.length co34) : Value).ownBlock) (.slice Ao20 t767.length co20) t767) ∧ Aside0 (Kd.R k54 54 wc w.heap.size (fun k_ => some k_ ≠ ((.slice Ao31 t777.length co31) : Value).ownBlock ∧ some k_ ≠ ((.slice Ao39 t784.length co39) : Value).ownBlock) (.slice Ao23 t770.length co23) t770) ∧ Aside0 (Kd.R Kd.string 9 wc w.heap.size (fun k_ => some k_ ≠ ((.slice Ao20 t767.length co20) : Value).ownBlock ∧ some k_ ≠ ((.slice Ao34 t781.length co34) : Value).ownBlock) (.slice Ao27 t774.length co27) t797) ∧ Aside0 (Kd.R k54 54 wc w.heap.size (fun k_ => some k_ ≠ ((.slice Ao23 t770.length co23) : Value).ownBlock ∧ some k_ ≠ ((.slice Ao39 t784.length co39) : Value).ownBlock) (.slice Ao31 t777.length co31) t798) ∧ Aside0 (Kd.R Kd.string 9 wc w.heap.size (fun k_ => some k_ ≠ ((.slice Ao20 t767.length co20) : Value).ownBlock ∧ some k_ ≠ ((.slice Ao27 t774.length co27) : Value).ownBlock) (.slice Ao34 t781.length co34) t781) ∧ Aside0 (Kd.R k54 54 wc w.heap.size (fun k_ => some k_ ≠ ((.slice Ao23 t770.length co23) : Value).ownBlock ∧ some k_ ≠ ((.slice Ao31 t777.length co31) : Value).ownBlock) (.slice Ao39 t784.length co39) t784) ∧ Aside0 (wc.heap[gb759]? = some (.cells #[(.slice A0_0 l0_0.length c0_0), (.slice A0_1 l0_1.length c0_1)] 34 (0, 0))) ∧ Aside0 (wc.heap[gb773]? = some (.cells #[(.slice Ao20 t767.length co20), (.slice Ao23 t770.length co23)] 26 (0, 0))) ∧ Aside0 (wc.heap[gb780]? = some (.cells #[(.slice Ao27 t774.length co27), (.slice Ao31 t777.length co31)] 26 (0, 0))) ∧ Aside0 (wc.heap[gb787]? = some (.cells #[(.slice Ao34 t781.length co34), (.slice Ao39 t784.length co39)] 26 (0, 0))) ∧ Aside0 (Below w.heap.size w wc))
       case first =>
        have H := HC53.out
        clear HC53
        by_cases c59 : t796 < 0
        ·rw [if_pos c59] at H
         have c59b0 : decide (t796 < 0) = true := decide_eq_true c59
         clear c59
         (first | rw [c59b0] | (simp only [i64_w, i32_w]; rw [c59b0]) | skip)
         have H' := Aside0.mk H
         clear H
         go_wp2
         go_meet
         case rel => exact ⟨_, (true), (by first | rfl | (simp; done) | (simp [*]; done)), H', ⟨by have := HJ2.out; have := HJ12.out; have := HJ44.out; first | omega | exact Nat.le_refl _⟩, ⟨pR HO_774000.out⟩, ⟨pR HO_774001.out⟩, ⟨pR HO_781000.out⟩, ⟨pR HO_781001.out⟩, ⟨pR HO_788000.out⟩, ⟨pR HO_788001.out⟩, ⟨pK BK759.out⟩, ⟨pK BK773.out⟩, ⟨pK BK780.out⟩, ⟨pK BK787.out⟩, ⟨by repeat (first | (with_reducible first | exact HB.out | apply below_alloc | apply pw_below_drewN | apply below_drew1 | refine below_set ?_ GE759.out | refine below_set ?_ GE773.out | refine below_set ?_ GE780.out | refine below_set ?_ GE787.out) | exact HB.out)⟩⟩
        ·rw [if_neg c59] at H
         have c59b0 : decide (t796 < 0) = false := decide_eq_false c59
         clear c59
         (first | rw [c59b0] | (simp only [i64_w, i32_w]; rw [c59b0]) | skip)
         replace H := Option.bind_eq_some_iff.mp H
         obtain ⟨t799, A600, H⟩ := H
         replace H : (laws_FnExactSecFlush.j3 kj44 (!t799) l0_0 l0_1 t767 t770 t781 t784) = some r := H
         have A60 := Aside0.mk A600
         clear A600
         have H' := Aside0.mk H
         clear H
         have hnb61 := NB787_759.out
         have hnc61 := NB759_787.out
         have hnb62 := NB787_773.out
         have hnc62 := NB773_787.out
         have hnb63 := NB787_780.out
         have hnc63 := NB780_787.out
         have hcz64_0 : w58.cell? ⟨gb787, 0, none⟩ = some (.slice Ao34 t781.length co34) := (blk_cell BK787.out 0).trans rfl
         have hcz64_1 : w58.cell? ⟨gb787, 1, none⟩ = some (.slice Ao39 t784.length co39) := (blk_cell BK787.out 1).trans rfl
         have hfz64_0 := blk_frozen BK787.out 0
         have hfz64_1 := blk_frozen BK787.out 1
         have hnb65 := NB773_759.out
         have hnc65 := NB759_773.out
         have hnb66 := NB773_780.out
         have hnc66 := NB780_773.out
         have hcz67_0 : w58.cell? ⟨gb773, 0, none⟩ = some (.slice Ao20 t767.length co20) := (blk_cell BK773.out 0).trans rfl
         have hcz67_1 : w58.cell? ⟨gb773, 1, none⟩ = some (.slice Ao23 t770.length co23) := (blk_cell BK773.out 1).trans rfl
         have hfz67_0 := blk_frozen BK773.out 0
         have hfz67_1 := blk_frozen BK773.out 1
         go_wp2_with (first | (go_at_call 17; (with_reducible refine (laws_eqSecDisk.calls kj44 _ _ t781 _ _ t784 _ _ t767 _ _ t770 t799 _ ?side1 ?side2 ?side3 ?side4 ?side5 ?side6 ?side7 ?side8 A60.out).mono ?_); (case side1 => exact pC (Kd.R_reads' HO_788000.out).2.2); (case side2 => exact (Kd.R_reads' HO_788000.out).2.1); (case side3 => exact pC (Kd.R_reads' HO_788001.out).2.2); (case side4 => exact (Kd.R_reads' HO_788001.out).2.1); (case side5 => exact pC (Kd.R_reads' HO_774000.out).2.2); (case side6 => exact (Kd.R_reads' HO_774000.out).2.1); (case side7 => exact pC (Kd.R_reads' HO_774001.out).2.2); (case side8 => exact (Kd.R_reads' HO_774001.out).2.1); rintro e w68 ⟨rfl, hb⟩; have n0_ := Aside0.mk (Kd.R_below (pR HO_774000.out) hb); have n1_ := Aside0.mk (Kd.R_below (pR HO_774001.out) hb); have n2_ := Aside0.mk (Kd.R_below (pR HO_781000.out) hb); have n3_ := Aside0.mk (Kd.R_below (pR HO_781001.out) hb); have n4_ := Aside0.mk (Kd.R_below (pR HO_788000.out) hb); have n5_ := Aside0.mk (Kd.R_below (pR HO_788001.out) hb); have n6_ := Aside0.mk (blk_below (g := gb759) (o := .cells #[.slice A0_0 l0_0.length c0_0, .slice A0_1 l0_1.length c0_1] 34 (0, 0)) (pK BK759.out) hb); have n7_ := Aside0.mk (blk_below (g := gb773) (o := .cells #[.slice Ao20 t767.length co20, .slice Ao23 t770.length co23] 26 (0, 0)) (pK BK773.out) hb); have n8_ := Aside0.mk (blk_below (g := gb780) (o := .cells #[.slice Ao27 t774.length co27, .slice Ao31 t777.length co31] 26 (0, 0)) (pK BK780.out) hb); have n9_ := Aside0.mk (blk_below (g := gb787) (o := .cells #[.slice Ao34 t781.length co34, .slice Ao39 t784.length co39] 26 (0, 0)) (pK BK787.out) hb); have n10_ := Aside0.mk (below_step (by repeat (first | (with_reducible first | exact HB.out | apply below_alloc | apply pw_below_drewN | apply below_drew1 | refine below_set ?_ GE759.out | refine below_set ?_ GE773.out | refine below_set ?_ GE780.out | refine below_set ?_ GE787.out) | exact HB.out)) hb); clear HO_774000; clear HO_774001; clear HO_781000; clear HO_781001; clear HO_788000; clear HO_788001; clear BK759; clear BK773; clear BK780; clear BK787; clear HB; have HO_774000 := n0_; have HO_774001 := n1_; have HO_781000 := n2_; have HO_781001 := n3_; have HO_788000 := n4_; have HO_788001 := n5_; have BK759 := n6_; have BK773 := n7_; have BK780 := n8_; have BK787 := n9_; have HB := n10_; clear n0_ n1_ n2_ n3_ n4_ n5_ n6_ n7_ n8_ n9_ n10_; (try clear hb); (try clear hb2); (try clear hk); (try clear hi)))
         go_meet
         case rel => exact ⟨_, (!t799), (by first | rfl | (simp; done) | (simp [*]; done)), H', ⟨by have := HJ2.out; have := HJ12.out; have := HJ44.out; first | omega | exact Nat.le_refl _⟩, ⟨pR HO_774000.out⟩, ⟨pR HO_774001.out⟩, ⟨pR HO_781000.out⟩, ⟨pR HO_781001.out⟩, ⟨pR HO_788000.out⟩, ⟨pR HO_788001.out⟩, ⟨pK BK759.out⟩, ⟨pK BK773.out⟩, ⟨pK BK780.out⟩, ⟨pK BK787.out⟩, ⟨by repeat (first | (with_reducible first | exact HB.out | apply below_alloc | apply pw_below_drewN | apply below_drew1 | refine below_set ?_ GE759.out | refine below_set ?_ GE773.out | refine below_set ?_ GE780.out | refine below_set ?_ GE787.out) | exact HB.out)⟩⟩
       case rest =>
        clear HC53
        try clear c1
        try clear c2
        try clear p2
        try clear c3
        try clear c4
        try clear c5
        try clear c6
        try clear c7
        try clear c7b0
        try clear c12
        try clear c17
        try clear c18
        try clear c21
        try clear c22
        try clear c24
        try clear c28
        try clear c29
        try clear c32
        try clear c35
        try clear c36
        try clear c37
        try clear c42
        try clear c51
        try clear c54
        try clear c55
        try clear c56
        try clear c59
        try clear c59b0
        try clear c61
        try clear c62
        try clear c63
        try clear c65
        try clear c66
        try clear hcz14_0
        try clear hcz14_1
        try clear hcz22_0
        try clear hcz22_1
        try clear hcz24_0
        try clear hcz24_1
        try clear hcz30_0
        try clear hcz30_1
        try clear hcz38_0
        try clear hcz38_1
        try clear hcz40_0
        try clear hcz40_1
        try clear hcz57_0
        try clear hcz57_1
        try clear hcz5_0
        try clear hcz5_1
        try clear hcz64_0
        try clear hcz64_1
        try clear hcz67_0
        try clear hcz67_1
        try clear hfz14_0
        try clear hfz14_1
        try clear hfz22_0
        try clear hfz22_1
        try clear hfz24_0
        try clear hfz24_1
        try clear hfz30_0
        try clear hfz30_1
        try clear hfz38_0
        try clear hfz38_1
        try clear hfz40_0
        try clear hfz40_1
        try clear hfz57_0
        try clear hfz57_1
        try clear hfz5_0
        try clear hfz5_1
        try clear hfz64_0
        try clear hfz64_1
        try clear hfz67_0
        try clear hfz67_1
        try clear p2
        obtain ⟨kq, x42_52, rfl, HA, HJ52, HO_774000, HO_774001, HO_781000, HO_781001, HO_788000, HO_788001, BK759, BK773, BK780, BK787, HB⟩ := hcut
        have hl781000_52 := (Kd.R_reads' HO_781000.out).1
        rw [hl781000_52] at HO_781000
        (try simp only [hl781000_52])
        (try simp only [hl781000_52] at BK759)
        (try simp only [hl781000_52] at BK773)
        (try simp only [hl781000_52] at BK780)
        (try simp only [hl781000_52] at BK787)
        (try simp only [hl781000_52] at HO_774000)
        (try simp only [hl781000_52] at HO_774001)
        (try simp only [hl781000_52] at HO_781001)
        (try simp only [hl781000_52] at HO_788000)
        (try simp only [hl781000_52] at HO_788001)
        have hl781001_52 := (Kd.R_reads' HO_781001.out).1
        rw [hl781001_52] at HO_781001
        (try simp only [hl781001_52])
        (try simp only [hl781001_52] at BK759)
        (try simp only [hl781001_52] at BK773)
        (try simp only [hl781001_52] at BK780)
        (try simp only [hl781001_52] at BK787)
        (try simp only [hl781001_52] at HO_774000)
        (try simp only [hl781001_52] at HO_774001)
        (try simp only [hl781001_52] at HO_781000)
        (try simp only [hl781001_52] at HO_788000)
        (try simp only [hl781001_52] at HO_788001)
        cases kq with
        | zero => exact absurd HA.out (by simp [laws_FnExactSecFlush.j3])
        | succ kj52 =>
         have H := HA.out
         clear HA
         simp only [laws_FnExactSecFlush.j3] at H
         have HC69 := Aside0.mk H
         clear H
         go_upto_if 42 with (fail)
         go_cut [] (fun wc => ∃ (kq : Nat), Aside0 (laws_FnExactSecFlush.j4 kq l0_0 l0_1 t767 t770 t781 t784 = some r) ∧ Aside0 (kq ≤ kj52) ∧ Aside0 (Kd.R Kd.string 9 wc w.heap.size (fun k_ => some k_ ≠ ((.slice Ao27 t797.length co27) : Value).ownBlock ∧ some k_ ≠ ((.slice Ao34 t781.length co34) : Value).ownBlock) (.slice Ao20 t767.length co20) t767) ∧ Aside0 (Kd.R k54 54 wc w.heap.size (fun k_ => some k_ ≠ ((.slice Ao31 t798.length co31) : Value).ownBlock ∧ some k_ ≠ ((.slice Ao39 t784.length co39) : Value).ownBlock) (.slice Ao23 t770.length co23) t770) ∧ Aside0 (Kd.R Kd.string 9 wc w.heap.size (fun k_ => some k_ ≠ ((.slice Ao20 t767.length co20) : Value).ownBlock ∧ some k_ ≠ ((.slice Ao34 t781.length co34) : Value).ownBlock) (.slice Ao27 t797.length co27) t797) ∧ Aside0 (Kd.R k54 54 wc w.heap.size (fun k_ => some k_ ≠ ((.slice Ao23 t770.length co23) : Value).ownBlock ∧ some k_ ≠ ((.slice Ao39 t784.length co39) : Value).ownBlock) (.slice Ao31 t798.length co31) t798) ∧ Aside0 (Kd.R Kd.string 9 wc w.heap.size (fun k_ => some k_ ≠ ((.slice Ao20 t767.length co20) : Value).ownBlock ∧ some k_ ≠ ((.slice Ao27 t797.length co27) : Value).ownBlock) (.slice Ao34 t781.length co34) t781) ∧ Aside0 (Kd.R k54 54 wc w.heap.size (fun k_ => some k_ ≠ ((.slice Ao23 t770.length co23) : Value).ownBlock ∧ some k_ ≠ ((.slice Ao31 t798.length co31) : Value).ownBlock) (.slice Ao39 t784.length co39) t784) ∧ Aside0 (wc.heap[gb759]? = some (.cells #[(.slice A0_0 l0_0.length c0_0), (.slice A0_1 l0_1.length c0_1)] 34 (0, 0))) ∧ Aside0 (wc.heap[gb773]? = some (.cells #[(.slice Ao20 t767.length co20), (.slice Ao23 t770.length co23)] 26 (0, 0))) ∧ Aside0 (wc.heap[gb780]? = some (.cells #[(.slice Ao27 t797.length co27), (.slice Ao31 t798.length co31)] 26 (0, 0))) ∧ Aside0 (wc.heap[gb787]? = some (.cells #[(.slice Ao34 t781.length co34), (.slice Ao39 t784.length co39)] 26 (0, 0))) ∧ Aside0 (Below w.heap.size w wc))
         case first =>
          have H := HC69.out
          clear HC69
          by_cases c70 : x42_52 = true
          ·subst c70
           have H1 : (some false) = some r := by rw [if_pos rfl] at H; exact H
           clear H
           have H := H1
           clear H1
           obtain rfl := Option.some.inj H
           go_wp2
           go_ret
           exact ⟨by first | rfl | (simp [errW_none, errW_some] <;> rfl) | (simp [*, errW_none, errW_some] <;> rfl), by repeat (first | (with_reducible first | exact HB.out | apply below_alloc | apply pw_below_drewN | apply below_drew1 | refine below_set ?_ GE759.out | refine below_set ?_ GE773.out | refine below_set ?_ GE780.out | refine below_set ?_ GE787.out) | exact HB.out)⟩
          ·replace c70 := Bool.eq_false_iff.mpr c70
           subst c70
           have H1 : (laws_FnExactSecFlush.j4 kj52 l0_0 l0_1 t767 t770 t781 t784) = some r := by rw [if_neg (show ¬ (false = true) by decide)] at H; exact H
           clear H
           have H := H1
           clear H1
           have H' := Aside0.mk H
           clear H
           go_wp2
           go_meet
           case rel => exact ⟨_, H', ⟨by have := HJ2.out; have := HJ12.out; have := HJ44.out; have := HJ52.out; first | omega | exact Nat.le_refl _⟩, ⟨by (try simp only [hl781000_52]); (try simp only [hl781001_52]); (with_reducible repeat (first | apply Kd.R_alloc | apply Kd.R_drewN | apply Kd.R_drew)); exact HO_774000.out⟩, ⟨by (try simp only [hl781000_52]); (try simp only [hl781001_52]); (with_reducible repeat (first | apply Kd.R_alloc | apply Kd.R_drewN | apply Kd.R_drew)); exact HO_774001.out⟩, ⟨by (try simp only [hl781000_52]); (try simp only [hl781001_52]); (with_reducible repeat (first | apply Kd.R_alloc | apply Kd.R_drewN | apply Kd.R_drew)); exact HO_781000.out⟩, ⟨by (try simp only [hl781000_52]); (try simp only [hl781001_52]); (with_reducible repeat (first | apply Kd.R_alloc | apply Kd.R_drewN | apply Kd.R_drew)); exact HO_781001.out⟩, ⟨by (try simp only [hl781000_52]); (try simp only [hl781001_52]); (with_reducible repeat (first | apply Kd.R_alloc | apply Kd.R_drewN | apply Kd.R_drew)); exact HO_788000.out⟩, ⟨by (try simp only [hl781000_52]); (try simp only [hl781001_52]); (with_reducible repeat (first | apply Kd.R_alloc | apply Kd.R_drewN | apply Kd.R_drew)); exact HO_788001.out⟩, ⟨by (try simp only [hl781000_52]); (try simp only [hl781001_52]); (with_reducible repeat (first | refine blk_drewN ?_ _ | refine blk_drew ?_ | refine blk_alloc ?_ _)); exact BK759.out⟩, ⟨by (try simp only [hl781000_52]); (try simp only [hl781001_52]); (with_reducible repeat (first | refine blk_drewN ?_ _ | refine blk_drew ?_ | refine blk_alloc ?_ _)); exact BK773.out⟩, ⟨by (try simp only [hl781000_52]); (try simp only [hl781001_52]); (with_reducible repeat (first | refine blk_drewN ?_ _ | refine blk_drew ?_ | refine blk_alloc ?_ _)); exact BK780.out⟩, ⟨by (try simp only [hl781000_52]); (try simp only [hl781001_52]); (with_reducible repeat (first | refine blk_drewN ?_ _ | refine blk_drew ?_ | refine blk_alloc ?_ _)); exact BK787.out⟩, ⟨by repeat (first | (with_reducible first | exact HB.out | apply below_alloc | apply pw_below_drewN | apply below_drew1 | refine below_set ?_ GE759.out | refine below_set ?_ GE773.out | refine below_set ?_ GE780.out | refine below_set ?_ GE787.out) | exact HB.out)⟩⟩
         case rest =>
          clear HC69
          try clear c1
          try clear c2
          try clear p2
          try clear c3
          try clear c4
          try clear c5
          try clear c6
          try clear c7
          try clear c7b0
          try clear c12
          try clear c17
          try clear c18
          try clear c21
          try clear c22
          try clear c24
          try clear c28
          try clear c29
          try clear c32
          try clear c35
          try clear c36
          try clear c37
          try clear c42
          try clear c51
          try clear c54
          try clear c55
          try clear c56
          try clear c59
          try clear c59b0
          try clear c61
          try clear c62
          try clear c63
          try clear c65
          try clear c66
          try clear c70
          try clear hcz14_0
          try clear hcz14_1
          try clear hcz22_0
          try clear hcz22_1
          try clear hcz24_0
          try clear hcz24_1
          try clear hcz30_0
          try clear hcz30_1
          try clear hcz38_0
          try clear hcz38_1
          try clear hcz40_0
          try clear hcz40_1
          try clear hcz57_0
          try clear hcz57_1
          try clear hcz5_0
          try clear hcz5_1
          try clear hcz64_0
          try clear hcz64_1
          try clear hcz67_0
          try clear hcz67_1
          try clear hfz14_0
          try clear hfz14_1
          try clear hfz22_0
          try clear hfz22_1
          try clear hfz24_0
          try clear hfz24_1
          try clear hfz30_0
          try clear hfz30_1
          try clear hfz38_0
          try clear hfz38_1
          try clear hfz40_0
          try clear hfz40_1
          try clear hfz57_0
          try clear hfz57_1
          try clear hfz5_0
          try clear hfz5_1
          try clear hfz64_0
          try clear hfz64_1
          try clear hfz67_0
          try clear hfz67_1
          try clear p2
          obtain ⟨kq, HA, HJ68, HO_774000, HO_774001, HO_781000, HO_781001, HO_788000, HO_788001, BK759, BK773, BK780, BK787, HB⟩ := hcut
          cases kq with
          | zero => exact absurd HA.out (by simp [laws_FnExactSecFlush.j4])
          | succ kj68 =>
           have H := HA.out
           clear HA
           simp only [laws_FnExactSecFlush.j4] at H
           replace H := Option.bind_eq_some_iff.mp H
           obtain ⟨⟨t800, t801, t802⟩, A710, H⟩ := H
           replace H : ((laws_heldSecDisk.f kj68 t801 t802 1).bind fun t803 => (if t803 < 0 then (some false) else (laws_FnExactSecFlush.j5 kj68 t800 t803 l0_0 l0_1 t767 t770 t801 t802))) = some r := H
           have A71 := Aside0.mk A710
           clear A710
           replace H := Option.bind_eq_some_iff.mp H
           obtain ⟨t803, A720, H⟩ := H
           replace H : (if t803 < 0 then (some false) else (laws_FnExactSecFlush.j5 kj68 t800 t803 l0_0 l0_1 t767 t770 t801 t802)) = some r := H
           have A72 := Aside0.mk A720
           clear A720
           have HC73 := Aside0.mk H
           clear H
           have hnb74 := NB787_759.out
           have hnc74 := NB759_787.out
           have hnb75 := NB787_773.out
           have hnc75 := NB773_787.out
           have hnb76 := NB787_780.out
           have hnc76 := NB780_787.out
           have hcz77_0 : wc.cell? ⟨gb787, 0, none⟩ = some (.slice Ao34 t781.length co34) := (blk_cell BK787.out 0).trans rfl
           have hcz77_1 : wc.cell? ⟨gb787, 1, none⟩ = some (.slice Ao39 t784.length co39) := (blk_cell BK787.out 1).trans rfl
           have hfz77_0 := blk_frozen BK787.out 0
           have hfz77_1 := blk_frozen BK787.out 1
           go_upto_if 50 with (first | ((with_reducible refine gate_callee (f := 18) rfl ?_); refine goesL_ (some 45) rfl rfl Try.func18 (by kernel_rfl) rfl #[.agg #[.slice Ao34 t781.length co34, .slice Ao39 t784.length co39], .int .i64 1] rfl bM ?_; (with_reducible refine (laws_markSecDisk.calls kj68 (fun k_ => some k_ = (.slice Ao34 t781.length co34 : Value).ownBlock) (.slice Ao34 t781.length co34) t781 (fun k_ => some k_ = (.slice Ao39 t784.length co39 : Value).ownBlock) (.slice Ao39 t784.length co39) t784 1 t800 t801 t802 w _ ?side1 ?side2 ?side3 A71.out).mono ?_); (case side1 => repeat (first | (with_reducible first | exact HB.out | apply below_alloc | apply pw_below_drewN | apply below_drew1 | refine below_set ?_ GE759.out | refine below_set ?_ GE773.out | refine below_set ?_ GE780.out | refine below_set ?_ GE787.out) | exact HB.out)); (case side2 => exact Kd.R_tight rfl HO_788000.out); (case side3 => exact Kd.R_tight rfl HO_788001.out); rintro e w78 ⟨rfl, hy0, hy1, hb, hkp⟩; refine ⟨_, rfl, ?_⟩; have n0_ := Aside0.mk (Kd.R_mono (ok' := fun k_ => some k_ ≠ (.slice Ao27 t797.length co27 : Value).ownBlock ∧ some k_ ≠ (.slice Ao34 t781.length co34 : Value).ownBlock) (Kd.R_keptB ((Kd.R_apart' HO_774000.out (Kd.R_typed HO_788001.out) (by decide))) hkp (fun k_ hk_ hs_ => Or.elim hs_ (fun e_ => (hk_.1.2) e_) (fun e_ => (hk_.2) e_))) (fun k_ hk_ => ⟨hk_.1.1.1, hk_.1.1.2⟩)); have n1_ := Aside0.mk (Kd.R_mono (ok' := fun k_ => some k_ ≠ (.slice Ao31 t798.length co31 : Value).ownBlock ∧ some k_ ≠ (.slice Ao39 t784.length co39 : Value).ownBlock) (Kd.R_keptB ((Kd.R_apart' HO_774001.out (Kd.R_typed HO_788000.out) (by decide))) hkp (fun k_ hk_ hs_ => Or.elim hs_ (fun e_ => (hk_.2) e_) (fun e_ => (hk_.1.2) e_))) (fun k_ hk_ => ⟨hk_.1.1.1, hk_.1.1.2⟩)); have n2_ := Aside0.mk (Kd.R_mono (ok' := fun k_ => some k_ ≠ (.slice Ao20 t767.length co20 : Value).ownBlock ∧ some k_ ≠ (.slice Ao34 t781.length co34 : Value).ownBlock) (Kd.R_keptB ((Kd.R_apart' HO_781000.out (Kd.R_typed HO_788001.out) (by decide))) hkp (fun k_ hk_ hs_ => Or.elim hs_ (fun e_ => (hk_.1.2) e_) (fun e_ => (hk_.2) e_))) (fun k_ hk_ => ⟨hk_.1.1.1, hk_.1.1.2⟩)); have n3_ := Aside0.mk (Kd.R_mono (ok' := fun k_ => some k_ ≠ (.slice Ao23 t770.length co23 : Value).ownBlock ∧ some k_ ≠ (.slice Ao39 t784.length co39 : Value).ownBlock) (Kd.R_keptB ((Kd.R_apart' HO_781001.out (Kd.R_typed HO_788000.out) (by decide))) hkp (fun k_ hk_ hs_ => Or.elim hs_ (fun e_ => (hk_.2) e_) (fun e_ => (hk_.1.2) e_))) (fun k_ hk_ => ⟨hk_.1.1.1, hk_.1.1.2⟩)); have n4_ := Aside0.mk (Kd.R_reok rfl hy0 (fun k_ e_ => HO_788000.out.1 k_ e_)); have n5_ := Aside0.mk (Kd.R_reok rfl hy1 (fun k_ e_ => HO_788001.out.1 k_ e_)); have n6_ := Aside0.mk (blk_kept (pK BK759.out) hkp (fun hs_ => Or.elim hs_ (fun e_ => (fun e_ => (Kd.R_ne HO_788000.out BK759.out (by decide)) e_) e_) (fun e_ => (fun e_ => (Kd.R_ne HO_788001.out BK759.out (by decide)) e_) e_))); have n7_ := Aside0.mk (blk_kept (pK BK773.out) hkp (fun hs_ => Or.elim hs_ (fun e_ => (fun e_ => (Kd.R_ne HO_788000.out BK773.out (by decide)) e_) e_) (fun e_ => (fun e_ => (Kd.R_ne HO_788001.out BK773.out (by decide)) e_) e_))); have n8_ := Aside0.mk (blk_kept (pK BK780.out) hkp (fun hs_ => Or.elim hs_ (fun e_ => (fun e_ => (Kd.R_ne HO_788000.out BK780.out (by decide)) e_) e_) (fun e_ => (fun e_ => (Kd.R_ne HO_788001.out BK780.out (by decide)) e_) e_))); have n9_ := Aside0.mk (blk_kept (pK BK787.out) hkp (fun hs_ => Or.elim hs_ (fun e_ => (fun e_ => (Kd.R_ne HO_788000.out BK787.out (by decide)) e_) e_) (fun e_ => (fun e_ => (Kd.R_ne HO_788001.out BK787.out (by decide)) e_) e_))); have n10_ := Aside0.mk (hb); clear HO_774000; clear HO_774001; clear HO_781000; clear HO_781001; clear HO_788000; clear HO_788001; clear BK759; clear BK773; clear BK780; clear BK787; clear HB; have HO_774000 := n0_; have HO_774001 := n1_; have HO_781000 := n2_; have HO_781001 := n3_; have HO_788000 := n4_; have HO_788001 := n5_; have BK759 := n6_; have BK773 := n7_; have BK780 := n8_; have BK787 := n9_; have HB := n10_; clear n0_ n1_ n2_ n3_ n4_ n5_ n6_ n7_ n8_ n9_ n10_; (try clear hb); (try clear hkp); (try clear hy0); (try clear hy1); have hcz79_0 : w78.cell? ⟨gb787, 0, none⟩ = some (.slice Ao34 t781.length co34) := (blk_cell BK787.out 0).trans rfl; have hcz79_1 : w78.cell? ⟨gb787, 1, none⟩ = some (.slice Ao39 t784.length co39) := (blk_cell BK787.out 1).trans rfl; have hfz79_0 := blk_frozen BK787.out 0; have hfz79_1 := blk_frozen BK787.out 1) | ((with_reducible refine gate_callee (f := 19) rfl ?_); refine goesL_ (some 48) rfl rfl Try.func19 (by kernel_rfl) rfl #[.agg #[.slice Ao34 t801.length co34, .slice Ao39 t802.length co39], .int .i64 1] rfl (by (try simp only [List.map_toArray, List.map_cons, List.map_nil]); first | done | (rw [show t801.length = t781.length from (Kd.R_reads' HO_788000.out).1.symm, show t802.length = t784.length from (Kd.R_reads' HO_788001.out).1.symm] <;> rfl) | rfl | (simp only [List.length_drop, List.length_take]; rfl)) ?_; (with_reducible refine (laws_heldSecDisk.calls kj68 _ _ t801 _ _ t802 1 t803 _ ?side1 ?side2 ?side3 ?side4 A72.out).mono ?_); (case side1 => exact pC (Kd.R_reads' HO_788000.out).2.2); (case side2 => rw [show t801.length = t781.length from (Kd.R_reads' HO_788000.out).1.symm]; exact (Kd.R_reads' HO_788000.out).2.1); (case side3 => exact pC (Kd.R_reads' HO_788001.out).2.2); (case side4 => rw [show t802.length = t784.length from (Kd.R_reads' HO_788001.out).1.symm]; exact (Kd.R_reads' HO_788001.out).2.1); rintro e w80 ⟨rfl, hb⟩; refine ⟨_, rfl, ?_⟩; have n0_ := Aside0.mk (Kd.R_below (pR HO_774000.out) hb); have n1_ := Aside0.mk (Kd.R_below (pR HO_774001.out) hb); have n2_ := Aside0.mk (Kd.R_below (pR HO_781000.out) hb); have n3_ := Aside0.mk (Kd.R_below (pR HO_781001.out) hb); have n4_ := Aside0.mk (Kd.R_below (pR HO_788000.out) hb); have n5_ := Aside0.mk (Kd.R_below (pR HO_788001.out) hb); have n6_ := Aside0.mk (blk_below (g := gb759) (o := .cells #[.slice A0_0 l0_0.length c0_0, .slice A0_1 l0_1.length c0_1] 34 (0, 0)) (pK BK759.out) hb); have n7_ := Aside0.mk (blk_below (g := gb773) (o := .cells #[.slice Ao20 t767.length co20, .slice Ao23 t770.length co23] 26 (0, 0)) (pK BK773.out) hb); have n8_ := Aside0.mk (blk_below (g := gb780) (o := .cells #[.slice Ao27 t797.length co27, .slice Ao31 t798.length co31] 26 (0, 0)) (pK BK780.out) hb); have n9_ := Aside0.mk (blk_below (g := gb787) (o := .cells #[.slice Ao34 t781.length co34, .slice Ao39 t784.length co39] 26 (0, 0)) (pK BK787.out) hb); have n10_ := Aside0.mk (below_step (by repeat (first | (with_reducible first | exact HB.out | apply below_alloc | apply pw_below_drewN | apply below_drew1 | refine below_set ?_ GE759.out | refine below_set ?_ GE773.out | refine below_set ?_ GE780.out | refine below_set ?_ GE787.out) | exact HB.out)) hb); clear HO_774000; clear HO_774001; clear HO_781000; clear HO_781001; clear HO_788000; clear HO_788001; clear BK759; clear BK773; clear BK780; clear BK787; clear HB; have HO_774000 := n0_; have HO_774001 := n1_; have HO_781000 := n2_; have HO_781001 := n3_; have HO_788000 := n4_; have HO_788001 := n5_; have BK759 := n6_; have BK773 := n7_; have BK780 := n8_; have BK787 := n9_; have HB := n10_; clear n0_ n1_ n2_ n3_ n4_ n5_ n6_ n7_ n8_ n9_ n10_; (try clear hb); (try clear hb2); (try clear hk); (try clear hi)))
           (try simp only [Act.put, List.setIfInBounds_toArray, List.set_cons_zero, List.set_cons_succ])
           go_cut [] (fun wc => ∃ (kq : Nat), Aside0 (laws_FnExactSecFlush.j5 kq t800 t803 l0_0 l0_1 t767 t770 t801 t802 = some r) ∧ Aside0 (kq ≤ kj68) ∧ Aside0 (Kd.R Kd.string 9 wc w.heap.size (fun k_ => some k_ ≠ ((.slice Ao27 t797.length co27) : Value).ownBlock ∧ some k_ ≠ ((.slice Ao34 t781.length co34) : Value).ownBlock) (.slice Ao20 t767.length co20) t767) ∧ Aside0 (Kd.R k54 54 wc w.heap.size (fun k_ => some k_ ≠ ((.slice Ao31 t798.length co31) : Value).ownBlock ∧ some k_ ≠ ((.slice Ao39 t784.length co39) : Value).ownBlock) (.slice Ao23 t770.length co23) t770) ∧ Aside0 (Kd.R Kd.string 9 wc w.heap.size (fun k_ => some k_ ≠ ((.slice Ao20 t767.length co20) : Value).ownBlock ∧ some k_ ≠ ((.slice Ao34 t781.length co34) : Value).ownBlock) (.slice Ao27 t797.length co27) t797) ∧ Aside0 (Kd.R k54 54 wc w.heap.size (fun k_ => some k_ ≠ ((.slice Ao23 t770.length co23) : Value).ownBlock ∧ some k_ ≠ ((.slice Ao39 t784.length co39) : Value).ownBlock) (.slice Ao31 t798.length co31) t798) ∧ Aside0 (Kd.R Kd.string 9 wc w.heap.size (fun k_ => some k_ ≠ ((.slice Ao20 t767.length co20) : Value).ownBlock ∧ some k_ ≠ ((.slice Ao27 t797.length co27) : Value).ownBlock) (.slice Ao34 t781.length co34) t801) ∧ Aside0 (Kd.R k54 54 wc w.heap.size (fun k_ => some k_ ≠ ((.slice Ao23 t770.length co23) : Value).ownBlock ∧ some k_ ≠ ((.slice Ao31 t798.length co31) : Value).ownBlock) (.slice Ao39 t784.length co39) t802) ∧ Aside0 (wc.heap[gb759]? = some (.cells #[(.slice A0_0 l0_0.length c0_0), (.slice A0_1 l0_1.length c0_1)] 34 (0, 0))) ∧ Aside0 (wc.heap[gb773]? = some (.cells #[(.slice Ao20 t767.length co20), (.slice Ao23 t770.length co23)] 26 (0, 0))) ∧ Aside0 (wc.heap[gb780]? = some (.cells #[(.slice Ao27 t797.length co27), (.slice Ao31 t798.length co31)] 26 (0, 0))) ∧ Aside0 (wc.heap[gb787]? = some (.cells #[(.slice Ao34 t781.length co34), (.slice Ao39 t784.length co39)] 26 (0, 0))) ∧ Aside0 (Below w.heap.size w wc))
           case first =>
            have H := HC73.out
            clear HC73
            by_cases c81 : t803 < 0
            ·rw [if_pos c81] at H
             have c81b0 : decide (t803 < 0) = true := decide_eq_true c81
             clear c81
             (first | rw [c81b0] | (simp only [i64_w, i32_w]; rw [c81b0]) | skip)
             obtain rfl := Option.some.inj H
             go_wp2
             go_ret
             exact ⟨by first | rfl | (simp [errW_none, errW_some] <;> rfl) | (simp [*, errW_none, errW_some] <;> rfl), by repeat (first | (with_reducible first | exact HB.out | apply below_alloc | apply pw_below_drewN | apply below_drew1 | refine below_set ?_ GE759.out | refine below_set ?_ GE773.out | refine below_set ?_ GE780.out | refine below_set ?_ GE787.out) | exact HB.out)⟩
            ·rw [if_neg c81] at H
             have c81b0 : decide (t803 < 0) = false := decide_eq_false c81
             clear c81
             (first | rw [c81b0] | (simp only [i64_w, i32_w]; rw [c81b0]) | skip)
             have H' := Aside0.mk H
             clear H
             go_wp2
             go_meet
             case rel => exact ⟨_, H', ⟨by have := HJ2.out; have := HJ12.out; have := HJ44.out; have := HJ52.out; have := HJ68.out; first | omega | exact Nat.le_refl _⟩, ⟨by (try simp only [hl781000_52]); (try simp only [hl781001_52]); (with_reducible repeat (first | apply Kd.R_alloc | apply Kd.R_drewN | apply Kd.R_drew)); exact HO_774000.out⟩, ⟨by (try simp only [hl781000_52]); (try simp only [hl781001_52]); (with_reducible repeat (first | apply Kd.R_alloc | apply Kd.R_drewN | apply Kd.R_drew)); exact HO_774001.out⟩, ⟨by (try simp only [hl781000_52]); (try simp only [hl781001_52]); (with_reducible repeat (first | apply Kd.R_alloc | apply Kd.R_drewN | apply Kd.R_drew)); exact HO_781000.out⟩, ⟨by (try simp only [hl781000_52]); (try simp only [hl781001_52]); (with_reducible repeat (first | apply Kd.R_alloc | apply Kd.R_drewN | apply Kd.R_drew)); exact HO_781001.out⟩, ⟨by (try simp only [hl781000_52]); (try simp only [hl781001_52]); (with_reducible repeat (first | apply Kd.R_alloc | apply Kd.R_drewN | apply Kd.R_drew)); exact HO_788000.out⟩, ⟨by (try simp only [hl781000_52]); (try simp only [hl781001_52]); (with_reducible repeat (first | apply Kd.R_alloc | apply Kd.R_drewN | apply Kd.R_drew)); exact HO_788001.out⟩, ⟨by (try simp only [hl781000_52]); (try simp only [hl781001_52]); (with_reducible repeat (first | refine blk_drewN ?_ _ | refine blk_drew ?_ | refine blk_alloc ?_ _)); exact BK759.out⟩, ⟨by (try simp only [hl781000_52]); (try simp only [hl781001_52]); (with_reducible repeat (first | refine blk_drewN ?_ _ | refine blk_drew ?_ | refine blk_alloc ?_ _)); exact BK773.out⟩, ⟨by (try simp only [hl781000_52]); (try simp only [hl781001_52]); (with_reducible repeat (first | refine blk_drewN ?_ _ | refine blk_drew ?_ | refine blk_alloc ?_ _)); exact BK780.out⟩, ⟨by (try simp only [hl781000_52]); (try simp only [hl781001_52]); (with_reducible repeat (first | refine blk_drewN ?_ _ | refine blk_drew ?_ | refine blk_alloc ?_ _)); exact BK787.out⟩, ⟨by repeat (first | (with_reducible first | exact HB.out | apply below_alloc | apply pw_below_drewN | apply below_drew1 | refine below_set ?_ GE759.out | refine below_set ?_ GE773.out | refine below_set ?_ GE780.out | refine below_set ?_ GE787.out) | exact HB.out)⟩⟩
           case rest =>
            clear HC73
            try clear c1
            try clear c2
            try clear p2
            try clear c3
            try clear c4
            try clear c5
            try clear c6
            try clear c7
            try clear c7b0
            try clear c8
            try clear c12
            try clear c17
            try clear c18
            try clear c19
            try clear c21
            try clear c22
            try clear c24
            try clear c28
            try clear c29
            try clear c32
            try clear c35
            try clear c36
            try clear c37
            try clear c42
            try clear c51
            try clear c54
            try clear c55
            try clear c56
            try clear c59
            try clear c59b0
            try clear c61
            try clear c62
            try clear c63
            try clear c65
            try clear c66
            try clear c70
            try clear c74
            try clear c75
            try clear c76
            try clear c81
            try clear c81b0
            try clear hcz14_0
            try clear hcz14_1
            try clear hcz22_0
            try clear hcz22_1
            try clear hcz24_0
            try clear hcz24_1
            try clear hcz30_0
            try clear hcz30_1
            try clear hcz38_0
            try clear hcz38_1
            try clear hcz40_0
            try clear hcz40_1
            try clear hcz57_0
            try clear hcz57_1
            try clear hcz5_0
            try clear hcz5_1
            try clear hcz64_0
            try clear hcz64_1
            try clear hcz67_0
            try clear hcz67_1
            try clear hcz77_0
            try clear hcz77_1
            try clear hcz79_0
            try clear hcz79_1
            try clear hfz14_0
            try clear hfz14_1
            try clear hfz22_0
            try clear hfz22_1
            try clear hfz24_0
            try clear hfz24_1
            try clear hfz30_0
            try clear hfz30_1
            try clear hfz38_0
            try clear hfz38_1
            try clear hfz40_0
            try clear hfz40_1
            try clear hfz57_0
            try clear hfz57_1
            try clear hfz5_0
            try clear hfz5_1
            try clear hfz64_0
            try clear hfz64_1
            try clear hfz67_0
            try clear hfz67_1
            try clear hfz77_0
            try clear hfz77_1
            try clear hfz79_0
            try clear hfz79_1
            try clear p2
            obtain ⟨kq, HA, HJ72, HO_774000, HO_774001, HO_781000, HO_781001, HO_788000, HO_788001, BK759, BK773, BK780, BK787, HB⟩ := hcut
            have hl788000_72 := (Kd.R_reads' HO_788000.out).1
            rw [hl788000_72] at HO_788000
            (try simp only [hl788000_72])
            (try simp only [hl788000_72] at BK759)
            (try simp only [hl788000_72] at BK773)
            (try simp only [hl788000_72] at BK780)
            (try simp only [hl788000_72] at BK787)
            (try simp only [hl788000_72] at HO_774000)
            (try simp only [hl788000_72] at HO_774001)
            (try simp only [hl788000_72] at HO_781000)
            (try simp only [hl788000_72] at HO_781001)
            (try simp only [hl788000_72] at HO_788001)
            have hl788001_72 := (Kd.R_reads' HO_788001.out).1
            rw [hl788001_72] at HO_788001
            (try simp only [hl788001_72])
            (try simp only [hl788001_72] at BK759)
            (try simp only [hl788001_72] at BK773)
            (try simp only [hl788001_72] at BK780)
            (try simp only [hl788001_72] at BK787)
            (try simp only [hl788001_72] at HO_774000)
            (try simp only [hl788001_72] at HO_774001)
            (try simp only [hl788001_72] at HO_781000)
            (try simp only [hl788001_72] at HO_781001)
            (try simp only [hl788001_72] at HO_788000)
            cases kq with
            | zero => exact absurd HA.out (by simp [laws_FnExactSecFlush.j5])
            | succ kj72 =>
             have H := HA.out
             clear HA
             simp only [laws_FnExactSecFlush.j5] at H
             have HC82 := Aside0.mk H
             clear H
             go_upto_if 53 with (fail)
             go_cut [] (fun wc => ∃ (kq : Nat), Aside0 (laws_FnExactSecFlush.j6 kq t800 l0_0 l0_1 t767 t770 t801 t802 = some r) ∧ Aside0 (kq ≤ kj72) ∧ Aside0 (Kd.R Kd.string 9 wc w.heap.size (fun k_ => some k_ ≠ ((.slice Ao27 t797.length co27) : Value).ownBlock ∧ some k_ ≠ ((.slice Ao34 t801.length co34) : Value).ownBlock) (.slice Ao20 t767.length co20) t767) ∧ Aside0 (Kd.R k54 54 wc w.heap.size (fun k_ => some k_ ≠ ((.slice Ao31 t798.length co31) : Value).ownBlock ∧ some k_ ≠ ((.slice Ao39 t802.length co39) : Value).ownBlock) (.slice Ao23 t770.length co23) t770) ∧ Aside0 (Kd.R Kd.string 9 wc w.heap.size (fun k_ => some k_ ≠ ((.slice Ao20 t767.length co20) : Value).ownBlock ∧ some k_ ≠ ((.slice Ao34 t801.length co34) : Value).ownBlock) (.slice Ao27 t797.length co27) t797) ∧ Aside0 (Kd.R k54 54 wc w.heap.size (fun k_ => some k_ ≠ ((.slice Ao23 t770.length co23) : Value).ownBlock ∧ some k_ ≠ ((.slice Ao39 t802.length co39) : Value).ownBlock) (.slice Ao31 t798.length co31) t798) ∧ Aside0 (Kd.R Kd.string 9 wc w.heap.size (fun k_ => some k_ ≠ ((.slice Ao20 t767.length co20) : Value).ownBlock ∧ some k_ ≠ ((.slice Ao27 t797.length co27) : Value).ownBlock) (.slice Ao34 t801.length co34) t801) ∧ Aside0 (Kd.R k54 54 wc w.heap.size (fun k_ => some k_ ≠ ((.slice Ao23 t770.length co23) : Value).ownBlock ∧ some k_ ≠ ((.slice Ao31 t798.length co31) : Value).ownBlock) (.slice Ao39 t802.length co39) t802) ∧ Aside0 (wc.heap[gb759]? = some (.cells #[(.slice A0_0 l0_0.length c0_0), (.slice A0_1 l0_1.length c0_1)] 34 (0, 0))) ∧ Aside0 (wc.heap[gb773]? = some (.cells #[(.slice Ao20 t767.length co20), (.slice Ao23 t770.length co23)] 26 (0, 0))) ∧ Aside0 (wc.heap[gb780]? = some (.cells #[(.slice Ao27 t797.length co27), (.slice Ao31 t798.length co31)] 26 (0, 0))) ∧ Aside0 (wc.heap[gb787]? = some (.cells #[(.slice Ao34 t801.length co34), (.slice Ao39 t802.length co39)] 26 (0, 0))) ∧ Aside0 (Below w.heap.size w wc))
             case first =>
              have H := HC82.out
              clear HC82
              by_cases c83 : t803 = t800
              ·rw [if_pos c83] at H
               have c83b0 : (t803 == t800) = true := beq_iff_eq.mpr c83
               have c83b1 : (t803 != t800) = false := bne_eq_false_iff_eq.mpr c83
               clear c83
               (first | rw [c83b0] | (simp only [i64_w, i32_w]; rw [c83b0]) | skip)
               have H' := Aside0.mk H
               clear H
               go_wp2
               go_meet
               case rel => exact ⟨_, H', ⟨by have := HJ2.out; have := HJ12.out; have := HJ44.out; have := HJ52.out; have := HJ68.out; have := HJ72.out; first | omega | exact Nat.le_refl _⟩, ⟨by (try simp only [hl781000_52]); (try simp only [hl781001_52]); (try simp only [hl788000_72]); (try simp only [hl788001_72]); (with_reducible repeat (first | apply Kd.R_alloc | apply Kd.R_drewN | apply Kd.R_drew)); exact HO_774000.out⟩, ⟨by (try simp only [hl781000_52]); (try simp only [hl781001_52]); (try simp only [hl788000_72]); (try simp only [hl788001_72]); (with_reducible repeat (first | apply Kd.R_alloc | apply Kd.R_drewN | apply Kd.R_drew)); exact HO_774001.out⟩, ⟨by (try simp only [hl781000_52]); (try simp only [hl781001_52]); (try simp only [hl788000_72]); (try simp only [hl788001_72]); (with_reducible repeat (first | apply Kd.R_alloc | apply Kd.R_drewN | apply Kd.R_drew)); exact HO_781000.out⟩, ⟨by (try simp only [hl781000_52]); (try simp only [hl781001_52]); (try simp only [hl788000_72]); (try simp only [hl788001_72]); (with_reducible repeat (first | apply Kd.R_alloc | apply Kd.R_drewN | apply Kd.R_drew)); exact HO_781001.out⟩, ⟨by (try simp only [hl781000_52]); (try simp only [hl781001_52]); (try simp only [hl788000_72]); (try simp only [hl788001_72]); (with_reducible repeat (first | apply Kd.R_alloc | apply Kd.R_drewN | apply Kd.R_drew)); exact HO_788000.out⟩, ⟨by (try simp only [hl781000_52]); (try simp only [hl781001_52]); (try simp only [hl788000_72]); (try simp only [hl788001_72]); (with_reducible repeat (first | apply Kd.R_alloc | apply Kd.R_drewN | apply Kd.R_drew)); exact HO_788001.out⟩, ⟨by (try simp only [hl781000_52]); (try simp only [hl781001_52]); (try simp only [hl788000_72]); (try simp only [hl788001_72]); (with_reducible repeat (first | refine blk_drewN ?_ _ | refine blk_drew ?_ | refine blk_alloc ?_ _)); exact BK759.out⟩, ⟨by (try simp only [hl781000_52]); (try simp only [hl781001_52]); (try simp only [hl788000_72]); (try simp only [hl788001_72]); (with_reducible repeat (first | refine blk_drewN ?_ _ | refine blk_drew ?_ | refine blk_alloc ?_ _)); exact BK773.out⟩, ⟨by (try simp only [hl781000_52]); (try simp only [hl781001_52]); (try simp only [hl788000_72]); (try simp only [hl788001_72]); (with_reducible repeat (first | refine blk_drewN ?_ _ | refine blk_drew ?_ | refine blk_alloc ?_ _)); exact BK780.out⟩, ⟨by (try simp only [hl781000_52]); (try simp only [hl781001_52]); (try simp only [hl788000_72]); (try simp only [hl788001_72]); (with_reducible repeat (first | refine blk_drewN ?_ _ | refine blk_drew ?_ | refine blk_alloc ?_ _)); exact BK787.out⟩, ⟨by repeat (first | (with_reducible first | exact HB.out | apply below_alloc | apply pw_below_drewN | apply below_drew1 | refine below_set ?_ GE759.out | refine below_set ?_ GE773.out | refine below_set ?_ GE780.out | refine below_set ?_ GE787.out) | exact HB.out)⟩⟩
              ·rw [if_neg c83] at H
               have c83b0 : (t803 == t800) = false := beq_eq_false_iff_ne.mpr c83
               have c83b1 : (t803 != t800) = true := bne_iff_ne.mpr c83
               (first | rw [c83b0] | (simp only [i64_w, i32_w]; rw [c83b0]) | skip)
               obtain rfl := Option.some.inj H
               go_wp2
               go_ret
               exact ⟨by first | rfl | (simp [errW_none, errW_some] <;> rfl) | (simp [*, errW_none, errW_some] <;> rfl), by repeat (first | (with_reducible first | exact HB.out | apply below_alloc | apply pw_below_drewN | apply below_drew1 | refine below_set ?_ GE759.out | refine below_set ?_ GE773.out | refine below_set ?_ GE780.out | refine below_set ?_ GE787.out) | exact HB.out)⟩
             case rest =>
              clear HC82
              try clear c1
              try clear c2
              try clear p2
              try clear c3
              try clear c4
              try clear c5
              try clear c6
              try clear c7
              try clear c7b0
              try clear c8
              try clear c12
              try clear c17
              try clear c18
              try clear c19
              try clear c21
              try clear c22
              try clear c24
              try clear c28
              try clear c29
              try clear c32
              try clear c35
              try clear c36
              try clear c37
              try clear c42
              try clear c51
              try clear c54
              try clear c55
              try clear c56
              try clear c59
              try clear c59b0
              try clear c61
              try clear c62
              try clear c63
              try clear c65
              try clear c66
              try clear c70
              try clear c74
              try clear c75
              try clear c76
              try clear c81
              try clear c81b0
              try clear c83
              try clear c83b0
              try clear c83b1
              try clear hcz14_0
              try clear hcz14_1
              try clear hcz22_0
              try clear hcz22_1
              try clear hcz24_0
              try clear hcz24_1
              try clear hcz30_0
              try clear hcz30_1
              try clear hcz38_0
              try clear hcz38_1
              try clear hcz40_0
              try clear hcz40_1
              try clear hcz57_0
              try clear hcz57_1
              try clear hcz5_0
              try clear hcz5_1
              try clear hcz64_0
              try clear hcz64_1
              try clear hcz67_0
              try clear hcz67_1
              try clear hcz77_0
              try clear hcz77_1
              try clear hcz79_0
              try clear hcz79_1
              try clear hfz14_0
              try clear hfz14_1
              try clear hfz22_0
              try clear hfz22_1
              try clear hfz24_0
              try clear hfz24_1
              try clear hfz30_0
              try clear hfz30_1
              try clear hfz38_0
              try clear hfz38_1
              try clear hfz40_0
              try clear hfz40_1
              try clear hfz57_0
              try clear hfz57_1
              try clear hfz5_0
              try clear hfz5_1
              try clear hfz64_0
              try clear hfz64_1
              try clear hfz67_0
              try clear hfz67_1
              try clear hfz77_0
              try clear hfz77_1
              try clear hfz79_0
              try clear hfz79_1
              try clear p2
              obtain ⟨kq, HA, HJ81, HO_774000, HO_774001, HO_781000, HO_781001, HO_788000, HO_788001, BK759, BK773, BK780, BK787, HB⟩ := hcut
              cases kq with
              | zero => exact absurd HA.out (by simp [laws_FnExactSecFlush.j6])
              | succ kj81 =>
               have H := HA.out
               clear HA
               simp only [laws_FnExactSecFlush.j6] at H
               replace H := Option.bind_eq_some_iff.mp H
               obtain ⟨⟨t804, t807⟩, A840, H⟩ := H
               replace H : ((impl_SecFlush.f kj81 t804 t807).bind fun bt810 => ((laws_eqSecDisk.f kj81 bt810.1 bt810.2 t767 t770).bind fun t817 => (if t817 = true then (laws_FnExactSecFlush.j7 kj81 t800 t801 t802) else (some false)))) = some r := H
               have A84 := Aside0.mk A840
               clear A840
               replace H := Option.bind_eq_some_iff.mp H
               obtain ⟨⟨t810, t813⟩, A850, H⟩ := H
               replace H : ((laws_eqSecDisk.f kj81 t810 t813 t767 t770).bind fun t817 => (if t817 = true then (laws_FnExactSecFlush.j7 kj81 t800 t801 t802) else (some false))) = some r := H
               have A85 := Aside0.mk A850
               clear A850
               replace H := Option.bind_eq_some_iff.mp H
               obtain ⟨t817, A860, H⟩ := H
               replace H : (if t817 = true then (laws_FnExactSecFlush.j7 kj81 t800 t801 t802) else (some false)) = some r := H
               have A86 := Aside0.mk A860
               clear A860
               have HC87 := Aside0.mk H
               clear H
               have hnb88 := NB759_773.out
               have hnc88 := NB773_759.out
               have hnb89 := NB759_780.out
               have hnc89 := NB780_759.out
               have hnb90 := NB759_787.out
               have hnc90 := NB787_759.out
               have hcz91_0 : wc.cell? ⟨gb759, 0, none⟩ = some (.slice A0_0 l0_0.length c0_0) := (blk_cell BK759.out 0).trans rfl
               have hcz91_1 : wc.cell? ⟨gb759, 1, none⟩ = some (.slice A0_1 l0_1.length c0_1) := (blk_cell BK759.out 1).trans rfl
               have hfz91_0 := blk_frozen BK759.out 0
               have hfz91_1 := blk_frozen BK759.out 1
               go_upto_if 60 with (first | ((with_reducible refine gate_callee (f := 24) rfl ?_); refine goesL_ (some 55) rfl rfl Try.func24 (by kernel_rfl) rfl #[.agg #[.slice A0_0 l0_0.length c0_0, .slice A0_1 l0_1.length c0_1]] rfl bM ?_; (with_reducible refine (laws_toSecDisk.calls kj81 _ _ l0_0 _ _ l0_1 t804 t807 _ ?side1 ?side2 ?side3 ?side4 A84.out).mono ?_); (case side1 => repeat (first | exact (Kd.C_below HR0_0.out HB.out) | (with_reducible refine Kd.C_alloc ?_ _) | (with_reducible refine Kd.C_drewN ?_ _) | (with_reducible refine Kd.C_drew ?_))); (case side2 => exact HC0_0.out); (case side3 => repeat (first | exact (Kd.C_below HR0_1.out HB.out) | (with_reducible refine Kd.C_alloc ?_ _) | (with_reducible refine Kd.C_drewN ?_ _) | (with_reducible refine Kd.C_drew ?_))); (case side4 => exact HC0_1.out); rintro e w92 ⟨v805, v808, rfl, ho0, ho1, hb⟩; refine ⟨_, rfl, ?_⟩; have n0_ := Aside0.mk (Kd.R_elder' (pR HO_774000.out) (Kd.R_base ho0) hb); have n1_ := Aside0.mk (Kd.R_elder' (pR HO_774001.out) (Kd.R_base ho1) hb); have n2_ := Aside0.mk (Kd.R_elder' (pR HO_781000.out) (Kd.R_base ho0) hb); have n3_ := Aside0.mk (Kd.R_elder' (pR HO_781001.out) (Kd.R_base ho1) hb); have n4_ := Aside0.mk (Kd.R_elder' (pR HO_788000.out) (Kd.R_base ho0) hb); have n5_ := Aside0.mk (Kd.R_elder' (pR HO_788001.out) (Kd.R_base ho1) hb); have n6_ := Aside0.mk (Kd.R_lower (Kd.R_new' (Kd.R_new' (Kd.R_new' ho0 (Kd.R_lt (pR HO_774000.out))) (Kd.R_lt (pR HO_781000.out))) (Kd.R_lt (pR HO_788000.out))) (below_size (by repeat (first | (with_reducible first | exact HB.out | apply below_alloc | apply pw_below_drewN | apply below_drew1 | refine below_set ?_ GE759.out | refine below_set ?_ GE773.out | refine below_set ?_ GE780.out | refine below_set ?_ GE787.out) | exact HB.out)))); have n7_ := Aside0.mk (Kd.R_lower (Kd.R_new' (Kd.R_new' (Kd.R_new' ho1 (Kd.R_lt (pR HO_774001.out))) (Kd.R_lt (pR HO_781001.out))) (Kd.R_lt (pR HO_788001.out))) (below_size (by repeat (first | (with_reducible first | exact HB.out | apply below_alloc | apply pw_below_drewN | apply below_drew1 | refine below_set ?_ GE759.out | refine below_set ?_ GE773.out | refine below_set ?_ GE780.out | refine below_set ?_ GE787.out) | exact HB.out)))); have n8_ := Aside0.mk (blk_below (g := gb759) (o := .cells #[.slice A0_0 l0_0.length c0_0, .slice A0_1 l0_1.length c0_1] 34 (0, 0)) (pK BK759.out) hb); have n9_ := Aside0.mk (blk_below (g := gb773) (o := .cells #[.slice Ao20 t767.length co20, .slice Ao23 t770.length co23] 26 (0, 0)) (pK BK773.out) hb); have n10_ := Aside0.mk (blk_below (g := gb780) (o := .cells #[.slice Ao27 t797.length co27, .slice Ao31 t798.length co31] 26 (0, 0)) (pK BK780.out) hb); have n11_ := Aside0.mk (blk_below (g := gb787) (o := .cells #[.slice Ao34 t801.length co34, .slice Ao39 t802.length co39] 26 (0, 0)) (pK BK787.out) hb); have n12_ := Aside0.mk (below_step (by repeat (first | (with_reducible first | exact HB.out | apply below_alloc | apply pw_below_drewN | apply below_drew1 | refine below_set ?_ GE759.out | refine below_set ?_ GE773.out | refine below_set ?_ GE780.out | refine below_set ?_ GE787.out) | exact HB.out)) hb); clear HO_774000; clear HO_774001; clear HO_781000; clear HO_781001; clear HO_788000; clear HO_788001; clear BK759; clear BK773; clear BK780; clear BK787; clear HB; have HO_774000 := n0_; have HO_774001 := n1_; have HO_781000 := n2_; have HO_781001 := n3_; have HO_788000 := n4_; have HO_788001 := n5_; have HO806 := n6_; have HO809 := n7_; have BK759 := n8_; have BK773 := n9_; have BK780 := n10_; have BK787 := n11_; have HB := n12_; clear n0_ n1_ n2_ n3_ n4_ n5_ n6_ n7_ n8_ n9_ n10_ n11_ n12_; (try clear hb); (try clear hb2); (try clear hk); (try clear hi); (try clear ho0); (try clear ho1); obtain ⟨Ao93, co93, eo93⟩ := Kd.R_slice HO806.out; subst eo93; obtain ⟨Ao94, co94, eo94⟩ := Kd.R_slice HO809.out; subst eo94) | ((with_reducible refine gate_callee (f := 32) rfl ?_); refine goesL_ (some 56) rfl rfl Try.func32 (by kernel_rfl) rfl #[.agg #[.slice Ao93 t804.length co93, .slice Ao94 t807.length co94]] rfl bM ?_; (with_reducible refine (impl_SecFlush.calls kj81 _ _ t804 _ _ t807 t810 t813 _ ?side1 ?side2 ?side3 ?side4 A85.out).mono ?_); (case side1 => exact pC (Kd.R_reads' HO806.out).2.2); (case side2 => exact (Kd.R_reads' HO806.out).2.1); (case side3 => exact pC (Kd.R_reads' HO809.out).2.2); (case side4 => exact (Kd.R_reads' HO809.out).2.1); rintro e w95 ⟨v811, v814, rfl, ho0, ho1, hb⟩; refine ⟨_, rfl, ?_⟩; have n0_ := Aside0.mk (Kd.R_elder' (pR HO_774000.out) (Kd.R_base ho0) hb); have n1_ := Aside0.mk (Kd.R_elder' (pR HO_774001.out) (Kd.R_base ho1) hb); have n2_ := Aside0.mk (Kd.R_elder' (pR HO_781000.out) (Kd.R_base ho0) hb); have n3_ := Aside0.mk (Kd.R_elder' (pR HO_781001.out) (Kd.R_base ho1) hb); have n4_ := Aside0.mk (Kd.R_elder' (pR HO_788000.out) (Kd.R_base ho0) hb); have n5_ := Aside0.mk (Kd.R_elder' (pR HO_788001.out) (Kd.R_base ho1) hb); have n6_ := Aside0.mk (Kd.R_elder' (pR HO806.out) (Kd.R_base ho0) hb); have n7_ := Aside0.mk (Kd.R_elder' (pR HO809.out) (Kd.R_base ho1) hb); have n8_ := Aside0.mk (Kd.R_lower (Kd.R_new' (Kd.R_new' (Kd.R_new' (Kd.R_new' ho0 (Kd.R_lt (pR HO_774000.out))) (Kd.R_lt (pR HO_781000.out))) (Kd.R_lt (pR HO_788000.out))) (Kd.R_lt (pR HO806.out))) (below_size (by repeat (first | (with_reducible first | exact HB.out | apply below_alloc | apply pw_below_drewN | apply below_drew1 | refine below_set ?_ GE759.out | refine below_set ?_ GE773.out | refine below_set ?_ GE780.out | refine below_set ?_ GE787.out) | exact HB.out)))); have n9_ := Aside0.mk (Kd.R_lower (Kd.R_new' (Kd.R_new' (Kd.R_new' (Kd.R_new' ho1 (Kd.R_lt (pR HO_774001.out))) (Kd.R_lt (pR HO_781001.out))) (Kd.R_lt (pR HO_788001.out))) (Kd.R_lt (pR HO809.out))) (below_size (by repeat (first | (with_reducible first | exact HB.out | apply below_alloc | apply pw_below_drewN | apply below_drew1 | refine below_set ?_ GE759.out | refine below_set ?_ GE773.out | refine below_set ?_ GE780.out | refine below_set ?_ GE787.out) | exact HB.out)))); have n10_ := Aside0.mk (blk_below (g := gb759) (o := .cells #[.slice A0_0 l0_0.length c0_0, .slice A0_1 l0_1.length c0_1] 34 (0, 0)) (pK BK759.out) hb); have n11_ := Aside0.mk (blk_below (g := gb773) (o := .cells #[.slice Ao20 t767.length co20, .slice Ao23 t770.length co23] 26 (0, 0)) (pK BK773.out) hb); have n12_ := Aside0.mk (blk_below (g := gb780) (o := .cells #[.slice Ao27 t797.length co27, .slice Ao31 t798.length co31] 26 (0, 0)) (pK BK780.out) hb); have n13_ := Aside0.mk (blk_below (g := gb787) (o := .cells #[.slice Ao34 t801.length co34, .slice Ao39 t802.length co39] 26 (0, 0)) (pK BK787.out) hb); have n14_ := Aside0.mk (below_step (by repeat (first | (with_reducible first | exact HB.out | apply below_alloc | apply pw_below_drewN | apply below_drew1 | refine below_set ?_ GE759.out | refine below_set ?_ GE773.out | refine below_set ?_ GE780.out | refine below_set ?_ GE787.out) | exact HB.out)) hb); clear HO_774000; clear HO_774001; clear HO_781000; clear HO_781001; clear HO_788000; clear HO_788001; clear HO806; clear HO809; clear BK759; clear BK773; clear BK780; clear BK787; clear HB; have HO_774000 := n0_; have HO_774001 := n1_; have HO_781000 := n2_; have HO_781001 := n3_; have HO_788000 := n4_; have HO_788001 := n5_; have HO806 := n6_; have HO809 := n7_; have HO812 := n8_; have HO815 := n9_; have BK759 := n10_; have BK773 := n11_; have BK780 := n12_; have BK787 := n13_; have HB := n14_; clear n0_ n1_ n2_ n3_ n4_ n5_ n6_ n7_ n8_ n9_ n10_ n11_ n12_ n13_ n14_; (try clear hb); (try clear hb2); (try clear hk); (try clear hi); (try clear ho0); (try clear ho1)) | ((with_reducible refine gate_dst (N := 10) rfl ?_); refine box_event ?hg (N := 10) ?hd (cs := #[.slice none 0 0, .slice none 0 0]) (t := 26) ?hr ?_; (case hd => rfl); (case hg => rfl); (case hr => first | (go_simp; done) | (go_simp; rfl)); intro gb816 hg w96 hbox hb; have n0_ := Aside0.mk (Kd.R_below (pR HO_774000.out) hb); have n1_ := Aside0.mk (Kd.R_below (pR HO_774001.out) hb); have n2_ := Aside0.mk (Kd.R_below (pR HO_781000.out) hb); have n3_ := Aside0.mk (Kd.R_below (pR HO_781001.out) hb); have n4_ := Aside0.mk (Kd.R_below (pR HO_788000.out) hb); have n5_ := Aside0.mk (Kd.R_below (pR HO_788001.out) hb); have n6_ := Aside0.mk (Kd.R_below (pR HO806.out) hb); have n7_ := Aside0.mk (Kd.R_below (pR HO809.out) hb); have n8_ := Aside0.mk (Kd.R_below (pR HO812.out) hb); have n9_ := Aside0.mk (Kd.R_below (pR HO815.out) hb); have n10_ := Aside0.mk (blk_below (g := gb759) (o := .cells #[.slice A0_0 l0_0.length c0_0, .slice A0_1 l0_1.length c0_1] 34 (0, 0)) (pK BK759.out) hb); have n11_ := Aside0.mk (blk_below (g := gb773) (o := .cells #[.slice Ao20 t767.length co20, .slice Ao23 t770.length co23] 26 (0, 0)) (pK BK773.out) hb); have n12_ := Aside0.mk (blk_below (g := gb780) (o := .cells #[.slice Ao27 t797.length co27, .slice Ao31 t798.length co31] 26 (0, 0)) (pK BK780.out) hb); have n13_ := Aside0.mk (blk_below (g := gb787) (o := .cells #[.slice Ao34 t801.length co34, .slice Ao39 t802.length co39] 26 (0, 0)) (pK BK787.out) hb); have n14_ := Aside0.mk (below_step (by repeat (first | (with_reducible first | exact HB.out | apply below_alloc | apply pw_below_drewN | apply below_drew1 | refine below_set ?_ GE759.out | refine below_set ?_ GE773.out | refine below_set ?_ GE780.out | refine below_set ?_ GE787.out) | exact HB.out)) hb); have n15_ := Aside0.mk (hbox); have n16_ := Aside0.mk ((by rw [hg]; exact (below_size (by repeat (first | (with_reducible first | exact HB.out | apply below_alloc | apply pw_below_drewN | apply below_drew1 | refine below_set ?_ GE759.out | refine below_set ?_ GE773.out | refine below_set ?_ GE780.out | refine below_set ?_ GE787.out) | exact HB.out))) : w.heap.size ≤ gb816)); have n17_ := Aside0.mk ((by rw [hg]; exact (below_size (by repeat (first | (with_reducible first | exact HB.out | apply below_alloc | apply pw_below_drewN | apply below_drew1 | refine below_set ?_ GE759.out | refine below_set ?_ GE773.out | refine below_set ?_ GE780.out | refine below_set ?_ GE787.out) | exact HB.out))) : w.heap.size ≤ gb816)); have n18_ := Aside0.mk ((by rw [hg]; exact Nat.ne_of_lt (blk_lt (g := gb759) (o := .cells #[.slice A0_0 l0_0.length c0_0, .slice A0_1 l0_1.length c0_1] 34 (0, 0)) (pK BK759.out)) : gb759 ≠ gb816)); have n19_ := Aside0.mk ((by rw [hg]; exact Nat.ne_of_gt (blk_lt (g := gb759) (o := .cells #[.slice A0_0 l0_0.length c0_0, .slice A0_1 l0_1.length c0_1] 34 (0, 0)) (pK BK759.out)) : gb816 ≠ gb759)); have n20_ := Aside0.mk ((by rw [hg]; exact Nat.ne_of_lt (blk_lt (g := gb773) (o := .cells #[.slice Ao20 t767.length co20, .slice Ao23 t770.length co23] 26 (0, 0)) (pK BK773.out)) : gb773 ≠ gb816)); have n21_ := Aside0.mk ((by rw [hg]; exact Nat.ne_of_gt (blk_lt (g := gb773) (o := .cells #[.slice Ao20 t767.length co20, .slice Ao23 t770.length co23] 26 (0, 0)) (pK BK773.out)) : gb816 ≠ gb773)); have n22_ := Aside0.mk ((by rw [hg]; exact Nat.ne_of_lt (blk_lt (g := gb780) (o := .cells #[.slice Ao27 t797.length co27, .slice Ao31 t798.length co31] 26 (0, 0)) (pK BK780.out)) : gb780 ≠ gb816)); have n23_ := Aside0.mk ((by rw [hg]; exact Nat.ne_of_gt (blk_lt (g := gb780) (o := .cells #[.slice Ao27 t797.length co27, .slice Ao31 t798.length co31] 26 (0, 0)) (pK BK780.out)) : gb816 ≠ gb780)); have n24_ := Aside0.mk ((by rw [hg]; exact Nat.ne_of_lt (blk_lt (g := gb787) (o := .cells #[.slice Ao34 t801.length co34, .slice Ao39 t802.length co39] 26 (0, 0)) (pK BK787.out)) : gb787 ≠ gb816)); have n25_ := Aside0.mk ((by rw [hg]; exact Nat.ne_of_gt (blk_lt (g := gb787) (o := .cells #[.slice Ao34 t801.length co34, .slice Ao39 t802.length co39] 26 (0, 0)) (pK BK787.out)) : gb816 ≠ gb787)); clear HO_774000; clear HO_774001; clear HO_781000; clear HO_781001; clear HO_788000; clear HO_788001; clear HO806; clear HO809; clear HO812; clear HO815; clear BK759; clear BK773; clear BK780; clear BK787; clear HB; have HO_774000 := n0_; have HO_774001 := n1_; have HO_781000 := n2_; have HO_781001 := n3_; have HO_788000 := n4_; have HO_788001 := n5_; have HO806 := n6_; have HO809 := n7_; have HO812 := n8_; have HO815 := n9_; have BK759 := n10_; have BK773 := n11_; have BK780 := n12_; have BK787 := n13_; have HB := n14_; have BK816 := n15_; have GW816 := n16_; have GE816 := n17_; have NB759_816 := n18_; have NB816_759 := n19_; have NB773_816 := n20_; have NB816_773 := n21_; have NB780_816 := n22_; have NB816_780 := n23_; have NB787_816 := n24_; have NB816_787 := n25_; clear n0_ n1_ n2_ n3_ n4_ n5_ n6_ n7_ n8_ n9_ n10_ n11_ n12_ n13_ n14_ n15_ n16_ n17_ n18_ n19_ n20_ n21_ n22_ n23_ n24_ n25_; clear hb hbox hg; obtain ⟨Ao97, co97, eo97⟩ := Kd.R_slice HO812.out; subst eo97; have hnb98 := NB816_759.out; have hnc98 := NB759_816.out; have hnb99 := NB816_773.out; have hnc99 := NB773_816.out; have hnb100 := NB816_780.out; have hnc100 := NB780_816.out; have hnb101 := NB816_787.out; have hnc101 := NB787_816.out; have hcz102_0 : w96.cell? ⟨gb816, 0, none⟩ = some (.slice none 0 0) := (blk_cell BK816.out 0).trans rfl; have hcz102_1 : w96.cell? ⟨gb816, 1, none⟩ = some (.slice none 0 0) := (blk_cell BK816.out 1).trans rfl; have hfz102_0 := blk_frozen BK816.out 0; have hfz102_1 := blk_frozen BK816.out 1; obtain ⟨Ao103, co103, eo103⟩ := Kd.R_slice HO815.out; subst eo103; have hnb104 := NB773_780.out; have hnc104 := NB780_773.out; have hnb105 := NB773_787.out; have hnc105 := NB787_773.out; have hcz106_0 : w96.cell? ⟨gb773, 0, none⟩ = some (.slice Ao20 t767.length co20) := (blk_cell BK773.out 0).trans rfl; have hcz106_1 : w96.cell? ⟨gb773, 1, none⟩ = some (.slice Ao23 t770.length co23) := (blk_cell BK773.out 1).trans rfl; have hfz106_0 := blk_frozen BK773.out 0; have hfz106_1 := blk_frozen BK773.out 1) | ((with_reducible refine gate_callee (f := 17) rfl ?_); refine goesL_ (some 59) rfl rfl Try.func17 (by kernel_rfl) rfl #[.agg #[.slice Ao97 t810.length co97, .slice Ao103 t813.length co103], .agg #[.slice Ao20 t767.length co20, .slice Ao23 t770.length co23]] rfl bM ?_; (with_reducible refine (laws_eqSecDisk.calls kj81 _ _ t810 _ _ t813 _ _ t767 _ _ t770 t817 _ ?side1 ?side2 ?side3 ?side4 ?side5 ?side6 ?side7 ?side8 A86.out).mono ?_); (case side1 => refine (Kd.R_reads' (e := 9) (base := w.heap.size) (ok := fun k_ => ((((True ∧ some k_ ≠ (.slice Ao20 t767.length co20 : Value).ownBlock) ∧ some k_ ≠ (.slice Ao27 t797.length co27 : Value).ownBlock) ∧ some k_ ≠ (.slice Ao34 t801.length co34 : Value).ownBlock) ∧ some k_ ≠ (.slice Ao93 t804.length co93 : Value).ownBlock)) (n := t810.length) (c := co97) ?_).2.2; exact (pR (Kd.R_mono (Kd.R_far (p := ⟨gb816, 1, none⟩) (Kd.R_far (p := ⟨gb816, 0, none⟩) (Kd.R_types HO812.out BK816.out (by decide)) (fun _ hk => hk.2) (.slice Ao97 t810.length co97)) (fun _ hk => hk.2) (.slice Ao103 t813.length co103)) (fun _ h_ => h_.1)))); (case side2 => exact (Kd.R_reads' HO812.out).2.1); (case side3 => refine (Kd.R_reads' (e := 54) (base := w.heap.size) (ok := fun k_ => ((((True ∧ some k_ ≠ (.slice Ao23 t770.length co23 : Value).ownBlock) ∧ some k_ ≠ (.slice Ao31 t798.length co31 : Value).ownBlock) ∧ some k_ ≠ (.slice Ao39 t802.length co39 : Value).ownBlock) ∧ some k_ ≠ (.slice Ao94 t807.length co94 : Value).ownBlock)) (n := t813.length) (c := co103) ?_).2.2; exact (pR (Kd.R_mono (Kd.R_far (p := ⟨gb816, 1, none⟩) (Kd.R_far (p := ⟨gb816, 0, none⟩) (Kd.R_types HO815.out BK816.out (by decide)) (fun _ hk => hk.2) (.slice Ao97 t810.length co97)) (fun _ hk => hk.2) (.slice Ao103 t813.length co103)) (fun _ h_ => h_.1)))); (case side4 => exact (Kd.R_reads' HO815.out).2.1); (case side5 => refine (Kd.R_reads' (e := 9) (base := w.heap.size) (ok := fun k_ => (((some k_ ≠ (.slice Ao27 t797.length co27 : Value).ownBlock ∧ some k_ ≠ (.slice Ao34 t801.length co34 : Value).ownBlock) ∧ some k_ ≠ (.slice Ao93 t804.length co93 : Value).ownBlock) ∧ some k_ ≠ (.slice Ao97 t810.length co97 : Value).ownBlock)) (n := t767.length) (c := co20) ?_).2.2; exact (pR (Kd.R_mono (Kd.R_far (p := ⟨gb816, 1, none⟩) (Kd.R_far (p := ⟨gb816, 0, none⟩) (Kd.R_types HO_774000.out BK816.out (by decide)) (fun _ hk => hk.2) (.slice Ao97 t810.length co97)) (fun _ hk => hk.2) (.slice Ao103 t813.length co103)) (fun _ h_ => h_.1)))); (case side6 => exact (Kd.R_reads' HO_774000.out).2.1); (case side7 => refine (Kd.R_reads' (e := 54) (base := w.heap.size) (ok := fun k_ => (((some k_ ≠ (.slice Ao31 t798.length co31 : Value).ownBlock ∧ some k_ ≠ (.slice Ao39 t802.length co39 : Value).ownBlock) ∧ some k_ ≠ (.slice Ao94 t807.length co94 : Value).ownBlock) ∧ some k_ ≠ (.slice Ao103 t813.length co103 : Value).ownBlock)) (n := t770.length) (c := co23) ?_).2.2; exact (pR (Kd.R_mono (Kd.R_far (p := ⟨gb816, 1, none⟩) (Kd.R_far (p := ⟨gb816, 0, none⟩) (Kd.R_types HO_774001.out BK816.out (by decide)) (fun _ hk => hk.2) (.slice Ao97 t810.length co97)) (fun _ hk => hk.2) (.slice Ao103 t813.length co103)) (fun _ h_ => h_.1)))); (case side8 => exact (Kd.R_reads' HO_774001.out).2.1); rintro e w107 ⟨rfl, hb⟩; refine ⟨_, rfl, ?_⟩; have n0_ := Aside0.mk (Kd.R_below (pR (Kd.R_mono (Kd.R_far (p := ⟨gb816, 1, none⟩) (Kd.R_far (p := ⟨gb816, 0, none⟩) (Kd.R_types HO_774000.out BK816.out (by decide)) (fun _ hk => hk.2) (.slice Ao97 t810.length co97)) (fun _ hk => hk.2) (.slice Ao103 t813.length co103)) (fun _ h_ => h_.1))) hb); have n1_ := Aside0.mk (Kd.R_below (pR (Kd.R_mono (Kd.R_far (p := ⟨gb816, 1, none⟩) (Kd.R_far (p := ⟨gb816, 0, none⟩) (Kd.R_types HO_774001.out BK816.out (by decide)) (fun _ hk => hk.2) (.slice Ao97 t810.length co97)) (fun _ hk => hk.2) (.slice Ao103 t813.length co103)) (fun _ h_ => h_.1))) hb); have n2_ := Aside0.mk (Kd.R_below (pR (Kd.R_mono (Kd.R_far (p := ⟨gb816, 1, none⟩) (Kd.R_far (p := ⟨gb816, 0, none⟩) (Kd.R_types HO_781000.out BK816.out (by decide)) (fun _ hk => hk.2) (.slice Ao97 t810.length co97)) (fun _ hk => hk.2) (.slice Ao103 t813.length co103)) (fun _ h_ => h_.1))) hb); have n3_ := Aside0.mk (Kd.R_below (pR (Kd.R_mono (Kd.R_far (p := ⟨gb816, 1, none⟩) (Kd.R_far (p := ⟨gb816, 0, none⟩) (Kd.R_types HO_781001.out BK816.out (by decide)) (fun _ hk => hk.2) (.slice Ao97 t810.length co97)) (fun _ hk => hk.2) (.slice Ao103 t813.length co103)) (fun _ h_ => h_.1))) hb); have n4_ := Aside0.mk (Kd.R_below (pR (Kd.R_mono (Kd.R_far (p := ⟨gb816, 1, none⟩) (Kd.R_far (p := ⟨gb816, 0, none⟩) (Kd.R_types HO_788000.out BK816.out (by decide)) (fun _ hk => hk.2) (.slice Ao97 t810.length co97)) (fun _ hk => hk.2) (.slice Ao103 t813.length co103)) (fun _ h_ => h_.1))) hb); have n5_ := Aside0.mk (Kd.R_below (pR (Kd.R_mono (Kd.R_far (p := ⟨gb816, 1, none⟩) (Kd.R_far (p := ⟨gb816, 0, none⟩) (Kd.R_types HO_788001.out BK816.out (by decide)) (fun _ hk => hk.2) (.slice Ao97 t810.length co97)) (fun _ hk => hk.2) (.slice Ao103 t813.length co103)) (fun _ h_ => h_.1))) hb); have n6_ := Aside0.mk (Kd.R_below (pR (Kd.R_mono (Kd.R_far (p := ⟨gb816, 1, none⟩) (Kd.R_far (p := ⟨gb816, 0, none⟩) (Kd.R_types HO806.out BK816.out (by decide)) (fun _ hk => hk.2) (.slice Ao97 t810.length co97)) (fun _ hk => hk.2) (.slice Ao103 t813.length co103)) (fun _ h_ => h_.1))) hb); have n7_ := Aside0.mk (Kd.R_below (pR (Kd.R_mono (Kd.R_far (p := ⟨gb816, 1, none⟩) (Kd.R_far (p := ⟨gb816, 0, none⟩) (Kd.R_types HO809.out BK816.out (by decide)) (fun _ hk => hk.2) (.slice Ao97 t810.length co97)) (fun _ hk => hk.2) (.slice Ao103 t813.length co103)) (fun _ h_ => h_.1))) hb); have n8_ := Aside0.mk (Kd.R_below (pR (Kd.R_mono (Kd.R_far (p := ⟨gb816, 1, none⟩) (Kd.R_far (p := ⟨gb816, 0, none⟩) (Kd.R_types HO812.out BK816.out (by decide)) (fun _ hk => hk.2) (.slice Ao97 t810.length co97)) (fun _ hk => hk.2) (.slice Ao103 t813.length co103)) (fun _ h_ => h_.1))) hb); have n9_ := Aside0.mk (Kd.R_below (pR (Kd.R_mono (Kd.R_far (p := ⟨gb816, 1, none⟩) (Kd.R_far (p := ⟨gb816, 0, none⟩) (Kd.R_types HO815.out BK816.out (by decide)) (fun _ hk => hk.2) (.slice Ao97 t810.length co97)) (fun _ hk => hk.2) (.slice Ao103 t813.length co103)) (fun _ h_ => h_.1))) hb); have n10_ := Aside0.mk (blk_below (g := gb759) (o := .cells #[.slice A0_0 l0_0.length c0_0, .slice A0_1 l0_1.length c0_1] 34 (0, 0)) (by (with_reducible repeat (first | refine blk_drewN ?_ _ | refine blk_drew ?_ | refine blk_alloc ?_ _)); refine blk_far ?_ NB759_816.out _; (with_reducible repeat (first | refine blk_drewN ?_ _ | refine blk_drew ?_ | refine blk_alloc ?_ _)); refine blk_far ?_ NB759_816.out _; (with_reducible repeat (first | refine blk_drewN ?_ _ | refine blk_drew ?_ | refine blk_alloc ?_ _)); exact BK759.out) hb); have n11_ := Aside0.mk (blk_below (g := gb773) (o := .cells #[.slice Ao20 t767.length co20, .slice Ao23 t770.length co23] 26 (0, 0)) (by (with_reducible repeat (first | refine blk_drewN ?_ _ | refine blk_drew ?_ | refine blk_alloc ?_ _)); refine blk_far ?_ NB773_816.out _; (with_reducible repeat (first | refine blk_drewN ?_ _ | refine blk_drew ?_ | refine blk_alloc ?_ _)); refine blk_far ?_ NB773_816.out _; (with_reducible repeat (first | refine blk_drewN ?_ _ | refine blk_drew ?_ | refine blk_alloc ?_ _)); exact BK773.out) hb); have n12_ := Aside0.mk (blk_below (g := gb780) (o := .cells #[.slice Ao27 t797.length co27, .slice Ao31 t798.length co31] 26 (0, 0)) (by (with_reducible repeat (first | refine blk_drewN ?_ _ | refine blk_drew ?_ | refine blk_alloc ?_ _)); refine blk_far ?_ NB780_816.out _; (with_reducible repeat (first | refine blk_drewN ?_ _ | refine blk_drew ?_ | refine blk_alloc ?_ _)); refine blk_far ?_ NB780_816.out _; (with_reducible repeat (first | refine blk_drewN ?_ _ | refine blk_drew ?_ | refine blk_alloc ?_ _)); exact BK780.out) hb); have n13_ := Aside0.mk (blk_below (g := gb787) (o := .cells #[.slice Ao34 t801.length co34, .slice Ao39 t802.length co39] 26 (0, 0)) (by (with_reducible repeat (first | refine blk_drewN ?_ _ | refine blk_drew ?_ | refine blk_alloc ?_ _)); refine blk_far ?_ NB787_816.out _; (with_reducible repeat (first | refine blk_drewN ?_ _ | refine blk_drew ?_ | refine blk_alloc ?_ _)); refine blk_far ?_ NB787_816.out _; (with_reducible repeat (first | refine blk_drewN ?_ _ | refine blk_drew ?_ | refine blk_alloc ?_ _)); exact BK787.out) hb); have n14_ := Aside0.mk (blk_below (g := gb816) (o := .cells #[.slice Ao97 t810.length co97, .slice Ao103 t813.length co103] 26 (0, 0)) (by (with_reducible repeat (first | refine blk_drewN ?_ _ | refine blk_drew ?_ | refine blk_alloc ?_ _)); refine blk_put (cs := #[.slice Ao97 t810.length co97, .slice none 0 0]) ?_ 1 _ rfl; (with_reducible repeat (first | refine blk_drewN ?_ _ | refine blk_drew ?_ | refine blk_alloc ?_ _)); refine blk_put (cs := #[.slice none 0 0, .slice none 0 0]) ?_ 0 _ rfl; (with_reducible repeat (first | refine blk_drewN ?_ _ | refine blk_drew ?_ | refine blk_alloc ?_ _)); exact BK816.out) hb); have n15_ := Aside0.mk (below_step (by repeat (first | (with_reducible first | exact HB.out | apply below_alloc | apply pw_below_drewN | apply below_drew1 | refine below_set ?_ GE759.out | refine below_set ?_ GE773.out | refine below_set ?_ GE780.out | refine below_set ?_ GE787.out | refine below_set ?_ GE816.out) | exact HB.out)) hb); clear HO_774000; clear HO_774001; clear HO_781000; clear HO_781001; clear HO_788000; clear HO_788001; clear HO806; clear HO809; clear HO812; clear HO815; clear BK759; clear BK773; clear BK780; clear BK787; clear BK816; clear HB; have HO_774000 := n0_; have HO_774001 := n1_; have HO_781000 := n2_; have HO_781001 := n3_; have HO_788000 := n4_; have HO_788001 := n5_; have HO806 := n6_; have HO809 := n7_; have HO812 := n8_; have HO815 := n9_; have BK759 := n10_; have BK773 := n11_; have BK780 := n12_; have BK787 := n13_; have BK816 := n14_; have HB := n15_; clear n0_ n1_ n2_ n3_ n4_ n5_ n6_ n7_ n8_ n9_ n10_ n11_ n12_ n13_ n14_ n15_; (try clear hb); (try clear hb2); (try clear hk); (try clear hi)))
               (try simp only [Act.put, List.setIfInBounds_toArray, List.set_cons_zero, List.set_cons_succ])
               go_cut [] (fun wc => ∃ (kq : Nat), Aside0 (laws_FnExactSecFlush.j7 kq t800 t801 t802 = some r) ∧ Aside0 (kq ≤ kj81) ∧ Aside0 (Kd.R Kd.string 9 wc w.heap.size (fun k_ => some k_ ≠ ((.slice Ao27 t797.length co27) : Value).ownBlock ∧ some k_ ≠ ((.slice Ao34 t801.length co34) : Value).ownBlock ∧ some k_ ≠ ((.slice Ao97 t810.length co97) : Value).ownBlock) (.slice Ao20 t767.length co20) t767) ∧ Aside0 (Kd.R k54 54 wc w.heap.size (fun k_ => some k_ ≠ ((.slice Ao31 t798.length co31) : Value).ownBlock ∧ some k_ ≠ ((.slice Ao39 t802.length co39) : Value).ownBlock ∧ some k_ ≠ ((.slice Ao103 t813.length co103) : Value).ownBlock) (.slice Ao23 t770.length co23) t770) ∧ Aside0 (Kd.R Kd.string 9 wc w.heap.size (fun k_ => some k_ ≠ ((.slice Ao20 t767.length co20) : Value).ownBlock ∧ some k_ ≠ ((.slice Ao34 t801.length co34) : Value).ownBlock ∧ some k_ ≠ ((.slice Ao97 t810.length co97) : Value).ownBlock) (.slice Ao27 t797.length co27) t797) ∧ Aside0 (Kd.R k54 54 wc w.heap.size (fun k_ => some k_ ≠ ((.slice Ao23 t770.length co23) : Value).ownBlock ∧ some k_ ≠ ((.slice Ao39 t802.length co39) : Value).ownBlock ∧ some k_ ≠ ((.slice Ao103 t813.length co103) : Value).ownBlock) (.slice Ao31 t798.length co31) t798) ∧ Aside0 (Kd.R Kd.string 9 wc w.heap.size (fun k_ => some k_ ≠ ((.slice Ao20 t767.length co20) : Value).ownBlock ∧ some k_ ≠ ((.slice Ao27 t797.length co27) : Value).ownBlock ∧ some k_ ≠ ((.slice Ao97 t810.length co97) : Value).ownBlock) (.slice Ao34 t801.length co34) t801) ∧ Aside0 (Kd.R k54 54 wc w.heap.size (fun k_ => some k_ ≠ ((.slice Ao23 t770.length co23) : Value).ownBlock ∧ some k_ ≠ ((.slice Ao31 t798.length co31) : Value).ownBlock ∧ some k_ ≠ ((.slice Ao103 t813.length co103) : Value).ownBlock) (.slice Ao39 t802.length co39) t802) ∧ Aside0 (Kd.R Kd.string 9 wc w.heap.size (fun k_ => some k_ ≠ ((.slice Ao20 t767.length co20) : Value).ownBlock ∧ some k_ ≠ ((.slice Ao27 t797.length co27) : Value).ownBlock ∧ some k_ ≠ ((.slice Ao34 t801.length co34) : Value).ownBlock) (.slice Ao97 t810.length co97) t810) ∧ Aside0 (Kd.R k54 54 wc w.heap.size (fun k_ => some k_ ≠ ((.slice Ao23 t770.length co23) : Value).ownBlock ∧ some k_ ≠ ((.slice Ao31 t798.length co31) : Value).ownBlock ∧ some k_ ≠ ((.slice Ao39 t802.length co39) : Value).ownBlock) (.slice Ao103 t813.length co103) t813) ∧ Aside0 (wc.heap[gb759]? = some (.cells #[(.slice A0_0 l0_0.length c0_0), (.slice A0_1 l0_1.length c0_1)] 34 (0, 0))) ∧ Aside0 (wc.heap[gb773]? = some (.cells #[(.slice Ao20 t767.length co20), (.slice Ao23 t770.length co23)] 26 (0, 0))) ∧ Aside0 (wc.heap[gb780]? = some (.cells #[(.slice Ao27 t797.length co27), (.slice Ao31 t798.length co31)] 26 (0, 0))) ∧ Aside0 (wc.heap[gb787]? = some (.cells #[(.slice Ao34 t801.length co34), (.slice Ao39 t802.length co39)] 26 (0, 0))) ∧ Aside0 (wc.heap[gb816]? = some (.cells #[(.slice Ao97 t810.length co97), (.slice Ao103 t813.length co103)] 26 (0, 0))) ∧ Aside0 (Below w.heap.size w wc))
               case first =>
                have H := HC87.out
                clear HC87
                by_cases c108 : t817 = true
                ·subst c108
                 have H1 : (laws_FnExactSecFlush.j7 kj81 t800 t801 t802) = some r := by rw [if_pos rfl] at H; exact H
                 clear H
                 have H := H1
                 clear H1
                 have H' := Aside0.mk H
                 clear H
                 go_wp2
                 go_meet
                 case rel => exact ⟨_, H', ⟨by have := HJ2.out; have := HJ12.out; have := HJ44.out; have := HJ52.out; have := HJ68.out; have := HJ72.out; have := HJ81.out; first | omega | exact Nat.le_refl _⟩, ⟨by (try simp only [hl781000_52]); (try simp only [hl781001_52]); (try simp only [hl788000_72]); (try simp only [hl788001_72]); (with_reducible repeat (first | apply Kd.R_alloc | apply Kd.R_drewN | apply Kd.R_drew)); exact Kd.R_mono HO_774000.out (fun _ hk => ⟨hk.1.1.1, ⟨hk.1.1.2, hk.2⟩⟩)⟩, ⟨by (try simp only [hl781000_52]); (try simp only [hl781001_52]); (try simp only [hl788000_72]); (try simp only [hl788001_72]); (with_reducible repeat (first | apply Kd.R_alloc | apply Kd.R_drewN | apply Kd.R_drew)); exact Kd.R_mono HO_774001.out (fun _ hk => ⟨hk.1.1.1, ⟨hk.1.1.2, hk.2⟩⟩)⟩, ⟨by (try simp only [hl781000_52]); (try simp only [hl781001_52]); (try simp only [hl788000_72]); (try simp only [hl788001_72]); (with_reducible repeat (first | apply Kd.R_alloc | apply Kd.R_drewN | apply Kd.R_drew)); exact Kd.R_mono HO_781000.out (fun _ hk => ⟨hk.1.1.1, ⟨hk.1.1.2, hk.2⟩⟩)⟩, ⟨by (try simp only [hl781000_52]); (try simp only [hl781001_52]); (try simp only [hl788000_72]); (try simp only [hl788001_72]); (with_reducible repeat (first | apply Kd.R_alloc | apply Kd.R_drewN | apply Kd.R_drew)); exact Kd.R_mono HO_781001.out (fun _ hk => ⟨hk.1.1.1, ⟨hk.1.1.2, hk.2⟩⟩)⟩, ⟨by (try simp only [hl781000_52]); (try simp only [hl781001_52]); (try simp only [hl788000_72]); (try simp only [hl788001_72]); (with_reducible repeat (first | apply Kd.R_alloc | apply Kd.R_drewN | apply Kd.R_drew)); exact Kd.R_mono HO_788000.out (fun _ hk => ⟨hk.1.1.1, ⟨hk.1.1.2, hk.2⟩⟩)⟩, ⟨by (try simp only [hl781000_52]); (try simp only [hl781001_52]); (try simp only [hl788000_72]); (try simp only [hl788001_72]); (with_reducible repeat (first | apply Kd.R_alloc | apply Kd.R_drewN | apply Kd.R_drew)); exact Kd.R_mono HO_788001.out (fun _ hk => ⟨hk.1.1.1, ⟨hk.1.1.2, hk.2⟩⟩)⟩, ⟨by (try simp only [hl781000_52]); (try simp only [hl781001_52]); (try simp only [hl788000_72]); (try simp only [hl788001_72]); (with_reducible repeat (first | apply Kd.R_alloc | apply Kd.R_drewN | apply Kd.R_drew)); exact Kd.R_mono HO812.out (fun _ hk => ⟨hk.1.1.1.2, ⟨hk.1.1.2, hk.1.2⟩⟩)⟩, ⟨by (try simp only [hl781000_52]); (try simp only [hl781001_52]); (try simp only [hl788000_72]); (try simp only [hl788001_72]); (with_reducible repeat (first | apply Kd.R_alloc | apply Kd.R_drewN | apply Kd.R_drew)); exact Kd.R_mono HO815.out (fun _ hk => ⟨hk.1.1.1.2, ⟨hk.1.1.2, hk.1.2⟩⟩)⟩, ⟨by (try simp only [hl781000_52]); (try simp only [hl781001_52]); (try simp only [hl788000_72]); (try simp only [hl788001_72]); (with_reducible repeat (first | refine blk_drewN ?_ _ | refine blk_drew ?_ | refine blk_alloc ?_ _)); exact BK759.out⟩, ⟨by (try simp only [hl781000_52]); (try simp only [hl781001_52]); (try simp only [hl788000_72]); (try simp only [hl788001_72]); (with_reducible repeat (first | refine blk_drewN ?_ _ | refine blk_drew ?_ | refine blk_alloc ?_ _)); exact BK773.out⟩, ⟨by (try simp only [hl781000_52]); (try simp only [hl781001_52]); (try simp only [hl788000_72]); (try simp only [hl788001_72]); (with_reducible repeat (first | refine blk_drewN ?_ _ | refine blk_drew ?_ | refine blk_alloc ?_ _)); exact BK780.out⟩, ⟨by (try simp only [hl781000_52]); (try simp only [hl781001_52]); (try simp only [hl788000_72]); (try simp only [hl788001_72]); (with_reducible repeat (first | refine blk_drewN ?_ _ | refine blk_drew ?_ | refine blk_alloc ?_ _)); exact BK787.out⟩, ⟨by (try simp only [hl781000_52]); (try simp only [hl781001_52]); (try simp only [hl788000_72]); (try simp only [hl788001_72]); (with_reducible repeat (first | refine blk_drewN ?_ _ | refine blk_drew ?_ | refine blk_alloc ?_ _)); exact BK816.out⟩, ⟨by repeat (first | (with_reducible first | exact HB.out | apply below_alloc | apply pw_below_drewN | apply below_drew1 | refine below_set ?_ GE759.out | refine below_set ?_ GE773.out | refine below_set ?_ GE780.out | refine below_set ?_ GE787.out | refine below_set ?_ GE816.out) | exact HB.out)⟩⟩
                ·replace c108 := Bool.eq_false_iff.mpr c108
                 subst c108
                 have H1 : (some false) = some r := by rw [if_neg (show ¬ (false = true) by decide)] at H; exact H
                 clear H
                 have H := H1
                 clear H1
                 obtain rfl := Option.some.inj H
                 go_wp2
                 go_ret
                 exact ⟨by first | rfl | (simp [errW_none, errW_some] <;> rfl) | (simp [*, errW_none, errW_some] <;> rfl), by repeat (first | (with_reducible first | exact HB.out | apply below_alloc | apply pw_below_drewN | apply below_drew1 | refine below_set ?_ GE759.out | refine below_set ?_ GE773.out | refine below_set ?_ GE780.out | refine below_set ?_ GE787.out | refine below_set ?_ GE816.out) | exact HB.out)⟩
               case rest =>
                clear HC87
                try clear c1
                try clear c2
                try clear p2
                try clear c3
                try clear c4
                try clear c5
                try clear c6
                try clear c7
                try clear c7b0
                try clear c8
                try clear c9
                try clear c10
                try clear c12
                try clear c17
                try clear c18
                try clear c19
                try clear c21
                try clear c22
                try clear c24
                try clear c28
                try clear c29
                try clear c32
                try clear c35
                try clear c36
                try clear c37
                try clear c42
                try clear c51
                try clear c54
                try clear c55
                try clear c56
                try clear c59
                try clear c59b0
                try clear c61
                try clear c62
                try clear c63
                try clear c65
                try clear c66
                try clear c70
                try clear c74
                try clear c75
                try clear c76
                try clear c81
                try clear c81b0
                try clear c83
                try clear c83b0
                try clear c83b1
                try clear c88
                try clear c89
                try clear c90
                try clear c98
                try clear c99
                try clear c100
                try clear c101
                try clear c104
                try clear c105
                try clear c108
                try clear hcz102_0
                try clear hcz102_1
                try clear hcz106_0
                try clear hcz106_1
                try clear hcz14_0
                try clear hcz14_1
                try clear hcz22_0
                try clear hcz22_1
                try clear hcz24_0
                try clear hcz24_1
                try clear hcz30_0
                try clear hcz30_1
                try clear hcz38_0
                try clear hcz38_1
                try clear hcz40_0
                try clear hcz40_1
                try clear hcz57_0
                try clear hcz57_1
                try clear hcz5_0
                try clear hcz5_1
                try clear hcz64_0
                try clear hcz64_1
                try clear hcz67_0
                try clear hcz67_1
                try clear hcz77_0
                try clear hcz77_1
                try clear hcz79_0
                try clear hcz79_1
                try clear hcz91_0
                try clear hcz91_1
                try clear hfz102_0
                try clear hfz102_1
                try clear hfz106_0
                try clear hfz106_1
                try clear hfz14_0
                try clear hfz14_1
                try clear hfz22_0
                try clear hfz22_1
                try clear hfz24_0
                try clear hfz24_1
                try clear hfz30_0
                try clear hfz30_1
                try clear hfz38_0
                try clear hfz38_1
                try clear hfz40_0
                try clear hfz40_1
                try clear hfz57_0
                try clear hfz57_1
                try clear hfz5_0
                try clear hfz5_1
                try clear hfz64_0
                try clear hfz64_1
                try clear hfz67_0
                try clear hfz67_1
                try clear hfz77_0
                try clear hfz77_1
                try clear hfz79_0
                try clear hfz79_1
                try clear hfz91_0
                try clear hfz91_1
                try clear p2
                obtain ⟨kq, HA, HJ86, HO_774000, HO_774001, HO_781000, HO_781001, HO_788000, HO_788001, HO_817000, HO_817001, BK759, BK773, BK780, BK787, BK816, HB⟩ := hcut
                cases kq with
                | zero => exact absurd HA.out (by simp [laws_FnExactSecFlush.j7])
                | succ kj86 =>
                 have H := HA.out
                 clear HA
                 simp only [laws_FnExactSecFlush.j7] at H
                 replace H := Option.bind_eq_some_iff.mp H
                 obtain ⟨t818, A1090, H⟩ := H
                 replace H : (if t818 < 0 then (some false) else (if t818 = t800 then (some true) else (some false))) = some r := H
                 have A109 := Aside0.mk A1090
                 clear A1090
                 by_cases c110 : t818 < 0
                 ·rw [if_pos c110] at H
                  have c110b0 : decide (t818 < 0) = true := decide_eq_true c110
                  clear c110
                  obtain rfl := Option.some.inj H
                  have hnb111 := NB787_759.out
                  have hnc111 := NB759_787.out
                  have hnb112 := NB787_773.out
                  have hnc112 := NB773_787.out
                  have hnb113 := NB787_780.out
                  have hnc113 := NB780_787.out
                  have hnb114 := NB787_816.out
                  have hnc114 := NB816_787.out
                  have hcz115_0 : wc.cell? ⟨gb787, 0, none⟩ = some (.slice Ao34 t801.length co34) := (blk_cell BK787.out 0).trans rfl
                  have hcz115_1 : wc.cell? ⟨gb787, 1, none⟩ = some (.slice Ao39 t802.length co39) := (blk_cell BK787.out 1).trans rfl
                  have hfz115_0 := blk_frozen BK787.out 0
                  have hfz115_1 := blk_frozen BK787.out 1
                  go_wp2_with (first | ((with_reducible refine gate_callee (f := 19) rfl ?_); refine goesL_ (some 63) rfl rfl Try.func19 (by kernel_rfl) rfl #[.agg #[.slice Ao34 t801.length co34, .slice Ao39 t802.length co39], .int .i64 1] rfl bM ?_; (with_reducible refine (laws_heldSecDisk.calls kj86 _ _ t801 _ _ t802 1 t818 _ ?side1 ?side2 ?side3 ?side4 A109.out).mono ?_); (case side1 => exact pC (Kd.R_reads' HO_788000.out).2.2); (case side2 => exact (Kd.R_reads' HO_788000.out).2.1); (case side3 => exact pC (Kd.R_reads' HO_788001.out).2.2); (case side4 => exact (Kd.R_reads' HO_788001.out).2.1); rintro e w116 ⟨rfl, hb⟩; refine ⟨_, rfl, ?_⟩; have n0_ := Aside0.mk (Kd.R_below (pR HO_774000.out) hb); have n1_ := Aside0.mk (Kd.R_below (pR HO_774001.out) hb); have n2_ := Aside0.mk (Kd.R_below (pR HO_781000.out) hb); have n3_ := Aside0.mk (Kd.R_below (pR HO_781001.out) hb); have n4_ := Aside0.mk (Kd.R_below (pR HO_788000.out) hb); have n5_ := Aside0.mk (Kd.R_below (pR HO_788001.out) hb); have n6_ := Aside0.mk (Kd.R_below (pR HO_817000.out) hb); have n7_ := Aside0.mk (Kd.R_below (pR HO_817001.out) hb); have n8_ := Aside0.mk (blk_below (g := gb759) (o := .cells #[.slice A0_0 l0_0.length c0_0, .slice A0_1 l0_1.length c0_1] 34 (0, 0)) (pK BK759.out) hb); have n9_ := Aside0.mk (blk_below (g := gb773) (o := .cells #[.slice Ao20 t767.length co20, .slice Ao23 t770.length co23] 26 (0, 0)) (pK BK773.out) hb); have n10_ := Aside0.mk (blk_below (g := gb780) (o := .cells #[.slice Ao27 t797.length co27, .slice Ao31 t798.length co31] 26 (0, 0)) (pK BK780.out) hb); have n11_ := Aside0.mk (blk_below (g := gb787) (o := .cells #[.slice Ao34 t801.length co34, .slice Ao39 t802.length co39] 26 (0, 0)) (pK BK787.out) hb); have n12_ := Aside0.mk (blk_below (g := gb816) (o := .cells #[.slice Ao97 t810.length co97, .slice Ao103 t813.length co103] 26 (0, 0)) (pK BK816.out) hb); have n13_ := Aside0.mk (below_step (by repeat (first | (with_reducible first | exact HB.out | apply below_alloc | apply pw_below_drewN | apply below_drew1 | refine below_set ?_ GE759.out | refine below_set ?_ GE773.out | refine below_set ?_ GE780.out | refine below_set ?_ GE787.out | refine below_set ?_ GE816.out) | exact HB.out)) hb); clear HO_774000; clear HO_774001; clear HO_781000; clear HO_781001; clear HO_788000; clear HO_788001; clear HO_817000; clear HO_817001; clear BK759; clear BK773; clear BK780; clear BK787; clear BK816; clear HB; have HO_774000 := n0_; have HO_774001 := n1_; have HO_781000 := n2_; have HO_781001 := n3_; have HO_788000 := n4_; have HO_788001 := n5_; have HO_817000 := n6_; have HO_817001 := n7_; have BK759 := n8_; have BK773 := n9_; have BK780 := n10_; have BK787 := n11_; have BK816 := n12_; have HB := n13_; clear n0_ n1_ n2_ n3_ n4_ n5_ n6_ n7_ n8_ n9_ n10_ n11_ n12_ n13_; (try clear hb); (try clear hb2); (try clear hk); (try clear hi)))
                  go_ret
                  exact ⟨by first | rfl | (simp [errW_none, errW_some] <;> rfl) | (simp [*, errW_none, errW_some] <;> rfl), by repeat (first | (with_reducible first | exact HB.out | apply below_alloc | apply pw_below_drewN | apply below_drew1 | refine below_set ?_ GE759.out | refine below_set ?_ GE773.out | refine below_set ?_ GE780.out | refine below_set ?_ GE787.out | refine below_set ?_ GE816.out) | exact HB.out)⟩
                 ·rw [if_neg c110] at H
                  have c110b0 : decide (t818 < 0) = false := decide_eq_false c110
                  clear c110
                  by_cases c117 : t818 = t800
                  ·rw [if_pos c117] at H
                   have c117b0 : (t818 == t800) = true := beq_iff_eq.mpr c117
                   have c117b1 : (t818 != t800) = false := bne_eq_false_iff_eq.mpr c117
                   clear c117
                   obtain rfl := Option.some.inj H
                   have hnb118 := NB787_759.out
                   have hnc118 := NB759_787.out
                   have hnb119 := NB787_773.out
                   have hnc119 := NB773_787.out
                   have hnb120 := NB787_780.out
                   have hnc120 := NB780_787.out
                   have hnb121 := NB787_816.out
                   have hnc121 := NB816_787.out
                   have hcz122_0 : wc.cell? ⟨gb787, 0, none⟩ = some (.slice Ao34 t801.length co34) := (blk_cell BK787.out 0).trans rfl
                   have hcz122_1 : wc.cell? ⟨gb787, 1, none⟩ = some (.slice Ao39 t802.length co39) := (blk_cell BK787.out 1).trans rfl
                   have hfz122_0 := blk_frozen BK787.out 0
                   have hfz122_1 := blk_frozen BK787.out 1
                   go_wp2_with (first | ((with_reducible refine gate_callee (f := 19) rfl ?_); refine goesL_ (some 63) rfl rfl Try.func19 (by kernel_rfl) rfl #[.agg #[.slice Ao34 t801.length co34, .slice Ao39 t802.length co39], .int .i64 1] rfl bM ?_; (with_reducible refine (laws_heldSecDisk.calls kj86 _ _ t801 _ _ t802 1 t818 _ ?side1 ?side2 ?side3 ?side4 A109.out).mono ?_); (case side1 => exact pC (Kd.R_reads' HO_788000.out).2.2); (case side2 => exact (Kd.R_reads' HO_788000.out).2.1); (case side3 => exact pC (Kd.R_reads' HO_788001.out).2.2); (case side4 => exact (Kd.R_reads' HO_788001.out).2.1); rintro e w123 ⟨rfl, hb⟩; refine ⟨_, rfl, ?_⟩; have n0_ := Aside0.mk (Kd.R_below (pR HO_774000.out) hb); have n1_ := Aside0.mk (Kd.R_below (pR HO_774001.out) hb); have n2_ := Aside0.mk (Kd.R_below (pR HO_781000.out) hb); have n3_ := Aside0.mk (Kd.R_below (pR HO_781001.out) hb); have n4_ := Aside0.mk (Kd.R_below (pR HO_788000.out) hb); have n5_ := Aside0.mk (Kd.R_below (pR HO_788001.out) hb); have n6_ := Aside0.mk (Kd.R_below (pR HO_817000.out) hb); have n7_ := Aside0.mk (Kd.R_below (pR HO_817001.out) hb); have n8_ := Aside0.mk (blk_below (g := gb759) (o := .cells #[.slice A0_0 l0_0.length c0_0, .slice A0_1 l0_1.length c0_1] 34 (0, 0)) (pK BK759.out) hb); have n9_ := Aside0.mk (blk_below (g := gb773) (o := .cells #[.slice Ao20 t767.length co20, .slice Ao23 t770.length co23] 26 (0, 0)) (pK BK773.out) hb); have n10_ := Aside0.mk (blk_below (g := gb780) (o := .cells #[.slice Ao27 t797.length co27, .slice Ao31 t798.length co31] 26 (0, 0)) (pK BK780.out) hb); have n11_ := Aside0.mk (blk_below (g := gb787) (o := .cells #[.slice Ao34 t801.length co34, .slice Ao39 t802.length co39] 26 (0, 0)) (pK BK787.out) hb); have n12_ := Aside0.mk (blk_below (g := gb816) (o := .cells #[.slice Ao97 t810.length co97, .slice Ao103 t813.length co103] 26 (0, 0)) (pK BK816.out) hb); have n13_ := Aside0.mk (below_step (by repeat (first | (with_reducible first | exact HB.out | apply below_alloc | apply pw_below_drewN | apply below_drew1 | refine below_set ?_ GE759.out | refine below_set ?_ GE773.out | refine below_set ?_ GE780.out | refine below_set ?_ GE787.out | refine below_set ?_ GE816.out) | exact HB.out)) hb); clear HO_774000; clear HO_774001; clear HO_781000; clear HO_781001; clear HO_788000; clear HO_788001; clear HO_817000; clear HO_817001; clear BK759; clear BK773; clear BK780; clear BK787; clear BK816; clear HB; have HO_774000 := n0_; have HO_774001 := n1_; have HO_781000 := n2_; have HO_781001 := n3_; have HO_788000 := n4_; have HO_788001 := n5_; have HO_817000 := n6_; have HO_817001 := n7_; have BK759 := n8_; have BK773 := n9_; have BK780 := n10_; have BK787 := n11_; have BK816 := n12_; have HB := n13_; clear n0_ n1_ n2_ n3_ n4_ n5_ n6_ n7_ n8_ n9_ n10_ n11_ n12_ n13_; (try clear hb); (try clear hb2); (try clear hk); (try clear hi)))
                   go_ret
                   exact ⟨by first | rfl | (simp [errW_none, errW_some] <;> rfl) | (simp [*, errW_none, errW_some] <;> rfl), by repeat (first | (with_reducible first | exact HB.out | apply below_alloc | apply pw_below_drewN | apply below_drew1 | refine below_set ?_ GE759.out | refine below_set ?_ GE773.out | refine below_set ?_ GE780.out | refine below_set ?_ GE787.out | refine below_set ?_ GE816.out) | exact HB.out)⟩
                  ·rw [if_neg c117] at H
                   have c117b0 : (t818 == t800) = false := beq_eq_false_iff_ne.mpr c117
                   have c117b1 : (t818 != t800) = true := bne_iff_ne.mpr c117
                   obtain rfl := Option.some.inj H
                   have hnb124 := NB787_759.out
                   have hnc124 := NB759_787.out
                   have hnb125 := NB787_773.out
                   have hnc125 := NB773_787.out
                   have hnb126 := NB787_780.out
                   have hnc126 := NB780_787.out
                   have hnb127 := NB787_816.out
                   have hnc127 := NB816_787.out
                   have hcz128_0 : wc.cell? ⟨gb787, 0, none⟩ = some (.slice Ao34 t801.length co34) := (blk_cell BK787.out 0).trans rfl
                   have hcz128_1 : wc.cell? ⟨gb787, 1, none⟩ = some (.slice Ao39 t802.length co39) := (blk_cell BK787.out 1).trans rfl
                   have hfz128_0 := blk_frozen BK787.out 0
                   have hfz128_1 := blk_frozen BK787.out 1
                   go_wp2_with (first | ((with_reducible refine gate_callee (f := 19) rfl ?_); refine goesL_ (some 63) rfl rfl Try.func19 (by kernel_rfl) rfl #[.agg #[.slice Ao34 t801.length co34, .slice Ao39 t802.length co39], .int .i64 1] rfl bM ?_; (with_reducible refine (laws_heldSecDisk.calls kj86 _ _ t801 _ _ t802 1 t818 _ ?side1 ?side2 ?side3 ?side4 A109.out).mono ?_); (case side1 => exact pC (Kd.R_reads' HO_788000.out).2.2); (case side2 => exact (Kd.R_reads' HO_788000.out).2.1); (case side3 => exact pC (Kd.R_reads' HO_788001.out).2.2); (case side4 => exact (Kd.R_reads' HO_788001.out).2.1); rintro e w129 ⟨rfl, hb⟩; refine ⟨_, rfl, ?_⟩; have n0_ := Aside0.mk (Kd.R_below (pR HO_774000.out) hb); have n1_ := Aside0.mk (Kd.R_below (pR HO_774001.out) hb); have n2_ := Aside0.mk (Kd.R_below (pR HO_781000.out) hb); have n3_ := Aside0.mk (Kd.R_below (pR HO_781001.out) hb); have n4_ := Aside0.mk (Kd.R_below (pR HO_788000.out) hb); have n5_ := Aside0.mk (Kd.R_below (pR HO_788001.out) hb); have n6_ := Aside0.mk (Kd.R_below (pR HO_817000.out) hb); have n7_ := Aside0.mk (Kd.R_below (pR HO_817001.out) hb); have n8_ := Aside0.mk (blk_below (g := gb759) (o := .cells #[.slice A0_0 l0_0.length c0_0, .slice A0_1 l0_1.length c0_1] 34 (0, 0)) (pK BK759.out) hb); have n9_ := Aside0.mk (blk_below (g := gb773) (o := .cells #[.slice Ao20 t767.length co20, .slice Ao23 t770.length co23] 26 (0, 0)) (pK BK773.out) hb); have n10_ := Aside0.mk (blk_below (g := gb780) (o := .cells #[.slice Ao27 t797.length co27, .slice Ao31 t798.length co31] 26 (0, 0)) (pK BK780.out) hb); have n11_ := Aside0.mk (blk_below (g := gb787) (o := .cells #[.slice Ao34 t801.length co34, .slice Ao39 t802.length co39] 26 (0, 0)) (pK BK787.out) hb); have n12_ := Aside0.mk (blk_below (g := gb816) (o := .cells #[.slice Ao97 t810.length co97, .slice Ao103 t813.length co103] 26 (0, 0)) (pK BK816.out) hb); have n13_ := Aside0.mk (below_step (by repeat (first | (with_reducible first | exact HB.out | apply below_alloc | apply pw_below_drewN | apply below_drew1 | refine below_set ?_ GE759.out | refine below_set ?_ GE773.out | refine below_set ?_ GE780.out | refine below_set ?_ GE787.out | refine below_set ?_ GE816.out) | exact HB.out)) hb); clear HO_774000; clear HO_774001; clear HO_781000; clear HO_781001; clear HO_788000; clear HO_788001; clear HO_817000; clear HO_817001; clear BK759; clear BK773; clear BK780; clear BK787; clear BK816; clear HB; have HO_774000 := n0_; have HO_774001 := n1_; have HO_781000 := n2_; have HO_781001 := n3_; have HO_788000 := n4_; have HO_788001 := n5_; have HO_817000 := n6_; have HO_817001 := n7_; have BK759 := n8_; have BK773 := n9_; have BK780 := n10_; have BK787 := n11_; have BK816 := n12_; have HB := n13_; clear n0_ n1_ n2_ n3_ n4_ n5_ n6_ n7_ n8_ n9_ n10_ n11_ n12_ n13_; (try clear hb); (try clear hb2); (try clear hk); (try clear hi)))
                   go_ret
                   exact ⟨by first | rfl | (simp [errW_none, errW_some] <;> rfl) | (simp [*, errW_none, errW_some] <;> rfl), by repeat (first | (with_reducible first | exact HB.out | apply below_alloc | apply pw_below_drewN | apply below_drew1 | refine below_set ?_ GE759.out | refine below_set ?_ GE773.out | refine below_set ?_ GE780.out | refine below_set ?_ GE787.out | refine below_set ?_ GE816.out) | exact HB.out)⟩

/-- THE ONE PURE STATEMENT of laws_FnExactSecFlush. -/
def laws_FnExactSecFlush.Pure : Prop := ∀ (l0_0 : List ByteArray) (l0_1 : List (S79)), wf34 (⟨l0_0, l0_1⟩ : S34) → ∃ k, laws_FnExactSecFlush.f k l0_0 l0_1 = some true
theorem laws_FnExactSecFlush.walk (P : laws_FnExactSecFlush.Pure) (A0_0 : Option Addr) (c0_0 : Nat) (l0_0 : List ByteArray) (A0_1 : Option Addr) (c0_1 : Nat) (l0_1 : List (S79)) (w : World) (hw0 : wf34 (⟨l0_0, l0_1⟩ : S34)) (hr0_0 : Kd.C Kd.string w A0_0 l0_0.length l0_0) (hc0_0 : l0_0.length ≤ c0_0) (hr0_1 : Kd.C k79 w A0_1 l0_1.length l0_1) (hc0_1 : l0_1.length ≤ c0_1) :
  Calls Try.prog 12 #[.agg #[.slice A0_0 l0_0.length c0_0, .slice A0_1 l0_1.length c0_1]] w fun e w' => e = .returned (.bool true) ∧ Below w.heap.size w w' := by
 obtain ⟨k, h⟩ := P l0_0 l0_1 hw0
 refine (laws_FnExactSecFlush.calls k A0_0 c0_0 l0_0 A0_1 c0_1 l0_1 true w hr0_0 hc0_0 hr0_1 hc0_1 h).mono ?_
 rintro e w' ⟨rfl, hd⟩
 exact ⟨rfl, hd⟩

end Go.Proofs.Ythkdhcaojhbfoaa.P
