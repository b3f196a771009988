-- printed by pprint.py (this session's program over the kit's printer) out of the translation. Lean checks it.
import Derived.Test.YthkdhcaojhbfoaaPx0
import Derived.Test.YthkdhcaojhbfoaaPx4
import Derived.Test.YthkdhcaojhbfoaaPx8
import Derived.Test.YthkdhcaojhbfoaaPx9
import Derived.Test.YthkdhcaojhbfoaaPx17
import Derived.Test.YthkdhcaojhbfoaaPx21
import Derived.Test.YthkdhcaojhbfoaaPx34
namespace Go.Proofs.Ythkdhcaojhbfoaa.P
open Go.RowKit Go.Proofs.YthkdhcaojhbfoaaX Go.Proofs.YthkdhcaojhbfoaaW.PrintWords Go.Proofs.YthkdhcaojhbfoaaW.PrintLast Go.Proofs.YthkdhcaojhbfoaaW.PrintMore
attribute [local go_sem] max2_int min2_int max_two min_two max_three min_three max_four min_four   -- for this text's walks alone
set_option linter.unusedVariables false
set_option linter.unusedSimpArgs false

/-! ### laws_FnExactSecCut: function 14 -/
mutual
def laws_FnExactSecCut.j0 : Nat → List Int → List ByteArray → List (S79) → Option (Bool)
 | 0, _, _, _ => none
 | k + 1, x1, x891000, x891001 => (laws_szSecDisk.f k x891000 x891001 1048576).bind fun t891 => (if t891 < 0 then (some true) else (laws_FnExactSecCut.j1 k x1 x891000 x891001))
def laws_FnExactSecCut.j1 : Nat → List Int → List ByteArray → List (S79) → Option (Bool)
 | 0, _, _, _ => none
 | k + 1, x1, x891000, x891001 => (laws_toSecDisk.f k x891000 x891001).bind fun bt892 => ((laws_toIntS.f k x1).bind fun t898 => ((spec_SecCut.f k bt892.1 bt892.2 t898).bind fun bt901 => ((laws_toSecDisk.f k x891000 x891001).bind fun bt908 => ((laws_toIntS.f k x1).bind fun t915 => ((impl_SecCut.f k bt908.1 bt908.2 t915).bind fun bt918 => ((laws_eqSecDisk.f k bt918.1 bt918.2 bt901.1 bt901.2).bind fun t925 => (if t925 = true then (laws_FnExactSecCut.j2 k x1 t915 x891000 x891001 bt901.1 bt901.2 bt908.1 bt908.2 bt918.1 bt918.2) else (some false))))))))
def laws_FnExactSecCut.j2 : Nat → List Int → List Int → List ByteArray → List (S79) → List ByteArray → List (S54) → List ByteArray → List (S54) → List ByteArray → List (S54) → Option (Bool)
 | 0, _, _, _, _, _, _, _, _, _, _ => none
 | k + 1, x1, x8, x891000, x891001, x908000, x908001, x915000, x915001, x925000, x925001 => (laws_toSecDisk.f k x891000 x891001).bind fun bt926 => ((laws_eqSecDisk.f k x915000 x915001 bt926.1 bt926.2).bind fun t932 => (if t932 = true then (laws_FnExactSecCut.j3 k x1 x8 x891000 x891001 x908000 x908001 x915000 x915001 x925000 x925001) else (some false)))
def laws_FnExactSecCut.j3 : Nat → List Int → List Int → List ByteArray → List (S79) → List ByteArray → List (S54) → List ByteArray → List (S54) → List ByteArray → List (S54) → Option (Bool)
 | 0, _, _, _, _, _, _, _, _, _, _ => none
 | k + 1, x1, x8, x891000, x891001, x908000, x908001, x915000, x915001, x925000, x925001 => (laws_toIntS.f k x1).bind fun t933 => ((laws_eqIntS.f k x8 t933).bind fun t936 => (if t936 = true then (laws_FnExactSecCut.j4 k x1 x8 x891000 x891001 x908000 x908001 x915000 x915001 x925000 x925001) else (some false)))
def laws_FnExactSecCut.j4 : Nat → List Int → List Int → List ByteArray → List (S79) → List ByteArray → List (S54) → List ByteArray → List (S54) → List ByteArray → List (S54) → Option (Bool)
 | 0, _, _, _, _, _, _, _, _, _, _ => none
 | k + 1, x1, x8, x891000, x891001, x908000, x908001, x915000, x915001, x925000, x925001 => (laws_markSecDisk.f k x915000 x915001 1).bind fun bt937 => ((laws_markIntS.f k x8 bt937.1).bind fun bt940 => (if bt940.1 < 0 then (laws_FnExactSecCut.j5 k x1 true x891000 x891001 x908000 x908001 x925000 x925001) else ((laws_eqSecDisk.f k x925000 x925001 x908000 x908001).bind fun t942 => (laws_FnExactSecCut.j5 k x1 (!t942) x891000 x891001 x908000 x908001 x925000 x925001))))
def laws_FnExactSecCut.j5 : Nat → List Int → Bool → List ByteArray → List (S79) → List ByteArray → List (S54) → List ByteArray → List (S54) → Option (Bool)
 | 0, _, _, _, _, _, _, _, _ => none
 | k + 1, x1, x61, x891000, x891001, x908000, x908001, x925000, x925001 => if x61 = true then (some false) else (laws_FnExactSecCut.j6 k x1 x891000 x891001 x908000 x908001 x925000 x925001)
def laws_FnExactSecCut.j6 : Nat → List Int → List ByteArray → List (S79) → List ByteArray → List (S54) → List ByteArray → List (S54) → Option (Bool)
 | 0, _, _, _, _, _, _, _ => none
 | k + 1, x1, x891000, x891001, x908000, x908001, x925000, x925001 => (laws_markSecDisk.f k x925000 x925001 1).bind fun bt943 => ((laws_heldSecDisk.f k bt943.2.1 bt943.2.2 1).bind fun t946 => (if t946 < 0 then (some false) else (laws_FnExactSecCut.j7 k x1 bt943.1 t946 x891000 x891001 x908000 x908001 bt943.2.1 bt943.2.2)))
def laws_FnExactSecCut.j7 : Nat → List Int → Int → Int → List ByteArray → List (S79) → List ByteArray → List (S54) → List ByteArray → List (S54) → Option (Bool)
 | 0, _, _, _, _, _, _, _, _, _ => none
 | k + 1, x1, x11, x12, x891000, x891001, x908000, x908001, x925000, x925001 => if x12 = x11 then (laws_FnExactSecCut.j8 k x1 x11 x891000 x891001 x908000 x908001 x925000 x925001) else (some false)
def laws_FnExactSecCut.j8 : Nat → List Int → Int → List ByteArray → List (S79) → List ByteArray → List (S54) → List ByteArray → List (S54) → Option (Bool)
 | 0, _, _, _, _, _, _, _, _ => none
 | k + 1, x1, x11, x891000, x891001, x908000, x908001, x925000, x925001 => (laws_toSecDisk.f k x891000 x891001).bind fun bt947 => ((laws_toIntS.f k x1).bind fun t953 => ((impl_SecCut.f k bt947.1 bt947.2 t953).bind fun bt956 => ((laws_eqSecDisk.f k bt956.1 bt956.2 x908000 x908001).bind fun t963 => (if t963 = true then (laws_FnExactSecCut.j9 k x11 x925000 x925001) else (some false)))))
def laws_FnExactSecCut.j9 : Nat → Int → List ByteArray → List (S54) → Option (Bool)
 | 0, _, _, _ => none
 | k + 1, x11, x925000, x925001 => (laws_heldSecDisk.f k x925000 x925001 1).bind fun t964 => (if t964 < 0 then (some false) else (if t964 = x11 then (some true) else (some false)))
end
def laws_FnExactSecCut.f (k : Nat) (l0_0 : List ByteArray) (l0_1 : List (S79)) (l1 : List Int) : Option (Bool) := if (l1.length : Int) > 1048576 then (some true) else (laws_FnExactSecCut.j0 k l1 l0_0 l0_1)
theorem laws_FnExactSecCut.mono_l : ∀ k, (∀ y0 y1 y2, LeO (laws_FnExactSecCut.j0 k y0 y1 y2) (laws_FnExactSecCut.j0 (k + 1) y0 y1 y2)) ∧ (∀ y0 y1 y2, LeO (laws_FnExactSecCut.j1 k y0 y1 y2) (laws_FnExactSecCut.j1 (k + 1) y0 y1 y2)) ∧ (∀ y0 y1 y2 y3 y4 y5 y6 y7 y8 y9, LeO (laws_FnExactSecCut.j2 k y0 y1 y2 y3 y4 y5 y6 y7 y8 y9) (laws_FnExactSecCut.j2 (k + 1) y0 y1 y2 y3 y4 y5 y6 y7 y8 y9)) ∧ (∀ y0 y1 y2 y3 y4 y5 y6 y7 y8 y9, LeO (laws_FnExactSecCut.j3 k y0 y1 y2 y3 y4 y5 y6 y7 y8 y9) (laws_FnExactSecCut.j3 (k + 1) y0 y1 y2 y3 y4 y5 y6 y7 y8 y9)) ∧ (∀ y0 y1 y2 y3 y4 y5 y6 y7 y8 y9, LeO (laws_FnExactSecCut.j4 k y0 y1 y2 y3 y4 y5 y6 y7 y8 y9) (laws_FnExactSecCut.j4 (k + 1) y0 y1 y2 y3 y4 y5 y6 y7 y8 y9)) ∧ (∀ y0 y1 y2 y3 y4 y5 y6 y7, LeO (laws_FnExactSecCut.j5 k y0 y1 y2 y3 y4 y5 y6 y7) (laws_FnExactSecCut.j5 (k + 1) y0 y1 y2 y3 y4 y5 y6 y7)) ∧ (∀ y0 y1 y2 y3 y4 y5 y6, LeO (laws_FnExactSecCut.j6 k y0 y1 y2 y3 y4 y5 y6) (laws_FnExactSecCut.j6 (k + 1) y0 y1 y2 y3 y4 y5 y6)) ∧ (∀ y0 y1 y2 y3 y4 y5 y6 y7 y8, LeO (laws_FnExactSecCut.j7 k y0 y1 y2 y3 y4 y5 y6 y7 y8) (laws_FnExactSecCut.j7 (k + 1) y0 y1 y2 y3 y4 y5 y6 y7 y8)) ∧ (∀ y0 y1 y2 y3 y4 y5 y6 y7, LeO (laws_FnExactSecCut.j8 k y0 y1 y2 y3 y4 y5 y6 y7) (laws_FnExactSecCut.j8 (k + 1) y0 y1 y2 y3 y4 y5 y6 y7)) ∧ (∀ y0 y1 y2, LeO (laws_FnExactSecCut.j9 k y0 y1 y2) (laws_FnExactSecCut.j9 (k + 1) y0 y1 y2))
 | 0 => ⟨fun _ _ _ r h => by simp [laws_FnExactSecCut.j0] at h, fun _ _ _ r h => by simp [laws_FnExactSecCut.j1] at h, fun _ _ _ _ _ _ _ _ _ _ r h => by simp [laws_FnExactSecCut.j2] at h, fun _ _ _ _ _ _ _ _ _ _ r h => by simp [laws_FnExactSecCut.j3] at h, fun _ _ _ _ _ _ _ _ _ _ r h => by simp [laws_FnExactSecCut.j4] at h, fun _ _ _ _ _ _ _ _ r h => by simp [laws_FnExactSecCut.j5] at h, fun _ _ _ _ _ _ _ r h => by simp [laws_FnExactSecCut.j6] at h, fun _ _ _ _ _ _ _ _ _ r h => by simp [laws_FnExactSecCut.j7] at h, fun _ _ _ _ _ _ _ _ r h => by simp [laws_FnExactSecCut.j8] at h, fun _ _ _ r h => by simp [laws_FnExactSecCut.j9] at h⟩
 | k + 1 => by
  obtain ⟨ih0, ih1, ih2, ih3, ih4, ih5, ih6, ih7, ih8, ih9⟩ := laws_FnExactSecCut.mono_l k
  refine ⟨?_, ?_, ?_, ?_, ?_, ?_, ?_, ?_, ?_, ?_⟩
  ·intro y0 y1 y2
   unfold laws_FnExactSecCut.j0
   repeat' first
   | (with_reducible exact ih0 _ _ _)
   | (with_reducible exact ih1 _ _ _)
   | (with_reducible exact ih2 _ _ _ _ _ _ _ _ _ _)
   | (with_reducible exact ih3 _ _ _ _ _ _ _ _ _ _)
   | (with_reducible exact ih4 _ _ _ _ _ _ _ _ _ _)
   | (with_reducible exact ih5 _ _ _ _ _ _ _ _)
   | (with_reducible exact ih6 _ _ _ _ _ _ _)
   | (with_reducible exact ih7 _ _ _ _ _ _ _ _ _)
   | (with_reducible exact ih8 _ _ _ _ _ _ _ _)
   | (with_reducible exact ih9 _ _ _)
   | (with_reducible exact impl_SecCut.mono _ _ _ _)
   | (with_reducible exact laws_eqIntS.mono _ _ _)
   | (with_reducible exact laws_eqSecDisk.mono _ _ _ _ _)
   | (with_reducible exact laws_heldSecDisk.mono _ _ _ _)
   | (with_reducible exact laws_markIntS.mono _ _ _)
   | (with_reducible exact laws_markSecDisk.mono _ _ _ _)
   | (with_reducible exact laws_szSecDisk.mono _ _ _ _)
   | (with_reducible exact laws_toIntS.mono _ _)
   | (with_reducible exact laws_toSecDisk.mono _ _ _)
   | (with_reducible exact spec_SecCut.mono _ _ _ _)
   | (with_reducible exact LeO.refl _)
   | (with_reducible exact LeO.none _)
   | (with_reducible refine LeO.ite ?_ ?_)
   | (with_reducible refine LeO.bind ?_ (fun _ => ?_))
   | exact ih0 _ _ _
   | exact ih1 _ _ _
   | exact ih2 _ _ _ _ _ _ _ _ _ _
   | exact ih3 _ _ _ _ _ _ _ _ _ _
   | exact ih4 _ _ _ _ _ _ _ _ _ _
   | exact ih5 _ _ _ _ _ _ _ _
   | exact ih6 _ _ _ _ _ _ _
   | exact ih7 _ _ _ _ _ _ _ _ _
   | exact ih8 _ _ _ _ _ _ _ _
   | exact ih9 _ _ _
   | exact impl_SecCut.mono _ _ _ _
   | exact laws_eqIntS.mono _ _ _
   | exact laws_eqSecDisk.mono _ _ _ _ _
   | exact laws_heldSecDisk.mono _ _ _ _
   | exact laws_markIntS.mono _ _ _
   | exact laws_markSecDisk.mono _ _ _ _
   | exact laws_szSecDisk.mono _ _ _ _
   | exact laws_toIntS.mono _ _
   | exact laws_toSecDisk.mono _ _ _
   | exact spec_SecCut.mono _ _ _ _
   | exact LeO.none _
   | refine LeO.ite ?_ ?_
   | refine LeO.bind ?_ (fun _ => ?_)
  ·intro y0 y1 y2
   unfold laws_FnExactSecCut.j1
   repeat' first
   | (with_reducible exact ih0 _ _ _)
   | (with_reducible exact ih1 _ _ _)
   | (with_reducible exact ih2 _ _ _ _ _ _ _ _ _ _)
   | (with_reducible exact ih3 _ _ _ _ _ _ _ _ _ _)
   | (with_reducible exact ih4 _ _ _ _ _ _ _ _ _ _)
   | (with_reducible exact ih5 _ _ _ _ _ _ _ _)
   | (with_reducible exact ih6 _ _ _ _ _ _ _)
   | (with_reducible exact ih7 _ _ _ _ _ _ _ _ _)
   | (with_reducible exact ih8 _ _ _ _ _ _ _ _)
   | (with_reducible exact ih9 _ _ _)
   | (with_reducible exact impl_SecCut.mono _ _ _ _)
   | (with_reducible exact laws_eqIntS.mono _ _ _)
   | (with_reducible exact laws_eqSecDisk.mono _ _ _ _ _)
   | (with_reducible exact laws_heldSecDisk.mono _ _ _ _)
   | (with_reducible exact laws_markIntS.mono _ _ _)
   | (with_reducible exact laws_markSecDisk.mono _ _ _ _)
   | (with_reducible exact laws_szSecDisk.mono _ _ _ _)
   | (with_reducible exact laws_toIntS.mono _ _)
   | (with_reducible exact laws_toSecDisk.mono _ _ _)
   | (with_reducible exact spec_SecCut.mono _ _ _ _)
   | (with_reducible exact LeO.refl _)
   | (with_reducible exact LeO.none _)
   | (with_reducible refine LeO.ite ?_ ?_)
   | (with_reducible refine LeO.bind ?_ (fun _ => ?_))
   | exact ih0 _ _ _
   | exact ih1 _ _ _
   | exact ih2 _ _ _ _ _ _ _ _ _ _
   | exact ih3 _ _ _ _ _ _ _ _ _ _
   | exact ih4 _ _ _ _ _ _ _ _ _ _
   | exact ih5 _ _ _ _ _ _ _ _
   | exact ih6 _ _ _ _ _ _ _
   | exact ih7 _ _ _ _ _ _ _ _ _
   | exact ih8 _ _ _ _ _ _ _ _
   | exact ih9 _ _ _
   | exact impl_SecCut.mono _ _ _ _
   | exact laws_eqIntS.mono _ _ _
   | exact laws_eqSecDisk.mono _ _ _ _ _
   | exact laws_heldSecDisk.mono _ _ _ _
   | exact laws_markIntS.mono _ _ _
   | exact laws_markSecDisk.mono _ _ _ _
   | exact laws_szSecDisk.mono _ _ _ _
   | exact laws_toIntS.mono _ _
   | exact laws_toSecDisk.mono _ _ _
   | exact spec_SecCut.mono _ _ _ _
   | exact LeO.none _
   | refine LeO.ite ?_ ?_
   | refine LeO.bind ?_ (fun _ => ?_)
  ·intro y0 y1 y2 y3 y4 y5 y6 y7 y8 y9
   unfold laws_FnExactSecCut.j2
   repeat' first
   | (with_reducible exact ih0 _ _ _)
   | (with_reducible exact ih1 _ _ _)
   | (with_reducible exact ih2 _ _ _ _ _ _ _ _ _ _)
   | (with_reducible exact ih3 _ _ _ _ _ _ _ _ _ _)
   | (with_reducible exact ih4 _ _ _ _ _ _ _ _ _ _)
   | (with_reducible exact ih5 _ _ _ _ _ _ _ _)
   | (with_reducible exact ih6 _ _ _ _ _ _ _)
   | (with_reducible exact ih7 _ _ _ _ _ _ _ _ _)
   | (with_reducible exact ih8 _ _ _ _ _ _ _ _)
   | (with_reducible exact ih9 _ _ _)
   | (with_reducible exact impl_SecCut.mono _ _ _ _)
   | (with_reducible exact laws_eqIntS.mono _ _ _)
   | (with_reducible exact laws_eqSecDisk.mono _ _ _ _ _)
   | (with_reducible exact laws_heldSecDisk.mono _ _ _ _)
   | (with_reducible exact laws_markIntS.mono _ _ _)
   | (with_reducible exact laws_markSecDisk.mono _ _ _ _)
   | (with_reducible exact laws_szSecDisk.mono _ _ _ _)
   | (with_reducible exact laws_toIntS.mono _ _)
   | (with_reducible exact laws_toSecDisk.mono _ _ _)
   | (with_reducible exact spec_SecCut.mono _ _ _ _)
   | (with_reducible exact LeO.refl _)
   | (with_reducible exact LeO.none _)
   | (with_reducible refine LeO.ite ?_ ?_)
   | (with_reducible refine LeO.bind ?_ (fun _ => ?_))
   | exact ih0 _ _ _
   | exact ih1 _ _ _
   | exact ih2 _ _ _ _ _ _ _ _ _ _
   | exact ih3 _ _ _ _ _ _ _ _ _ _
   | exact ih4 _ _ _ _ _ _ _ _ _ _
   | exact ih5 _ _ _ _ _ _ _ _
   | exact ih6 _ _ _ _ _ _ _
   | exact ih7 _ _ _ _ _ _ _ _ _
   | exact ih8 _ _ _ _ _ _ _ _
   | exact ih9 _ _ _
   | exact impl_SecCut.mono _ _ _ _
   | exact laws_eqIntS.mono _ _ _
   | exact laws_eqSecDisk.mono _ _ _ _ _
   | exact laws_heldSecDisk.mono _ _ _ _
   | exact laws_markIntS.mono _ _ _
   | exact laws_markSecDisk.mono _ _ _ _
   | exact laws_szSecDisk.mono _ _ _ _
   | exact laws_toIntS.mono _ _
   | exact laws_toSecDisk.mono _ _ _
   | exact spec_SecCut.mono _ _ _ _
   | exact LeO.none _
   | refine LeO.ite ?_ ?_
   | refine LeO.bind ?_ (fun _ => ?_)
  ·intro y0 y1 y2 y3 y4 y5 y6 y7 y8 y9
   unfold laws_FnExactSecCut.j3
   repeat' first
   | (with_reducible exact ih0 _ _ _)
   | (with_reducible exact ih1 _ _ _)
   | (with_reducible exact ih2 _ _ _ _ _ _ _ _ _ _)
   | (with_reducible exact ih3 _ _ _ _ _ _ _ _ _ _)
   | (with_reducible exact ih4 _ _ _ _ _ _ _ _ _ _)
   | (with_reducible exact ih5 _ _ _ _ _ _ _ _)
   | (with_reducible exact ih6 _ _ _ _ _ _ _)
   | (with_reducible exact ih7 _ _ _ _ _ _ _ _ _)
   | (with_reducible exact ih8 _ _ _ _ _ _ _ _)
   | (with_reducible exact ih9 _ _ _)
   | (with_reducible exact impl_SecCut.mono _ _ _ _)
   | (with_reducible exact laws_eqIntS.mono _ _ _)
   | (with_reducible exact laws_eqSecDisk.mono _ _ _ _ _)
   | (with_reducible exact laws_heldSecDisk.mono _ _ _ _)
   | (with_reducible exact laws_markIntS.mono _ _ _)
   | (with_reducible exact laws_markSecDisk.mono _ _ _ _)
   | (with_reducible exact laws_szSecDisk.mono _ _ _ _)
   | (with_reducible exact laws_toIntS.mono _ _)
   | (with_reducible exact laws_toSecDisk.mono _ _ _)
   | (with_reducible exact spec_SecCut.mono _ _ _ _)
   | (with_reducible exact LeO.refl _)
   | (with_reducible exact LeO.none _)
   | (with_reducible refine LeO.ite ?_ ?_)
   | (with_reducible refine LeO.bind ?_ (fun _ => ?_))
   | exact ih0 _ _ _
   | exact ih1 _ _ _
   | exact ih2 _ _ _ _ _ _ _ _ _ _
   | exact ih3 _ _ _ _ _ _ _ _ _ _
   | exact ih4 _ _ _ _ _ _ _ _ _ _
   | exact ih5 _ _ _ _ _ _ _ _
   | exact ih6 _ _ _ _ _ _ _
   | exact ih7 _ _ _ _ _ _ _ _ _
   | exact ih8 _ _ _ _ _ _ _ _
   | exact ih9 _ _ _
   | exact impl_SecCut.mono _ _ _ _
   | exact laws_eqIntS.mono _ _ _
   | exact laws_eqSecDisk.mono _ _ _ _ _
   | exact laws_heldSecDisk.mono _ _ _ _
   | exact laws_markIntS.mono _ _ _
   | exact laws_markSecDisk.mono _ _ _ _
   | exact laws_szSecDisk.mono _ _ _ _
   | exact laws_toIntS.mono _ _
   | exact laws_toSecDisk.mono _ _ _
   | exact spec_SecCut.mono _ _ _ _
   | exact LeO.none _
   | refine LeO.ite ?_ ?_
   | refine LeO.bind ?_ (fun _ => ?_)
  ·intro y0 y1 y2 y3 y4 y5 y6 y7 y8 y9
   unfold laws_FnExactSecCut.j4
   repeat' first
   | (with_reducible exact ih0 _ _ _)
   | (with_reducible exact ih1 _ _ _)
   | (with_reducible exact ih2 _ _ _ _ _ _ _ _ _ _)
   | (with_reducible exact ih3 _ _ _ _ _ _ _ _ _ _)
   | (with_reducible exact ih4 _ _ _ _ _ _ _ _ _ _)
   | (with_reducible exact ih5 _ _ _ _ _ _ _ _)
   | (with_reducible exact ih6 _ _ _ _ _ _ _)
   | (with_reducible exact ih7 _ _ _ _ _ _ _ _ _)
   | (with_reducible exact ih8 _ _ _ _ _ _ _ _)
   | (with_reducible exact ih9 _ _ _)
   | (with_reducible exact impl_SecCut.mono _ _ _ _)
   | (with_reducible exact laws_eqIntS.mono _ _ _)
   | (with_reducible exact laws_eqSecDisk.mono _ _ _ _ _)
   | (with_reducible exact laws_heldSecDisk.mono _ _ _ _)
   | (with_reducible exact laws_markIntS.mono _ _ _)
   | (with_reducible exact laws_markSecDisk.mono _ _ _ _)
   | (with_reducible exact laws_szSecDisk.mono _ _ _ _)
   | (with_reducible exact laws_toIntS.mono _ _)
   | (with_reducible exact laws_toSecDisk.mono _ _ _)
   | (with_reducible exact spec_SecCut.mono _ _ _ _)
   | (with_reducible exact LeO.refl _)
   | (with_reducible exact LeO.none _)
   | (with_reducible refine LeO.ite ?_ ?_)
   | (with_reducible refine LeO.bind ?_ (fun _ => ?_))
   | exact ih0 _ _ _
   | exact ih1 _ _ _
   | exact ih2 _ _ _ _ _ _ _ _ _ _
   | exact ih3 _ _ _ _ _ _ _ _ _ _
   | exact ih4 _ _ _ _ _ _ _ _ _ _
   | exact ih5 _ _ _ _ _ _ _ _
   | exact ih6 _ _ _ _ _ _ _
   | exact ih7 _ _ _ _ _ _ _ _ _
   | exact ih8 _ _ _ _ _ _ _ _
   | exact ih9 _ _ _
   | exact impl_SecCut.mono _ _ _ _
   | exact laws_eqIntS.mono _ _ _
   | exact laws_eqSecDisk.mono _ _ _ _ _
   | exact laws_heldSecDisk.mono _ _ _ _
   | exact laws_markIntS.mono _ _ _
   | exact laws_markSecDisk.mono _ _ _ _
   | exact laws_szSecDisk.mono _ _ _ _
   | exact laws_toIntS.mono _ _
   | exact laws_toSecDisk.mono _ _ _
   | exact spec_SecCut.mono _ _ _ _
   | exact LeO.none _
   | refine LeO.ite ?_ ?_
   | refine LeO.bind ?_ (fun _ => ?_)
  ·intro y0 y1 y2 y3 y4 y5 y6 y7
   unfold laws_FnExactSecCut.j5
   repeat' first
   | (with_reducible exact ih0 _ _ _)
   | (with_reducible exact ih1 _ _ _)
   | (with_reducible exact ih2 _ _ _ _ _ _ _ _ _ _)
   | (with_reducible exact ih3 _ _ _ _ _ _ _ _ _ _)
   | (with_reducible exact ih4 _ _ _ _ _ _ _ _ _ _)
   | (with_reducible exact ih5 _ _ _ _ _ _ _ _)
   | (with_reducible exact ih6 _ _ _ _ _ _ _)
   | (with_reducible exact ih7 _ _ _ _ _ _ _ _ _)
   | (with_reducible exact ih8 _ _ _ _ _ _ _ _)
   | (with_reducible exact ih9 _ _ _)
   | (with_reducible exact impl_SecCut.mono _ _ _ _)
   | (with_reducible exact laws_eqIntS.mono _ _ _)
   | (with_reducible exact laws_eqSecDisk.mono _ _ _ _ _)
   | (with_reducible exact laws_heldSecDisk.mono _ _ _ _)
   | (with_reducible exact laws_markIntS.mono _ _ _)
   | (with_reducible exact laws_markSecDisk.mono _ _ _ _)
   | (with_reducible exact laws_szSecDisk.mono _ _ _ _)
   | (with_reducible exact laws_toIntS.mono _ _)
   | (with_reducible exact laws_toSecDisk.mono _ _ _)
   | (with_reducible exact spec_SecCut.mono _ _ _ _)
   | (with_reducible exact LeO.refl _)
   | (with_reducible exact LeO.none _)
   | (with_reducible refine LeO.ite ?_ ?_)
   | (with_reducible refine LeO.bind ?_ (fun _ => ?_))
   | exact ih0 _ _ _
   | exact ih1 _ _ _
   | exact ih2 _ _ _ _ _ _ _ _ _ _
   | exact ih3 _ _ _ _ _ _ _ _ _ _
   | exact ih4 _ _ _ _ _ _ _ _ _ _
   | exact ih5 _ _ _ _ _ _ _ _
   | exact ih6 _ _ _ _ _ _ _
   | exact ih7 _ _ _ _ _ _ _ _ _
   | exact ih8 _ _ _ _ _ _ _ _
   | exact ih9 _ _ _
   | exact impl_SecCut.mono _ _ _ _
   | exact laws_eqIntS.mono _ _ _
   | exact laws_eqSecDisk.mono _ _ _ _ _
   | exact laws_heldSecDisk.mono _ _ _ _
   | exact laws_markIntS.mono _ _ _
   | exact laws_markSecDisk.mono _ _ _ _
   | exact laws_szSecDisk.mono _ _ _ _
   | exact laws_toIntS.mono _ _
   | exact laws_toSecDisk.mono _ _ _
   | exact spec_SecCut.mono _ _ _ _
   | exact LeO.none _
   | refine LeO.ite ?_ ?_
   | refine LeO.bind ?_ (fun _ => ?_)
  ·intro y0 y1 y2 y3 y4 y5 y6
   unfold laws_FnExactSecCut.j6
   repeat' first
   | (with_reducible exact ih0 _ _ _)
   | (with_reducible exact ih1 _ _ _)
   | (with_reducible exact ih2 _ _ _ _ _ _ _ _ _ _)
   | (with_reducible exact ih3 _ _ _ _ _ _ _ _ _ _)
   | (with_reducible exact ih4 _ _ _ _ _ _ _ _ _ _)
   | (with_reducible exact ih5 _ _ _ _ _ _ _ _)
   | (with_reducible exact ih6 _ _ _ _ _ _ _)
   | (with_reducible exact ih7 _ _ _ _ _ _ _ _ _)
   | (with_reducible exact ih8 _ _ _ _ _ _ _ _)
   | (with_reducible exact ih9 _ _ _)
   | (with_reducible exact impl_SecCut.mono _ _ _ _)
   | (with_reducible exact laws_eqIntS.mono _ _ _)
   | (with_reducible exact laws_eqSecDisk.mono _ _ _ _ _)
   | (with_reducible exact laws_heldSecDisk.mono _ _ _ _)
   | (with_reducible exact laws_markIntS.mono _ _ _)
   | (with_reducible exact laws_markSecDisk.mono _ _ _ _)
   | (with_reducible exact laws_szSecDisk.mono _ _ _ _)
   | (with_reducible exact laws_toIntS.mono _ _)
   | (with_reducible exact laws_toSecDisk.mono _ _ _)
   | (with_reducible exact spec_SecCut.mono _ _ _ _)
   | (with_reducible exact LeO.refl _)
   | (with_reducible exact LeO.none _)
   | (with_reducible refine LeO.ite ?_ ?_)
   | (with_reducible refine LeO.bind ?_ (fun _ => ?_))
   | exact ih0 _ _ _
   | exact ih1 _ _ _
   | exact ih2 _ _ _ _ _ _ _ _ _ _
   | exact ih3 _ _ _ _ _ _ _ _ _ _
   | exact ih4 _ _ _ _ _ _ _ _ _ _
   | exact ih5 _ _ _ _ _ _ _ _
   | exact ih6 _ _ _ _ _ _ _
   | exact ih7 _ _ _ _ _ _ _ _ _
   | exact ih8 _ _ _ _ _ _ _ _
   | exact ih9 _ _ _
   | exact impl_SecCut.mono _ _ _ _
   | exact laws_eqIntS.mono _ _ _
   | exact laws_eqSecDisk.mono _ _ _ _ _
   | exact laws_heldSecDisk.mono _ _ _ _
   | exact laws_markIntS.mono _ _ _
   | exact laws_markSecDisk.mono _ _ _ _
   | exact laws_szSecDisk.mono _ _ _ _
   | exact laws_toIntS.mono _ _
   | exact laws_toSecDisk.mono _ _ _
   | exact spec_SecCut.mono _ _ _ _
   | exact LeO.none _
   | refine LeO.ite ?_ ?_
   | refine LeO.bind ?_ (fun _ => ?_)
  ·intro y0 y1 y2 y3 y4 y5 y6 y7 y8
   unfold laws_FnExactSecCut.j7
   repeat' first
   | (with_reducible exact ih0 _ _ _)
   | (with_reducible exact ih1 _ _ _)
   | (with_reducible exact ih2 _ _ _ _ _ _ _ _ _ _)
   | (with_reducible exact ih3 _ _ _ _ _ _ _ _ _ _)
   | (with_reducible exact ih4 _ _ _ _ _ _ _ _ _ _)
   | (with_reducible exact ih5 _ _ _ _ _ _ _ _)
   | (with_reducible exact ih6 _ _ _ _ _ _ _)
   | (with_reducible exact ih7 _ _ _ _ _ _ _ _ _)
   | (with_reducible exact ih8 _ _ _ _ _ _ _ _)
   | (with_reducible exact ih9 _ _ _)
   | (with_reducible exact impl_SecCut.mono _ _ _ _)
   | (with_reducible exact laws_eqIntS.mono _ _ _)
   | (with_reducible exact laws_eqSecDisk.mono _ _ _ _ _)
   | (with_reducible exact laws_heldSecDisk.mono _ _ _ _)
   | (with_reducible exact laws_markIntS.mono _ _ _)
   | (with_reducible exact laws_markSecDisk.mono _ _ _ _)
   | (with_reducible exact laws_szSecDisk.mono _ _ _ _)
   | (with_reducible exact laws_toIntS.mono _ _)
   | (with_reducible exact laws_toSecDisk.mono _ _ _)
   | (with_reducible exact spec_SecCut.mono _ _ _ _)
   | (with_reducible exact LeO.refl _)
   | (with_reducible exact LeO.none _)
   | (with_reducible refine LeO.ite ?_ ?_)
   | (with_reducible refine LeO.bind ?_ (fun _ => ?_))
   | exact ih0 _ _ _
   | exact ih1 _ _ _
   | exact ih2 _ _ _ _ _ _ _ _ _ _
   | exact ih3 _ _ _ _ _ _ _ _ _ _
   | exact ih4 _ _ _ _ _ _ _ _ _ _
   | exact ih5 _ _ _ _ _ _ _ _
   | exact ih6 _ _ _ _ _ _ _
   | exact ih7 _ _ _ _ _ _ _ _ _
   | exact ih8 _ _ _ _ _ _ _ _
   | exact ih9 _ _ _
   | exact impl_SecCut.mono _ _ _ _
   | exact laws_eqIntS.mono _ _ _
   | exact laws_eqSecDisk.mono _ _ _ _ _
   | exact laws_heldSecDisk.mono _ _ _ _
   | exact laws_markIntS.mono _ _ _
   | exact laws_markSecDisk.mono _ _ _ _
   | exact laws_szSecDisk.mono _ _ _ _
   | exact laws_toIntS.mono _ _
   | exact laws_toSecDisk.mono _ _ _
   | exact spec_SecCut.mono _ _ _ _
   | exact LeO.none _
   | refine LeO.ite ?_ ?_
   | refine LeO.bind ?_ (fun _ => ?_)
  ·intro y0 y1 y2 y3 y4 y5 y6 y7
   unfold laws_FnExactSecCut.j8
   repeat' first
   | (with_reducible exact ih0 _ _ _)
   | (with_reducible exact ih1 _ _ _)
   | (with_reducible exact ih2 _ _ _ _ _ _ _ _ _ _)
   | (with_reducible exact ih3 _ _ _ _ _ _ _ _ _ _)
   | (with_reducible exact ih4 _ _ _ _ _ _ _ _ _ _)
   | (with_reducible exact ih5 _ _ _ _ _ _ _ _)
   | (with_reducible exact ih6 _ _ _ _ _ _ _)
   | (with_reducible exact ih7 _ _ _ _ _ _ _ _ _)
   | (with_reducible exact ih8 _ _ _ _ _ _ _ _)
   | (with_reducible exact ih9 _ _ _)
   | (with_reducible exact impl_SecCut.mono _ _ _ _)
   | (with_reducible exact laws_eqIntS.mono _ _ _)
   | (with_reducible exact laws_eqSecDisk.mono _ _ _ _ _)
   | (with_reducible exact laws_heldSecDisk.mono _ _ _ _)
   | (with_reducible exact laws_markIntS.mono _ _ _)
   | (with_reducible exact laws_markSecDisk.mono _ _ _ _)
   | (with_reducible exact laws_szSecDisk.mono _ _ _ _)
   | (with_reducible exact laws_toIntS.mono _ _)
   | (with_reducible exact laws_toSecDisk.mono _ _ _)
   | (with_reducible exact spec_SecCut.mono _ _ _ _)
   | (with_reducible exact LeO.refl _)
   | (with_reducible exact LeO.none _)
   | (with_reducible refine LeO.ite ?_ ?_)
   | (with_reducible refine LeO.bind ?_ (fun _ => ?_))
   | exact ih0 _ _ _
   | exact ih1 _ _ _
   | exact ih2 _ _ _ _ _ _ _ _ _ _
   | exact ih3 _ _ _ _ _ _ _ _ _ _
   | exact ih4 _ _ _ _ _ _ _ _ _ _
   | exact ih5 _ _ _ _ _ _ _ _
   | exact ih6 _ _ _ _ _ _ _
   | exact ih7 _ _ _ _ _ _ _ _ _
   | exact ih8 _ _ _ _ _ _ _ _
   | exact ih9 _ _ _
   | exact impl_SecCut.mono _ _ _ _
   | exact laws_eqIntS.mono _ _ _
   | exact laws_eqSecDisk.mono _ _ _ _ _
   | exact laws_heldSecDisk.mono _ _ _ _
   | exact laws_markIntS.mono _ _ _
   | exact laws_markSecDisk.mono _ _ _ _
   | exact laws_szSecDisk.mono _ _ _ _
   | exact laws_toIntS.mono _ _
   | exact laws_toSecDisk.mono _ _ _
   | exact spec_SecCut.mono _ _ _ _
   | exact LeO.none _
   | refine LeO.ite ?_ ?_
   | refine LeO.bind ?_ (fun _ => ?_)
  ·intro y0 y1 y2
   unfold laws_FnExactSecCut.j9
   repeat' first
   | (with_reducible exact ih0 _ _ _)
   | (with_reducible exact ih1 _ _ _)
   | (with_reducible exact ih2 _ _ _ _ _ _ _ _ _ _)
   | (with_reducible exact ih3 _ _ _ _ _ _ _ _ _ _)
   | (with_reducible exact ih4 _ _ _ _ _ _ _ _ _ _)
   | (with_reducible exact ih5 _ _ _ _ _ _ _ _)
   | (with_reducible exact ih6 _ _ _ _ _ _ _)
   | (with_reducible exact ih7 _ _ _ _ _ _ _ _ _)
   | (with_reducible exact ih8 _ _ _ _ _ _ _ _)
   | (with_reducible exact ih9 _ _ _)
   | (with_reducible exact impl_SecCut.mono _ _ _ _)
   | (with_reducible exact laws_eqIntS.mono _ _ _)
   | (with_reducible exact laws_eqSecDisk.mono _ _ _ _ _)
   | (with_reducible exact laws_heldSecDisk.mono _ _ _ _)
   | (with_reducible exact laws_markIntS.mono _ _ _)
   | (with_reducible exact laws_markSecDisk.mono _ _ _ _)
   | (with_reducible exact laws_szSecDisk.mono _ _ _ _)
   | (with_reducible exact laws_toIntS.mono _ _)
   | (with_reducible exact laws_toSecDisk.mono _ _ _)
   | (with_reducible exact spec_SecCut.mono _ _ _ _)
   | (with_reducible exact LeO.refl _)
   | (with_reducible exact LeO.none _)
   | (with_reducible refine LeO.ite ?_ ?_)
   | (with_reducible refine LeO.bind ?_ (fun _ => ?_))
   | exact ih0 _ _ _
   | exact ih1 _ _ _
   | exact ih2 _ _ _ _ _ _ _ _ _ _
   | exact ih3 _ _ _ _ _ _ _ _ _ _
   | exact ih4 _ _ _ _ _ _ _ _ _ _
   | exact ih5 _ _ _ _ _ _ _ _
   | exact ih6 _ _ _ _ _ _ _
   | exact ih7 _ _ _ _ _ _ _ _ _
   | exact ih8 _ _ _ _ _ _ _ _
   | exact ih9 _ _ _
   | exact impl_SecCut.mono _ _ _ _
   | exact laws_eqIntS.mono _ _ _
   | exact laws_eqSecDisk.mono _ _ _ _ _
   | exact laws_heldSecDisk.mono _ _ _ _
   | exact laws_markIntS.mono _ _ _
   | exact laws_markSecDisk.mono _ _ _ _
   | exact laws_szSecDisk.mono _ _ _ _
   | exact laws_toIntS.mono _ _
   | exact laws_toSecDisk.mono _ _ _
   | exact spec_SecCut.mono _ _ _ _
   | exact LeO.none _
   | refine LeO.ite ?_ ?_
   | refine LeO.bind ?_ (fun _ => ?_)
theorem laws_FnExactSecCut.mono : ∀ a0 a1 a2 k, LeO (laws_FnExactSecCut.f k a0 a1 a2) (laws_FnExactSecCut.f (k + 1) a0 a1 a2) := by
 intro a0 a1 a2 k
 obtain ⟨ih0, ih1, ih2, ih3, ih4, ih5, ih6, ih7, ih8, ih9⟩ := laws_FnExactSecCut.mono_l k
 unfold laws_FnExactSecCut.f
 repeat' first
   | (with_reducible exact ih0 _ _ _)
   | (with_reducible exact ih1 _ _ _)
   | (with_reducible exact ih2 _ _ _ _ _ _ _ _ _ _)
   | (with_reducible exact ih3 _ _ _ _ _ _ _ _ _ _)
   | (with_reducible exact ih4 _ _ _ _ _ _ _ _ _ _)
   | (with_reducible exact ih5 _ _ _ _ _ _ _ _)
   | (with_reducible exact ih6 _ _ _ _ _ _ _)
   | (with_reducible exact ih7 _ _ _ _ _ _ _ _ _)
   | (with_reducible exact ih8 _ _ _ _ _ _ _ _)
   | (with_reducible exact ih9 _ _ _)
   | (with_reducible exact impl_SecCut.mono _ _ _ _)
   | (with_reducible exact laws_eqIntS.mono _ _ _)
   | (with_reducible exact laws_eqSecDisk.mono _ _ _ _ _)
   | (with_reducible exact laws_heldSecDisk.mono _ _ _ _)
   | (with_reducible exact laws_markIntS.mono _ _ _)
   | (with_reducible exact laws_markSecDisk.mono _ _ _ _)
   | (with_reducible exact laws_szSecDisk.mono _ _ _ _)
   | (with_reducible exact laws_toIntS.mono _ _)
   | (with_reducible exact laws_toSecDisk.mono _ _ _)
   | (with_reducible exact spec_SecCut.mono _ _ _ _)
   | (with_reducible exact LeO.refl _)
   | (with_reducible exact LeO.none _)
   | (with_reducible refine LeO.ite ?_ ?_)
   | (with_reducible refine LeO.bind ?_ (fun _ => ?_))
   | exact ih0 _ _ _
   | exact ih1 _ _ _
   | exact ih2 _ _ _ _ _ _ _ _ _ _
   | exact ih3 _ _ _ _ _ _ _ _ _ _
   | exact ih4 _ _ _ _ _ _ _ _ _ _
   | exact ih5 _ _ _ _ _ _ _ _
   | exact ih6 _ _ _ _ _ _ _
   | exact ih7 _ _ _ _ _ _ _ _ _
   | exact ih8 _ _ _ _ _ _ _ _
   | exact ih9 _ _ _
   | exact impl_SecCut.mono _ _ _ _
   | exact laws_eqIntS.mono _ _ _
   | exact laws_eqSecDisk.mono _ _ _ _ _
   | exact laws_heldSecDisk.mono _ _ _ _
   | exact laws_markIntS.mono _ _ _
   | exact laws_markSecDisk.mono _ _ _ _
   | exact laws_szSecDisk.mono _ _ _ _
   | exact laws_toIntS.mono _ _
   | exact laws_toSecDisk.mono _ _ _
   | exact spec_SecCut.mono _ _ _ _
   | exact LeO.none _
   | refine LeO.ite ?_ ?_
   | refine LeO.bind ?_ (fun _ => ?_)
set_option maxHeartbeats 8000000 in
set_option maxRecDepth 100000 in
theorem laws_FnExactSecCut.calls (k : Nat) (A0_0 : Option Addr) (c0_0 : Nat) (l0_0 : List ByteArray) (A0_1 : Option Addr) (c0_1 : Nat) (l0_1 : List (S79)) (A1 : Option Addr) (c1 : Nat) (l1 : List Int) (r : Bool) (w : World) (hr0_0 : Kd.C Kd.string w A0_0 l0_0.length l0_0) (hc0_0 : l0_0.length ≤ c0_0) (hr0_1 : Kd.C k79 w A0_1 l0_1.length l0_1) (hc0_1 : l0_1.length ≤ c0_1) (hr1 : Kd.C (Kd.int .i64) w A1 l1.length l1) (hc1 : l1.length ≤ c1) (h : laws_FnExactSecCut.f k l0_0 l0_1 l1 = some r) :
  Calls Try.prog 14 #[.agg #[.slice A0_0 l0_0.length c0_0, .slice A0_1 l0_1.length c0_1], .slice A1 l1.length c1] w fun e w' => e = .returned (.bool r) ∧ Below w.heap.size w w' := by
 have hu34 := Try.underlying34
 have hu26 := Try.underlying26
 have HR0_0 := Aside0.mk hr0_0
 have HC0_0 := Aside0.mk hc0_0
 clear hr0_0 hc0_0
 have HR0_1 := Aside0.mk hr0_1
 have HC0_1 := Aside0.mk hc0_1
 clear hr0_1 hc0_1
 have HR1 := Aside0.mk hr1
 have HC1 := Aside0.mk hc1
 clear hr1 hc1
 have HB := Aside0.mk (Below.refl w.heap.size w)
 have H : (if (l1.length : Int) > 1048576 then (some true) else (laws_FnExactSecCut.j0 k l1 l0_0 l0_1)) = some r := h
 clear h
 have HC3 := Aside0.mk H
 clear H
 go_enter Try.func14, Try.ntmps14
 go_upto_if 16 with (first | ((with_reducible refine gate_dst (N := 2) rfl ?_); refine box_event ?hg (N := 2) ?hd (cs := #[.slice A0_0 l0_0.length c0_0, .slice A0_1 l0_1.length c0_1]) (t := 34) ?hr ?_; (case hd => rfl); (case hg => rfl); (case hr => first | (go_simp; done) | (go_simp; rfl)); intro gb890 hg w4 hbox hb; have n0_ := Aside0.mk (below_step (pB HB.out) hb); have n1_ := Aside0.mk (hbox); have n2_ := Aside0.mk ((by rw [hg]; exact (below_size (pB HB.out)) : w.heap.size ≤ gb890)); have n3_ := Aside0.mk ((by rw [hg]; exact (below_size (pB HB.out)) : w.heap.size ≤ gb890)); clear HB; have HB := n0_; have BK890 := n1_; have GW890 := n2_; have GE890 := n3_; clear n0_ n1_ n2_ n3_; clear hb hbox hg))
 (try simp only [Act.put, List.setIfInBounds_toArray, List.set_cons_zero, List.set_cons_succ])
 go_cut [] (fun wc => ∃ (kq : Nat), Aside0 (laws_FnExactSecCut.j0 kq l1 l0_0 l0_1 = some r) ∧ Aside0 (kq ≤ k) ∧ Aside0 (wc.heap[gb890]? = some (.cells #[(.slice A0_0 l0_0.length c0_0), (.slice A0_1 l0_1.length c0_1)] 34 (0, 0))) ∧ Aside0 (Below w.heap.size w wc))
 case first =>
  have H := HC3.out
  clear HC3
  by_cases c5 : (l1.length : Int) > 1048576
  ·rw [if_pos c5] at H
   have c5b0 : decide (1048576 < (l1.length : Int)) = true := decide_eq_true c5
   have c5b1 : decide (1048576 < l1.length) = true := decide_eq_true (by omega)
   clear c5
   (first | rw [c5b0] | (simp only [i64_w, i32_w]; rw [c5b0]) | skip)
   obtain rfl := Option.some.inj H
   go_wp2
   go_ret
   exact ⟨by first | rfl | (simp [errW_none, errW_some] <;> rfl) | (simp [*, errW_none, errW_some] <;> rfl), by repeat (first | (with_reducible first | exact HB.out | apply below_alloc | apply pw_below_drewN | apply below_drew1 | refine below_set ?_ GE890.out) | exact HB.out)⟩
  ·rw [if_neg c5] at H
   have c5b0 : decide (1048576 < (l1.length : Int)) = false := decide_eq_false c5
   have c5b1 : decide (1048576 < l1.length) = false := decide_eq_false (by omega)
   clear c5
   (first | rw [c5b0] | (simp only [i64_w, i32_w]; rw [c5b0]) | skip)
   have H' := Aside0.mk H
   clear H
   go_wp2
   go_meet
   case rel => exact ⟨_, H', ⟨by first | omega | exact Nat.le_refl _⟩, ⟨pK BK890.out⟩, ⟨by repeat (first | (with_reducible first | exact HB.out | apply below_alloc | apply pw_below_drewN | apply below_drew1 | refine below_set ?_ GE890.out) | exact HB.out)⟩⟩
 case rest =>
  clear HC3
  try clear c1
  try clear p2
  try clear c5
  try clear c5b0
  try clear c5b1
  obtain ⟨kq, HA, HJ2, BK890, HB⟩ := hcut
  cases kq with
  | zero => exact absurd HA.out (by simp [laws_FnExactSecCut.j0])
  | succ kj2 =>
   have H := HA.out
   clear HA
   simp only [laws_FnExactSecCut.j0] at H
   replace H := Option.bind_eq_some_iff.mp H
   obtain ⟨t891, A60, H⟩ := H
   replace H : (if t891 < 0 then (some true) else (laws_FnExactSecCut.j1 kj2 l1 l0_0 l0_1)) = some r := H
   have A6 := Aside0.mk A60
   clear A60
   have HC7 := Aside0.mk H
   clear H
   have hcz8_0 : wc.cell? ⟨gb890, 0, none⟩ = some (.slice A0_0 l0_0.length c0_0) := (blk_cell BK890.out 0).trans rfl
   have hcz8_1 : wc.cell? ⟨gb890, 1, none⟩ = some (.slice A0_1 l0_1.length c0_1) := (blk_cell BK890.out 1).trans rfl
   have hfz8_0 := blk_frozen BK890.out 0
   have hfz8_1 := blk_frozen BK890.out 1
   go_upto_if 21 with (first | ((with_reducible refine gate_callee (f := 22) rfl ?_); refine goesL_ (some 19) rfl rfl Try.func22 (by kernel_rfl) rfl #[.agg #[.slice A0_0 l0_0.length c0_0, .slice A0_1 l0_1.length c0_1], .int .i64 1048576] rfl bM ?_; (with_reducible refine (laws_szSecDisk.calls kj2 _ _ l0_0 _ _ l0_1 1048576 t891 _ ?side1 ?side2 ?side3 ?side4 A6.out).mono ?_); (case side1 => repeat (first | exact (Kd.C_below HR0_0.out HB.out) | (with_reducible refine Kd.C_alloc ?_ _) | (with_reducible refine Kd.C_drewN ?_ _) | (with_reducible refine Kd.C_drew ?_))); (case side2 => exact HC0_0.out); (case side3 => repeat (first | exact (Kd.C_below HR0_1.out HB.out) | (with_reducible refine Kd.C_alloc ?_ _) | (with_reducible refine Kd.C_drewN ?_ _) | (with_reducible refine Kd.C_drew ?_))); (case side4 => exact HC0_1.out); rintro e w9 ⟨rfl, hb⟩; refine ⟨_, rfl, ?_⟩; have n0_ := Aside0.mk (blk_below (g := gb890) (o := .cells #[.slice A0_0 l0_0.length c0_0, .slice A0_1 l0_1.length c0_1] 34 (0, 0)) (pK BK890.out) hb); have n1_ := Aside0.mk (below_step (by repeat (first | (with_reducible first | exact HB.out | apply below_alloc | apply pw_below_drewN | apply below_drew1 | refine below_set ?_ GE890.out) | exact HB.out)) hb); clear BK890; clear HB; have BK890 := n0_; have HB := n1_; clear n0_ n1_; (try clear hb); (try clear hb2); (try clear hk); (try clear hi)))
   (try simp only [Act.put, List.setIfInBounds_toArray, List.set_cons_zero, List.set_cons_succ])
   go_cut [] (fun wc => ∃ (kq : Nat), Aside0 (laws_FnExactSecCut.j1 kq l1 l0_0 l0_1 = some r) ∧ Aside0 (kq ≤ kj2) ∧ Aside0 (wc.heap[gb890]? = some (.cells #[(.slice A0_0 l0_0.length c0_0), (.slice A0_1 l0_1.length c0_1)] 34 (0, 0))) ∧ Aside0 (Below w.heap.size w wc))
   case first =>
    have H := HC7.out
    clear HC7
    by_cases c10 : t891 < 0
    ·rw [if_pos c10] at H
     have c10b0 : decide (t891 < 0) = true := decide_eq_true c10
     clear c10
     (first | rw [c10b0] | (simp only [i64_w, i32_w]; rw [c10b0]) | skip)
     obtain rfl := Option.some.inj H
     go_wp2
     go_ret
     exact ⟨by first | rfl | (simp [errW_none, errW_some] <;> rfl) | (simp [*, errW_none, errW_some] <;> rfl), by repeat (first | (with_reducible first | exact HB.out | apply below_alloc | apply pw_below_drewN | apply below_drew1 | refine below_set ?_ GE890.out) | exact HB.out)⟩
    ·rw [if_neg c10] at H
     have c10b0 : decide (t891 < 0) = false := decide_eq_false c10
     clear c10
     (first | rw [c10b0] | (simp only [i64_w, i32_w]; rw [c10b0]) | skip)
     have H' := Aside0.mk H
     clear H
     go_wp2
     go_meet
     case rel => exact ⟨_, H', ⟨by have := HJ2.out; first | omega | exact Nat.le_refl _⟩, ⟨pK BK890.out⟩, ⟨by repeat (first | (with_reducible first | exact HB.out | apply below_alloc | apply pw_below_drewN | apply below_drew1 | refine below_set ?_ GE890.out) | exact HB.out)⟩⟩
   case rest =>
    clear HC7
    try clear c1
    try clear c2
    try clear p2
    try clear c5
    try clear c5b0
    try clear c5b1
    try clear c10
    try clear c10b0
    try clear hcz8_0
    try clear hcz8_1
    try clear hfz8_0
    try clear hfz8_1
    try clear p2
    obtain ⟨kq, HA, HJ6, BK890, HB⟩ := hcut
    cases kq with
    | zero => exact absurd HA.out (by simp [laws_FnExactSecCut.j1])
    | succ kj6 =>
     have H := HA.out
     clear HA
     simp only [laws_FnExactSecCut.j1] at H
     replace H := Option.bind_eq_some_iff.mp H
     obtain ⟨⟨t892, t895⟩, A110, H⟩ := H
     replace H : ((laws_toIntS.f kj6 l1).bind fun t898 => ((spec_SecCut.f kj6 t892 t895 t898).bind fun bt901 => ((laws_toSecDisk.f kj6 l0_0 l0_1).bind fun bt908 => ((laws_toIntS.f kj6 l1).bind fun t915 => ((impl_SecCut.f kj6 bt908.1 bt908.2 t915).bind fun bt918 => ((laws_eqSecDisk.f kj6 bt918.1 bt918.2 bt901.1 bt901.2).bind fun t925 => (if t925 = true then (laws_FnExactSecCut.j2 kj6 l1 t915 l0_0 l0_1 bt901.1 bt901.2 bt908.1 bt908.2 bt918.1 bt918.2) else (some false)))))))) = some r := H
     have A11 := Aside0.mk A110
     clear A110
     replace H := Option.bind_eq_some_iff.mp H
     obtain ⟨t898, A120, H⟩ := H
     replace H : ((spec_SecCut.f kj6 t892 t895 t898).bind fun bt901 => ((laws_toSecDisk.f kj6 l0_0 l0_1).bind fun bt908 => ((laws_toIntS.f kj6 l1).bind fun t915 => ((impl_SecCut.f kj6 bt908.1 bt908.2 t915).bind fun bt918 => ((laws_eqSecDisk.f kj6 bt918.1 bt918.2 bt901.1 bt901.2).bind fun t925 => (if t925 = true then (laws_FnExactSecCut.j2 kj6 l1 t915 l0_0 l0_1 bt901.1 bt901.2 bt908.1 bt908.2 bt918.1 bt918.2) else (some false))))))) = some r := H
     have A12 := Aside0.mk A120
     clear A120
     replace H := Option.bind_eq_some_iff.mp H
     obtain ⟨⟨t901, t904⟩, A130, H⟩ := H
     replace H : ((laws_toSecDisk.f kj6 l0_0 l0_1).bind fun bt908 => ((laws_toIntS.f kj6 l1).bind fun t915 => ((impl_SecCut.f kj6 bt908.1 bt908.2 t915).bind fun bt918 => ((laws_eqSecDisk.f kj6 bt918.1 bt918.2 t901 t904).bind fun t925 => (if t925 = true then (laws_FnExactSecCut.j2 kj6 l1 t915 l0_0 l0_1 t901 t904 bt908.1 bt908.2 bt918.1 bt918.2) else (some false)))))) = some r := H
     have A13 := Aside0.mk A130
     clear A130
     replace H := Option.bind_eq_some_iff.mp H
     obtain ⟨⟨t908, t911⟩, A140, H⟩ := H
     replace H : ((laws_toIntS.f kj6 l1).bind fun t915 => ((impl_SecCut.f kj6 t908 t911 t915).bind fun bt918 => ((laws_eqSecDisk.f kj6 bt918.1 bt918.2 t901 t904).bind fun t925 => (if t925 = true then (laws_FnExactSecCut.j2 kj6 l1 t915 l0_0 l0_1 t901 t904 t908 t911 bt918.1 bt918.2) else (some false))))) = some r := H
     have A14 := Aside0.mk A140
     clear A140
     replace H := Option.bind_eq_some_iff.mp H
     obtain ⟨t915, A150, H⟩ := H
     replace H : ((impl_SecCut.f kj6 t908 t911 t915).bind fun bt918 => ((laws_eqSecDisk.f kj6 bt918.1 bt918.2 t901 t904).bind fun t925 => (if t925 = true then (laws_FnExactSecCut.j2 kj6 l1 t915 l0_0 l0_1 t901 t904 t908 t911 bt918.1 bt918.2) else (some false)))) = some r := H
     have A15 := Aside0.mk A150
     clear A150
     replace H := Option.bind_eq_some_iff.mp H
     obtain ⟨⟨t918, t921⟩, A160, H⟩ := H
     replace H : ((laws_eqSecDisk.f kj6 t918 t921 t901 t904).bind fun t925 => (if t925 = true then (laws_FnExactSecCut.j2 kj6 l1 t915 l0_0 l0_1 t901 t904 t908 t911 t918 t921) else (some false))) = some r := H
     have A16 := Aside0.mk A160
     clear A160
     replace H := Option.bind_eq_some_iff.mp H
     obtain ⟨t925, A170, H⟩ := H
     replace H : (if t925 = true then (laws_FnExactSecCut.j2 kj6 l1 t915 l0_0 l0_1 t901 t904 t908 t911 t918 t921) else (some false)) = some r := H
     have A17 := Aside0.mk A170
     clear A170
     have HC18 := Aside0.mk H
     clear H
     have hcz19_0 : wc.cell? ⟨gb890, 0, none⟩ = some (.slice A0_0 l0_0.length c0_0) := (blk_cell BK890.out 0).trans rfl
     have hcz19_1 : wc.cell? ⟨gb890, 1, none⟩ = some (.slice A0_1 l0_1.length c0_1) := (blk_cell BK890.out 1).trans rfl
     have hfz19_0 := blk_frozen BK890.out 0
     have hfz19_1 := blk_frozen BK890.out 1
     go_upto_if 37 with (first | ((with_reducible refine gate_callee (f := 24) rfl ?_); refine goesL_ (some 23) rfl rfl Try.func24 (by kernel_rfl) rfl #[.agg #[.slice A0_0 l0_0.length c0_0, .slice A0_1 l0_1.length c0_1]] rfl bM ?_; (with_reducible refine (laws_toSecDisk.calls kj6 _ _ l0_0 _ _ l0_1 t892 t895 _ ?side1 ?side2 ?side3 ?side4 A11.out).mono ?_); (case side1 => repeat (first | exact (Kd.C_below HR0_0.out HB.out) | (with_reducible refine Kd.C_alloc ?_ _) | (with_reducible refine Kd.C_drewN ?_ _) | (with_reducible refine Kd.C_drew ?_))); (case side2 => exact HC0_0.out); (case side3 => repeat (first | exact (Kd.C_below HR0_1.out HB.out) | (with_reducible refine Kd.C_alloc ?_ _) | (with_reducible refine Kd.C_drewN ?_ _) | (with_reducible refine Kd.C_drew ?_))); (case side4 => exact HC0_1.out); rintro e w20 ⟨v893, v896, rfl, ho0, ho1, hb⟩; refine ⟨_, rfl, ?_⟩; have n0_ := Aside0.mk (Kd.R_lower ho0 (below_size (by repeat (first | (with_reducible first | exact HB.out | apply below_alloc | apply pw_below_drewN | apply below_drew1 | refine below_set ?_ GE890.out) | exact HB.out)))); have n1_ := Aside0.mk (Kd.R_lower ho1 (below_size (by repeat (first | (with_reducible first | exact HB.out | apply below_alloc | apply pw_below_drewN | apply below_drew1 | refine below_set ?_ GE890.out) | exact HB.out)))); have n2_ := Aside0.mk (blk_below (g := gb890) (o := .cells #[.slice A0_0 l0_0.length c0_0, .slice A0_1 l0_1.length c0_1] 34 (0, 0)) (pK BK890.out) hb); have n3_ := Aside0.mk (below_step (by repeat (first | (with_reducible first | exact HB.out | apply below_alloc | apply pw_below_drewN | apply below_drew1 | refine below_set ?_ GE890.out) | exact HB.out)) hb); clear BK890; clear HB; have HO894 := n0_; have HO897 := n1_; have BK890 := n2_; have HB := n3_; clear n0_ n1_ n2_ n3_; (try clear hb); (try clear hb2); (try clear hk); (try clear hi); (try clear ho0); (try clear ho1)) | ((with_reducible refine gate_callee (f := 38) rfl ?_); refine goesL_ (some 25) rfl rfl Try.func38 (by kernel_rfl) rfl #[.slice A1 l1.length c1] rfl bM ?_; (with_reducible refine (laws_toIntS.calls kj6 _ _ l1 t898 _ ?side1 ?side2 A12.out).mono ?_); (case side1 => repeat (first | exact (Kd.C_below HR1.out HB.out) | (with_reducible refine Kd.C_alloc ?_ _) | (with_reducible refine Kd.C_drewN ?_ _) | (with_reducible refine Kd.C_drew ?_))); (case side2 => exact HC1.out); rintro e w21 ⟨v899, rfl, ho0, hb⟩; refine ⟨_, rfl, ?_⟩; have n0_ := Aside0.mk (Kd.R_below (pR HO894.out) hb); have n1_ := Aside0.mk (Kd.R_below (pR HO897.out) hb); have n2_ := Aside0.mk (Kd.R_lower ho0 (below_size (by repeat (first | (with_reducible first | exact HB.out | apply below_alloc | apply pw_below_drewN | apply below_drew1 | refine below_set ?_ GE890.out) | exact HB.out)))); have n3_ := Aside0.mk (blk_below (g := gb890) (o := .cells #[.slice A0_0 l0_0.length c0_0, .slice A0_1 l0_1.length c0_1] 34 (0, 0)) (pK BK890.out) hb); have n4_ := Aside0.mk (below_step (by repeat (first | (with_reducible first | exact HB.out | apply below_alloc | apply pw_below_drewN | apply below_drew1 | refine below_set ?_ GE890.out) | exact HB.out)) hb); clear HO894; clear HO897; clear BK890; clear HB; have HO894 := n0_; have HO897 := n1_; have HO900 := n2_; have BK890 := n3_; have HB := n4_; clear n0_ n1_ n2_ n3_ n4_; (try clear hb); (try clear hb2); (try clear hk); (try clear hi); (try clear ho0); obtain ⟨Ao22, co22, eo22⟩ := Kd.R_slice HO894.out; subst eo22; obtain ⟨Ao23, co23, eo23⟩ := Kd.R_slice HO897.out; subst eo23; obtain ⟨Ao24, co24, eo24⟩ := Kd.R_slice HO900.out; subst eo24) | ((with_reducible refine gate_callee (f := 34) rfl ?_); refine goesL_ (some 26) rfl rfl Try.func34 (by kernel_rfl) rfl #[.agg #[.slice Ao22 t892.length co22, .slice Ao23 t895.length co23], .slice Ao24 t898.length co24] rfl bM ?_; (with_reducible refine (spec_SecCut.calls kj6 _ _ t892 _ _ t895 _ _ t898 t901 t904 _ ?side1 ?side2 ?side3 ?side4 ?side5 ?side6 A13.out).mono ?_); (case side1 => exact pC (Kd.R_reads' HO894.out).2.2); (case side2 => exact (Kd.R_reads' HO894.out).2.1); (case side3 => exact pC (Kd.R_reads' HO897.out).2.2); (case side4 => exact (Kd.R_reads' HO897.out).2.1); (case side5 => exact pC (Kd.R_reads' HO900.out).2.2); (case side6 => exact (Kd.R_reads' HO900.out).2.1); rintro e w25 ⟨v902, v905, rfl, ho0, ho1, hb⟩; refine ⟨_, rfl, ?_⟩; have n0_ := Aside0.mk (Kd.R_elder' (pR HO894.out) (Kd.R_base ho0) hb); have n1_ := Aside0.mk (Kd.R_elder' (pR HO897.out) (Kd.R_base ho1) hb); have n2_ := Aside0.mk (Kd.R_below (pR HO900.out) hb); have n3_ := Aside0.mk (Kd.R_lower (Kd.R_new' ho0 (Kd.R_lt (pR HO894.out))) (below_size (by repeat (first | (with_reducible first | exact HB.out | apply below_alloc | apply pw_below_drewN | apply below_drew1 | refine below_set ?_ GE890.out) | exact HB.out)))); have n4_ := Aside0.mk (Kd.R_lower (Kd.R_new' ho1 (Kd.R_lt (pR HO897.out))) (below_size (by repeat (first | (with_reducible first | exact HB.out | apply below_alloc | apply pw_below_drewN | apply below_drew1 | refine below_set ?_ GE890.out) | exact HB.out)))); have n5_ := Aside0.mk (blk_below (g := gb890) (o := .cells #[.slice A0_0 l0_0.length c0_0, .slice A0_1 l0_1.length c0_1] 34 (0, 0)) (pK BK890.out) hb); have n6_ := Aside0.mk (below_step (by repeat (first | (with_reducible first | exact HB.out | apply below_alloc | apply pw_below_drewN | apply below_drew1 | refine below_set ?_ GE890.out) | exact HB.out)) hb); clear HO894; clear HO897; clear HO900; clear BK890; clear HB; have HO894 := n0_; have HO897 := n1_; have HO900 := n2_; have HO903 := n3_; have HO906 := n4_; have BK890 := n5_; have HB := n6_; clear n0_ n1_ n2_ n3_ n4_ n5_ n6_; (try clear hb); (try clear hb2); (try clear hk); (try clear hi); (try clear ho0); (try clear ho1)) | ((with_reducible refine gate_dst (N := 6) rfl ?_); refine box_event ?hg (N := 6) ?hd (cs := #[.slice none 0 0, .slice none 0 0]) (t := 26) ?hr ?_; (case hd => rfl); (case hg => rfl); (case hr => first | (go_simp; done) | (go_simp; rfl)); intro gb907 hg w26 hbox hb; have n0_ := Aside0.mk (Kd.R_below (pR HO894.out) hb); have n1_ := Aside0.mk (Kd.R_below (pR HO897.out) hb); have n2_ := Aside0.mk (Kd.R_below (pR HO900.out) hb); have n3_ := Aside0.mk (Kd.R_below (pR HO903.out) hb); have n4_ := Aside0.mk (Kd.R_below (pR HO906.out) hb); have n5_ := Aside0.mk (blk_below (g := gb890) (o := .cells #[.slice A0_0 l0_0.length c0_0, .slice A0_1 l0_1.length c0_1] 34 (0, 0)) (pK BK890.out) hb); have n6_ := Aside0.mk (below_step (by repeat (first | (with_reducible first | exact HB.out | apply below_alloc | apply pw_below_drewN | apply below_drew1 | refine below_set ?_ GE890.out) | exact HB.out)) hb); have n7_ := Aside0.mk (hbox); have n8_ := Aside0.mk ((by rw [hg]; exact (below_size (by repeat (first | (with_reducible first | exact HB.out | apply below_alloc | apply pw_below_drewN | apply below_drew1 | refine below_set ?_ GE890.out) | exact HB.out))) : w.heap.size ≤ gb907)); have n9_ := Aside0.mk ((by rw [hg]; exact (below_size (by repeat (first | (with_reducible first | exact HB.out | apply below_alloc | apply pw_below_drewN | apply below_drew1 | refine below_set ?_ GE890.out) | exact HB.out))) : w.heap.size ≤ gb907)); have n10_ := Aside0.mk ((by rw [hg]; exact Nat.ne_of_lt (blk_lt (g := gb890) (o := .cells #[.slice A0_0 l0_0.length c0_0, .slice A0_1 l0_1.length c0_1] 34 (0, 0)) (pK BK890.out)) : gb890 ≠ gb907)); have n11_ := Aside0.mk ((by rw [hg]; exact Nat.ne_of_gt (blk_lt (g := gb890) (o := .cells #[.slice A0_0 l0_0.length c0_0, .slice A0_1 l0_1.length c0_1] 34 (0, 0)) (pK BK890.out)) : gb907 ≠ gb890)); clear HO894; clear HO897; clear HO900; clear HO903; clear HO906; clear BK890; clear HB; have HO894 := n0_; have HO897 := n1_; have HO900 := n2_; have HO903 := n3_; have HO906 := n4_; have BK890 := n5_; have HB := n6_; have BK907 := n7_; have GW907 := n8_; have GE907 := n9_; have NB890_907 := n10_; have NB907_890 := n11_; clear n0_ n1_ n2_ n3_ n4_ n5_ n6_ n7_ n8_ n9_ n10_ n11_; clear hb hbox hg; obtain ⟨Ao27, co27, eo27⟩ := Kd.R_slice HO903.out; subst eo27; have hnb28 := NB907_890.out; have hnc28 := NB890_907.out; have hcz29_0 : w26.cell? ⟨gb907, 0, none⟩ = some (.slice none 0 0) := (blk_cell BK907.out 0).trans rfl; have hcz29_1 : w26.cell? ⟨gb907, 1, none⟩ = some (.slice none 0 0) := (blk_cell BK907.out 1).trans rfl; have hfz29_0 := blk_frozen BK907.out 0; have hfz29_1 := blk_frozen BK907.out 1; obtain ⟨Ao30, co30, eo30⟩ := Kd.R_slice HO906.out; subst eo30; have hcz31_0 : w26.cell? ⟨gb890, 0, none⟩ = some (.slice A0_0 l0_0.length c0_0) := (blk_cell BK890.out 0).trans rfl; have hcz31_1 : w26.cell? ⟨gb890, 1, none⟩ = some (.slice A0_1 l0_1.length c0_1) := (blk_cell BK890.out 1).trans rfl; have hfz31_0 := blk_frozen BK890.out 0; have hfz31_1 := blk_frozen BK890.out 1) | ((with_reducible refine gate_callee (f := 24) rfl ?_); refine goesL_ (some 28) rfl rfl Try.func24 (by kernel_rfl) rfl #[.agg #[.slice A0_0 l0_0.length c0_0, .slice A0_1 l0_1.length c0_1]] rfl bM ?_; (with_reducible refine (laws_toSecDisk.calls kj6 _ _ l0_0 _ _ l0_1 t908 t911 _ ?side1 ?side2 ?side3 ?side4 A14.out).mono ?_); (case side1 => exact Kd.C_below HR0_0.out (by repeat (first | (with_reducible first | exact HB.out | apply below_alloc | apply pw_below_drewN | apply below_drew1 | refine below_set ?_ GE890.out | refine below_set ?_ GE907.out) | exact HB.out))); (case side2 => exact HC0_0.out); (case side3 => exact Kd.C_below HR0_1.out (by repeat (first | (with_reducible first | exact HB.out | apply below_alloc | apply pw_below_drewN | apply below_drew1 | refine below_set ?_ GE890.out | refine below_set ?_ GE907.out) | exact HB.out))); (case side4 => exact HC0_1.out); rintro e w32 ⟨v909, v912, rfl, ho0, ho1, hb⟩; refine ⟨_, rfl, ?_⟩; have n0_ := Aside0.mk (Kd.R_elder' (pR (Kd.R_mono (Kd.R_far (p := ⟨gb907, 1, none⟩) (Kd.R_far (p := ⟨gb907, 0, none⟩) (Kd.R_types HO894.out BK907.out (by decide)) (fun _ hk => hk.2) (.slice Ao27 t901.length co27)) (fun _ hk => hk.2) (.slice Ao30 t904.length co30)) (fun _ h_ => h_.1))) (Kd.R_base ho0) hb); have n1_ := Aside0.mk (Kd.R_elder' (pR (Kd.R_mono (Kd.R_far (p := ⟨gb907, 1, none⟩) (Kd.R_far (p := ⟨gb907, 0, none⟩) (Kd.R_types HO897.out BK907.out (by decide)) (fun _ hk => hk.2) (.slice Ao27 t901.length co27)) (fun _ hk => hk.2) (.slice Ao30 t904.length co30)) (fun _ h_ => h_.1))) (Kd.R_base ho1) hb); have n2_ := Aside0.mk (Kd.R_below (pR (Kd.R_mono (Kd.R_far (p := ⟨gb907, 1, none⟩) (Kd.R_far (p := ⟨gb907, 0, none⟩) (Kd.R_types HO900.out BK907.out (by decide)) (fun _ hk => hk.2) (.slice Ao27 t901.length co27)) (fun _ hk => hk.2) (.slice Ao30 t904.length co30)) (fun _ h_ => h_.1))) hb); have n3_ := Aside0.mk (Kd.R_elder' (pR (Kd.R_mono (Kd.R_far (p := ⟨gb907, 1, none⟩) (Kd.R_far (p := ⟨gb907, 0, none⟩) (Kd.R_types HO903.out BK907.out (by decide)) (fun _ hk => hk.2) (.slice Ao27 t901.length co27)) (fun _ hk => hk.2) (.slice Ao30 t904.length co30)) (fun _ h_ => h_.1))) (Kd.R_base ho0) hb); have n4_ := Aside0.mk (Kd.R_elder' (pR (Kd.R_mono (Kd.R_far (p := ⟨gb907, 1, none⟩) (Kd.R_far (p := ⟨gb907, 0, none⟩) (Kd.R_types HO906.out BK907.out (by decide)) (fun _ hk => hk.2) (.slice Ao27 t901.length co27)) (fun _ hk => hk.2) (.slice Ao30 t904.length co30)) (fun _ h_ => h_.1))) (Kd.R_base ho1) hb); have n5_ := Aside0.mk (Kd.R_lower (Kd.R_new' (Kd.R_new' ho0 (Kd.R_lt (pR (Kd.R_mono (Kd.R_far (p := ⟨gb907, 1, none⟩) (Kd.R_far (p := ⟨gb907, 0, none⟩) (Kd.R_types HO894.out BK907.out (by decide)) (fun _ hk => hk.2) (.slice Ao27 t901.length co27)) (fun _ hk => hk.2) (.slice Ao30 t904.length co30)) (fun _ h_ => h_.1))))) (Kd.R_lt (pR (Kd.R_mono (Kd.R_far (p := ⟨gb907, 1, none⟩) (Kd.R_far (p := ⟨gb907, 0, none⟩) (Kd.R_types HO903.out BK907.out (by decide)) (fun _ hk => hk.2) (.slice Ao27 t901.length co27)) (fun _ hk => hk.2) (.slice Ao30 t904.length co30)) (fun _ h_ => h_.1))))) (below_size (by repeat (first | (with_reducible first | exact HB.out | apply below_alloc | apply pw_below_drewN | apply below_drew1 | refine below_set ?_ GE890.out | refine below_set ?_ GE907.out) | exact HB.out)))); have n6_ := Aside0.mk (Kd.R_lower (Kd.R_new' (Kd.R_new' ho1 (Kd.R_lt (pR (Kd.R_mono (Kd.R_far (p := ⟨gb907, 1, none⟩) (Kd.R_far (p := ⟨gb907, 0, none⟩) (Kd.R_types HO897.out BK907.out (by decide)) (fun _ hk => hk.2) (.slice Ao27 t901.length co27)) (fun _ hk => hk.2) (.slice Ao30 t904.length co30)) (fun _ h_ => h_.1))))) (Kd.R_lt (pR (Kd.R_mono (Kd.R_far (p := ⟨gb907, 1, none⟩) (Kd.R_far (p := ⟨gb907, 0, none⟩) (Kd.R_types HO906.out BK907.out (by decide)) (fun _ hk => hk.2) (.slice Ao27 t901.length co27)) (fun _ hk => hk.2) (.slice Ao30 t904.length co30)) (fun _ h_ => h_.1))))) (below_size (by repeat (first | (with_reducible first | exact HB.out | apply below_alloc | apply pw_below_drewN | apply below_drew1 | refine below_set ?_ GE890.out | refine below_set ?_ GE907.out) | exact HB.out)))); have n7_ := Aside0.mk (blk_below (g := gb890) (o := .cells #[.slice A0_0 l0_0.length c0_0, .slice A0_1 l0_1.length c0_1] 34 (0, 0)) (by (with_reducible repeat (first | refine blk_drewN ?_ _ | refine blk_drew ?_ | refine blk_alloc ?_ _)); refine blk_far ?_ NB890_907.out _; (with_reducible repeat (first | refine blk_drewN ?_ _ | refine blk_drew ?_ | refine blk_alloc ?_ _)); refine blk_far ?_ NB890_907.out _; (with_reducible repeat (first | refine blk_drewN ?_ _ | refine blk_drew ?_ | refine blk_alloc ?_ _)); exact BK890.out) hb); have n8_ := Aside0.mk (blk_below (g := gb907) (o := .cells #[.slice Ao27 t901.length co27, .slice Ao30 t904.length co30] 26 (0, 0)) (by (with_reducible repeat (first | refine blk_drewN ?_ _ | refine blk_drew ?_ | refine blk_alloc ?_ _)); refine blk_put (cs := #[.slice Ao27 t901.length co27, .slice none 0 0]) ?_ 1 _ rfl; (with_reducible repeat (first | refine blk_drewN ?_ _ | refine blk_drew ?_ | refine blk_alloc ?_ _)); refine blk_put (cs := #[.slice none 0 0, .slice none 0 0]) ?_ 0 _ rfl; (with_reducible repeat (first | refine blk_drewN ?_ _ | refine blk_drew ?_ | refine blk_alloc ?_ _)); exact BK907.out) hb); have n9_ := Aside0.mk (below_step (by repeat (first | (with_reducible first | exact HB.out | apply below_alloc | apply pw_below_drewN | apply below_drew1 | refine below_set ?_ GE890.out | refine below_set ?_ GE907.out) | exact HB.out)) hb); clear HO894; clear HO897; clear HO900; clear HO903; clear HO906; clear BK890; clear BK907; clear HB; have HO894 := n0_; have HO897 := n1_; have HO900 := n2_; have HO903 := n3_; have HO906 := n4_; have HO910 := n5_; have HO913 := n6_; have BK890 := n7_; have BK907 := n8_; have HB := n9_; clear n0_ n1_ n2_ n3_ n4_ n5_ n6_ n7_ n8_ n9_; (try clear hb); (try clear hb2); (try clear hk); (try clear hi); (try clear ho0); (try clear ho1)) | ((with_reducible refine gate_dst (N := 7) rfl ?_); refine box_event ?hg (N := 7) ?hd (cs := #[.slice none 0 0, .slice none 0 0]) (t := 26) ?hr ?_; (case hd => rfl); (case hg => rfl); (case hr => first | (go_simp; done) | (go_simp; rfl)); intro gb914 hg w33 hbox hb; have n0_ := Aside0.mk (Kd.R_below (pR HO894.out) hb); have n1_ := Aside0.mk (Kd.R_below (pR HO897.out) hb); have n2_ := Aside0.mk (Kd.R_below (pR HO900.out) hb); have n3_ := Aside0.mk (Kd.R_below (pR HO903.out) hb); have n4_ := Aside0.mk (Kd.R_below (pR HO906.out) hb); have n5_ := Aside0.mk (Kd.R_below (pR HO910.out) hb); have n6_ := Aside0.mk (Kd.R_below (pR HO913.out) hb); have n7_ := Aside0.mk (blk_below (g := gb890) (o := .cells #[.slice A0_0 l0_0.length c0_0, .slice A0_1 l0_1.length c0_1] 34 (0, 0)) (pK BK890.out) hb); have n8_ := Aside0.mk (blk_below (g := gb907) (o := .cells #[.slice Ao27 t901.length co27, .slice Ao30 t904.length co30] 26 (0, 0)) (pK BK907.out) hb); have n9_ := Aside0.mk (below_step (by repeat (first | (with_reducible first | exact HB.out | apply below_alloc | apply pw_below_drewN | apply below_drew1 | refine below_set ?_ GE890.out | refine below_set ?_ GE907.out) | exact HB.out)) hb); have n10_ := Aside0.mk (hbox); have n11_ := Aside0.mk ((by rw [hg]; exact (below_size (by repeat (first | (with_reducible first | exact HB.out | apply below_alloc | apply pw_below_drewN | apply below_drew1 | refine below_set ?_ GE890.out | refine below_set ?_ GE907.out) | exact HB.out))) : w.heap.size ≤ gb914)); have n12_ := Aside0.mk ((by rw [hg]; exact (below_size (by repeat (first | (with_reducible first | exact HB.out | apply below_alloc | apply pw_below_drewN | apply below_drew1 | refine below_set ?_ GE890.out | refine below_set ?_ GE907.out) | exact HB.out))) : w.heap.size ≤ gb914)); have n13_ := Aside0.mk ((by rw [hg]; exact Nat.ne_of_lt (blk_lt (g := gb890) (o := .cells #[.slice A0_0 l0_0.length c0_0, .slice A0_1 l0_1.length c0_1] 34 (0, 0)) (pK BK890.out)) : gb890 ≠ gb914)); have n14_ := Aside0.mk ((by rw [hg]; exact Nat.ne_of_gt (blk_lt (g := gb890) (o := .cells #[.slice A0_0 l0_0.length c0_0, .slice A0_1 l0_1.length c0_1] 34 (0, 0)) (pK BK890.out)) : gb914 ≠ gb890)); have n15_ := Aside0.mk ((by rw [hg]; exact Nat.ne_of_lt (blk_lt (g := gb907) (o := .cells #[.slice Ao27 t901.length co27, .slice Ao30 t904.length co30] 26 (0, 0)) (pK BK907.out)) : gb907 ≠ gb914)); have n16_ := Aside0.mk ((by rw [hg]; exact Nat.ne_of_gt (blk_lt (g := gb907) (o := .cells #[.slice Ao27 t901.length co27, .slice Ao30 t904.length co30] 26 (0, 0)) (pK BK907.out)) : gb914 ≠ gb907)); clear HO894; clear HO897; clear HO900; clear HO903; clear HO906; clear HO910; clear HO913; clear BK890; clear BK907; clear HB; have HO894 := n0_; have HO897 := n1_; have HO900 := n2_; have HO903 := n3_; have HO906 := n4_; have HO910 := n5_; have HO913 := n6_; have BK890 := n7_; have BK907 := n8_; have HB := n9_; have BK914 := n10_; have GW914 := n11_; have GE914 := n12_; have NB890_914 := n13_; have NB914_890 := n14_; have NB907_914 := n15_; have NB914_907 := n16_; clear n0_ n1_ n2_ n3_ n4_ n5_ n6_ n7_ n8_ n9_ n10_ n11_ n12_ n13_ n14_ n15_ n16_; clear hb hbox hg; obtain ⟨Ao34, co34, eo34⟩ := Kd.R_slice HO910.out; subst eo34; have hnb35 := NB914_890.out; have hnc35 := NB890_914.out; have hnb36 := NB914_907.out; have hnc36 := NB907_914.out; have hcz37_0 : w33.cell? ⟨gb914, 0, none⟩ = some (.slice none 0 0) := (blk_cell BK914.out 0).trans rfl; have hcz37_1 : w33.cell? ⟨gb914, 1, none⟩ = some (.slice none 0 0) := (blk_cell BK914.out 1).trans rfl; have hfz37_0 := blk_frozen BK914.out 0; have hfz37_1 := blk_frozen BK914.out 1; obtain ⟨Ao38, co38, eo38⟩ := Kd.R_slice HO913.out; subst eo38) | ((with_reducible refine gate_callee (f := 38) rfl ?_); refine goesL_ (some 30) rfl rfl Try.func38 (by kernel_rfl) rfl #[.slice A1 l1.length c1] rfl bM ?_; (with_reducible refine (laws_toIntS.calls kj6 _ _ l1 t915 _ ?side1 ?side2 A15.out).mono ?_); (case side1 => exact Kd.C_below HR1.out (by repeat (first | (with_reducible first | exact HB.out | apply below_alloc | apply pw_below_drewN | apply below_drew1 | refine below_set ?_ GE890.out | refine below_set ?_ GE907.out | refine below_set ?_ GE914.out) | exact HB.out))); (case side2 => exact HC1.out); rintro e w39 ⟨v916, rfl, ho0, hb⟩; refine ⟨_, rfl, ?_⟩; have n0_ := Aside0.mk (Kd.R_below (pR (Kd.R_mono (Kd.R_far (p := ⟨gb914, 1, none⟩) (Kd.R_far (p := ⟨gb914, 0, none⟩) (Kd.R_types HO894.out BK914.out (by decide)) (fun _ hk => hk.2) (.slice Ao34 t908.length co34)) (fun _ hk => hk.2) (.slice Ao38 t911.length co38)) (fun _ h_ => h_.1))) hb); have n1_ := Aside0.mk (Kd.R_below (pR (Kd.R_mono (Kd.R_far (p := ⟨gb914, 1, none⟩) (Kd.R_far (p := ⟨gb914, 0, none⟩) (Kd.R_types HO897.out BK914.out (by decide)) (fun _ hk => hk.2) (.slice Ao34 t908.length co34)) (fun _ hk => hk.2) (.slice Ao38 t911.length co38)) (fun _ h_ => h_.1))) hb); have n2_ := Aside0.mk (Kd.R_elder' (pR (Kd.R_mono (Kd.R_far (p := ⟨gb914, 1, none⟩) (Kd.R_far (p := ⟨gb914, 0, none⟩) (Kd.R_types HO900.out BK914.out (by decide)) (fun _ hk => hk.2) (.slice Ao34 t908.length co34)) (fun _ hk => hk.2) (.slice Ao38 t911.length co38)) (fun _ h_ => h_.1))) (Kd.R_base ho0) hb); have n3_ := Aside0.mk (Kd.R_below (pR (Kd.R_mono (Kd.R_far (p := ⟨gb914, 1, none⟩) (Kd.R_far (p := ⟨gb914, 0, none⟩) (Kd.R_types HO903.out BK914.out (by decide)) (fun _ hk => hk.2) (.slice Ao34 t908.length co34)) (fun _ hk => hk.2) (.slice Ao38 t911.length co38)) (fun _ h_ => h_.1))) hb); have n4_ := Aside0.mk (Kd.R_below (pR (Kd.R_mono (Kd.R_far (p := ⟨gb914, 1, none⟩) (Kd.R_far (p := ⟨gb914, 0, none⟩) (Kd.R_types HO906.out BK914.out (by decide)) (fun _ hk => hk.2) (.slice Ao34 t908.length co34)) (fun _ hk => hk.2) (.slice Ao38 t911.length co38)) (fun _ h_ => h_.1))) hb); have n5_ := Aside0.mk (Kd.R_below (pR (Kd.R_mono (Kd.R_far (p := ⟨gb914, 1, none⟩) (Kd.R_far (p := ⟨gb914, 0, none⟩) (Kd.R_types HO910.out BK914.out (by decide)) (fun _ hk => hk.2) (.slice Ao34 t908.length co34)) (fun _ hk => hk.2) (.slice Ao38 t911.length co38)) (fun _ h_ => h_.1))) hb); have n6_ := Aside0.mk (Kd.R_below (pR (Kd.R_mono (Kd.R_far (p := ⟨gb914, 1, none⟩) (Kd.R_far (p := ⟨gb914, 0, none⟩) (Kd.R_types HO913.out BK914.out (by decide)) (fun _ hk => hk.2) (.slice Ao34 t908.length co34)) (fun _ hk => hk.2) (.slice Ao38 t911.length co38)) (fun _ h_ => h_.1))) hb); have n7_ := Aside0.mk (Kd.R_lower (Kd.R_new' ho0 (Kd.R_lt (pR (Kd.R_mono (Kd.R_far (p := ⟨gb914, 1, none⟩) (Kd.R_far (p := ⟨gb914, 0, none⟩) (Kd.R_types HO900.out BK914.out (by decide)) (fun _ hk => hk.2) (.slice Ao34 t908.length co34)) (fun _ hk => hk.2) (.slice Ao38 t911.length co38)) (fun _ h_ => h_.1))))) (below_size (by repeat (first | (with_reducible first | exact HB.out | apply below_alloc | apply pw_below_drewN | apply below_drew1 | refine below_set ?_ GE890.out | refine below_set ?_ GE907.out | refine below_set ?_ GE914.out) | exact HB.out)))); have n8_ := Aside0.mk (blk_below (g := gb890) (o := .cells #[.slice A0_0 l0_0.length c0_0, .slice A0_1 l0_1.length c0_1] 34 (0, 0)) (by (with_reducible repeat (first | refine blk_drewN ?_ _ | refine blk_drew ?_ | refine blk_alloc ?_ _)); refine blk_far ?_ NB890_914.out _; (with_reducible repeat (first | refine blk_drewN ?_ _ | refine blk_drew ?_ | refine blk_alloc ?_ _)); refine blk_far ?_ NB890_914.out _; (with_reducible repeat (first | refine blk_drewN ?_ _ | refine blk_drew ?_ | refine blk_alloc ?_ _)); exact BK890.out) hb); have n9_ := Aside0.mk (blk_below (g := gb907) (o := .cells #[.slice Ao27 t901.length co27, .slice Ao30 t904.length co30] 26 (0, 0)) (by (with_reducible repeat (first | refine blk_drewN ?_ _ | refine blk_drew ?_ | refine blk_alloc ?_ _)); refine blk_far ?_ NB907_914.out _; (with_reducible repeat (first | refine blk_drewN ?_ _ | refine blk_drew ?_ | refine blk_alloc ?_ _)); refine blk_far ?_ NB907_914.out _; (with_reducible repeat (first | refine blk_drewN ?_ _ | refine blk_drew ?_ | refine blk_alloc ?_ _)); exact BK907.out) hb); have n10_ := Aside0.mk (blk_below (g := gb914) (o := .cells #[.slice Ao34 t908.length co34, .slice Ao38 t911.length co38] 26 (0, 0)) (by (with_reducible repeat (first | refine blk_drewN ?_ _ | refine blk_drew ?_ | refine blk_alloc ?_ _)); refine blk_put (cs := #[.slice Ao34 t908.length co34, .slice none 0 0]) ?_ 1 _ rfl; (with_reducible repeat (first | refine blk_drewN ?_ _ | refine blk_drew ?_ | refine blk_alloc ?_ _)); refine blk_put (cs := #[.slice none 0 0, .slice none 0 0]) ?_ 0 _ rfl; (with_reducible repeat (first | refine blk_drewN ?_ _ | refine blk_drew ?_ | refine blk_alloc ?_ _)); exact BK914.out) hb); have n11_ := Aside0.mk (below_step (by repeat (first | (with_reducible first | exact HB.out | apply below_alloc | apply pw_below_drewN | apply below_drew1 | refine below_set ?_ GE890.out | refine below_set ?_ GE907.out | refine below_set ?_ GE914.out) | exact HB.out)) hb); clear HO894; clear HO897; clear HO900; clear HO903; clear HO906; clear HO910; clear HO913; clear BK890; clear BK907; clear BK914; clear HB; have HO894 := n0_; have HO897 := n1_; have HO900 := n2_; have HO903 := n3_; have HO906 := n4_; have HO910 := n5_; have HO913 := n6_; have HO917 := n7_; have BK890 := n8_; have BK907 := n9_; have BK914 := n10_; have HB := n11_; clear n0_ n1_ n2_ n3_ n4_ n5_ n6_ n7_ n8_ n9_ n10_ n11_; (try clear hb); (try clear hb2); (try clear hk); (try clear hi); (try clear ho0); have hcz40_0 : w39.cell? ⟨gb914, 0, none⟩ = some (.slice Ao34 t908.length co34) := (blk_cell BK914.out 0).trans rfl; have hcz40_1 : w39.cell? ⟨gb914, 1, none⟩ = some (.slice Ao38 t911.length co38) := (blk_cell BK914.out 1).trans rfl; have hfz40_0 := blk_frozen BK914.out 0; have hfz40_1 := blk_frozen BK914.out 1; obtain ⟨Ao41, co41, eo41⟩ := Kd.R_slice HO917.out; subst eo41) | ((with_reducible refine gate_callee (f := 35) rfl ?_); refine goesL_ (some 33) rfl rfl Try.func35 (by kernel_rfl) rfl #[.agg #[.slice Ao34 t908.length co34, .slice Ao38 t911.length co38], .slice Ao41 t915.length co41] rfl bM ?_; (with_reducible refine (impl_SecCut.calls kj6 _ _ t908 _ _ t911 _ _ t915 t918 t921 _ ?side1 ?side2 ?side3 ?side4 ?side5 ?side6 A16.out).mono ?_); (case side1 => exact pC (Kd.R_reads' HO910.out).2.2); (case side2 => exact (Kd.R_reads' HO910.out).2.1); (case side3 => exact pC (Kd.R_reads' HO913.out).2.2); (case side4 => exact (Kd.R_reads' HO913.out).2.1); (case side5 => exact pC (Kd.R_reads' HO917.out).2.2); (case side6 => exact (Kd.R_reads' HO917.out).2.1); rintro e w42 ⟨v919, v922, rfl, ho0, ho1, hb⟩; refine ⟨_, rfl, ?_⟩; have n0_ := Aside0.mk (Kd.R_elder' (pR HO894.out) (Kd.R_base ho0) hb); have n1_ := Aside0.mk (Kd.R_elder' (pR HO897.out) (Kd.R_base ho1) hb); have n2_ := Aside0.mk (Kd.R_below (pR HO900.out) hb); have n3_ := Aside0.mk (Kd.R_elder' (pR HO903.out) (Kd.R_base ho0) hb); have n4_ := Aside0.mk (Kd.R_elder' (pR HO906.out) (Kd.R_base ho1) hb); have n5_ := Aside0.mk (Kd.R_elder' (pR HO910.out) (Kd.R_base ho0) hb); have n6_ := Aside0.mk (Kd.R_elder' (pR HO913.out) (Kd.R_base ho1) hb); have n7_ := Aside0.mk (Kd.R_below (pR HO917.out) hb); have n8_ := Aside0.mk (Kd.R_lower (Kd.R_new' (Kd.R_new' (Kd.R_new' ho0 (Kd.R_lt (pR HO894.out))) (Kd.R_lt (pR HO903.out))) (Kd.R_lt (pR HO910.out))) (below_size (by repeat (first | (with_reducible first | exact HB.out | apply below_alloc | apply pw_below_drewN | apply below_drew1 | refine below_set ?_ GE890.out | refine below_set ?_ GE907.out | refine below_set ?_ GE914.out) | exact HB.out)))); have n9_ := Aside0.mk (Kd.R_lower (Kd.R_new' (Kd.R_new' (Kd.R_new' ho1 (Kd.R_lt (pR HO897.out))) (Kd.R_lt (pR HO906.out))) (Kd.R_lt (pR HO913.out))) (below_size (by repeat (first | (with_reducible first | exact HB.out | apply below_alloc | apply pw_below_drewN | apply below_drew1 | refine below_set ?_ GE890.out | refine below_set ?_ GE907.out | refine below_set ?_ GE914.out) | exact HB.out)))); have n10_ := Aside0.mk (blk_below (g := gb890) (o := .cells #[.slice A0_0 l0_0.length c0_0, .slice A0_1 l0_1.length c0_1] 34 (0, 0)) (pK BK890.out) hb); have n11_ := Aside0.mk (blk_below (g := gb907) (o := .cells #[.slice Ao27 t901.length co27, .slice Ao30 t904.length co30] 26 (0, 0)) (pK BK907.out) hb); have n12_ := Aside0.mk (blk_below (g := gb914) (o := .cells #[.slice Ao34 t908.length co34, .slice Ao38 t911.length co38] 26 (0, 0)) (pK BK914.out) hb); have n13_ := Aside0.mk (below_step (by repeat (first | (with_reducible first | exact HB.out | apply below_alloc | apply pw_below_drewN | apply below_drew1 | refine below_set ?_ GE890.out | refine below_set ?_ GE907.out | refine below_set ?_ GE914.out) | exact HB.out)) hb); clear HO894; clear HO897; clear HO900; clear HO903; clear HO906; clear HO910; clear HO913; clear HO917; clear BK890; clear BK907; clear BK914; clear HB; have HO894 := n0_; have HO897 := n1_; have HO900 := n2_; have HO903 := n3_; have HO906 := n4_; have HO910 := n5_; have HO913 := n6_; have HO917 := n7_; have HO920 := n8_; have HO923 := n9_; have BK890 := n10_; have BK907 := n11_; have BK914 := n12_; have HB := n13_; clear n0_ n1_ n2_ n3_ n4_ n5_ n6_ n7_ n8_ n9_ n10_ n11_ n12_ n13_; (try clear hb); (try clear hb2); (try clear hk); (try clear hi); (try clear ho0); (try clear ho1)) | ((with_reducible refine gate_dst (N := 9) rfl ?_); refine box_event ?hg (N := 9) ?hd (cs := #[.slice none 0 0, .slice none 0 0]) (t := 26) ?hr ?_; (case hd => rfl); (case hg => rfl); (case hr => first | (go_simp; done) | (go_simp; rfl)); intro gb924 hg w43 hbox hb; have n0_ := Aside0.mk (Kd.R_below (pR HO894.out) hb); have n1_ := Aside0.mk (Kd.R_below (pR HO897.out) hb); have n2_ := Aside0.mk (Kd.R_below (pR HO900.out) hb); have n3_ := Aside0.mk (Kd.R_below (pR HO903.out) hb); have n4_ := Aside0.mk (Kd.R_below (pR HO906.out) hb); have n5_ := Aside0.mk (Kd.R_below (pR HO910.out) hb); have n6_ := Aside0.mk (Kd.R_below (pR HO913.out) hb); have n7_ := Aside0.mk (Kd.R_below (pR HO917.out) hb); have n8_ := Aside0.mk (Kd.R_below (pR HO920.out) hb); have n9_ := Aside0.mk (Kd.R_below (pR HO923.out) hb); have n10_ := Aside0.mk (blk_below (g := gb890) (o := .cells #[.slice A0_0 l0_0.length c0_0, .slice A0_1 l0_1.length c0_1] 34 (0, 0)) (pK BK890.out) hb); have n11_ := Aside0.mk (blk_below (g := gb907) (o := .cells #[.slice Ao27 t901.length co27, .slice Ao30 t904.length co30] 26 (0, 0)) (pK BK907.out) hb); have n12_ := Aside0.mk (blk_below (g := gb914) (o := .cells #[.slice Ao34 t908.length co34, .slice Ao38 t911.length co38] 26 (0, 0)) (pK BK914.out) hb); have n13_ := Aside0.mk (below_step (by repeat (first | (with_reducible first | exact HB.out | apply below_alloc | apply pw_below_drewN | apply below_drew1 | refine below_set ?_ GE890.out | refine below_set ?_ GE907.out | refine below_set ?_ GE914.out) | exact HB.out)) hb); have n14_ := Aside0.mk (hbox); have n15_ := Aside0.mk ((by rw [hg]; exact (below_size (by repeat (first | (with_reducible first | exact HB.out | apply below_alloc | apply pw_below_drewN | apply below_drew1 | refine below_set ?_ GE890.out | refine below_set ?_ GE907.out | refine below_set ?_ GE914.out) | exact HB.out))) : w.heap.size ≤ gb924)); have n16_ := Aside0.mk ((by rw [hg]; exact (below_size (by repeat (first | (with_reducible first | exact HB.out | apply below_alloc | apply pw_below_drewN | apply below_drew1 | refine below_set ?_ GE890.out | refine below_set ?_ GE907.out | refine below_set ?_ GE914.out) | exact HB.out))) : w.heap.size ≤ gb924)); have n17_ := Aside0.mk ((by rw [hg]; exact Nat.ne_of_lt (blk_lt (g := gb890) (o := .cells #[.slice A0_0 l0_0.length c0_0, .slice A0_1 l0_1.length c0_1] 34 (0, 0)) (pK BK890.out)) : gb890 ≠ gb924)); have n18_ := Aside0.mk ((by rw [hg]; exact Nat.ne_of_gt (blk_lt (g := gb890) (o := .cells #[.slice A0_0 l0_0.length c0_0, .slice A0_1 l0_1.length c0_1] 34 (0, 0)) (pK BK890.out)) : gb924 ≠ gb890)); have n19_ := Aside0.mk ((by rw [hg]; exact Nat.ne_of_lt (blk_lt (g := gb907) (o := .cells #[.slice Ao27 t901.length co27, .slice Ao30 t904.length co30] 26 (0, 0)) (pK BK907.out)) : gb907 ≠ gb924)); have n20_ := Aside0.mk ((by rw [hg]; exact Nat.ne_of_gt (blk_lt (g := gb907) (o := .cells #[.slice Ao27 t901.length co27, .slice Ao30 t904.length co30] 26 (0, 0)) (pK BK907.out)) : gb924 ≠ gb907)); have n21_ := Aside0.mk ((by rw [hg]; exact Nat.ne_of_lt (blk_lt (g := gb914) (o := .cells #[.slice Ao34 t908.length co34, .slice Ao38 t911.length co38] 26 (0, 0)) (pK BK914.out)) : gb914 ≠ gb924)); have n22_ := Aside0.mk ((by rw [hg]; exact Nat.ne_of_gt (blk_lt (g := gb914) (o := .cells #[.slice Ao34 t908.length co34, .slice Ao38 t911.length co38] 26 (0, 0)) (pK BK914.out)) : gb924 ≠ gb914)); clear HO894; clear HO897; clear HO900; clear HO903; clear HO906; clear HO910; clear HO913; clear HO917; clear HO920; clear HO923; clear BK890; clear BK907; clear BK914; clear HB; have HO894 := n0_; have HO897 := n1_; have HO900 := n2_; have HO903 := n3_; have HO906 := n4_; have HO910 := n5_; have HO913 := n6_; have HO917 := n7_; have HO920 := n8_; have HO923 := n9_; have BK890 := n10_; have BK907 := n11_; have BK914 := n12_; have HB := n13_; have BK924 := n14_; have GW924 := n15_; have GE924 := n16_; have NB890_924 := n17_; have NB924_890 := n18_; have NB907_924 := n19_; have NB924_907 := n20_; have NB914_924 := n21_; have NB924_914 := n22_; clear n0_ n1_ n2_ n3_ n4_ n5_ n6_ n7_ n8_ n9_ n10_ n11_ n12_ n13_ n14_ n15_ n16_ n17_ n18_ n19_ n20_ n21_ n22_; clear hb hbox hg; obtain ⟨Ao44, co44, eo44⟩ := Kd.R_slice HO920.out; subst eo44; have hnb45 := NB924_890.out; have hnc45 := NB890_924.out; have hnb46 := NB924_907.out; have hnc46 := NB907_924.out; have hnb47 := NB924_914.out; have hnc47 := NB914_924.out; have hcz48_0 : w43.cell? ⟨gb924, 0, none⟩ = some (.slice none 0 0) := (blk_cell BK924.out 0).trans rfl; have hcz48_1 : w43.cell? ⟨gb924, 1, none⟩ = some (.slice none 0 0) := (blk_cell BK924.out 1).trans rfl; have hfz48_0 := blk_frozen BK924.out 0; have hfz48_1 := blk_frozen BK924.out 1; obtain ⟨Ao49, co49, eo49⟩ := Kd.R_slice HO923.out; subst eo49; have hcz50_0 : w43.cell? ⟨gb907, 0, none⟩ = some (.slice Ao27 t901.length co27) := (blk_cell BK907.out 0).trans rfl; have hcz50_1 : w43.cell? ⟨gb907, 1, none⟩ = some (.slice Ao30 t904.length co30) := (blk_cell BK907.out 1).trans rfl; have hfz50_0 := blk_frozen BK907.out 0; have hfz50_1 := blk_frozen BK907.out 1) | ((with_reducible refine gate_callee (f := 17) rfl ?_); refine goesL_ (some 36) rfl rfl Try.func17 (by kernel_rfl) rfl #[.agg #[.slice Ao44 t918.length co44, .slice Ao49 t921.length co49], .agg #[.slice Ao27 t901.length co27, .slice Ao30 t904.length co30]] rfl bM ?_; (with_reducible refine (laws_eqSecDisk.calls kj6 _ _ t918 _ _ t921 _ _ t901 _ _ t904 t925 _ ?side1 ?side2 ?side3 ?side4 ?side5 ?side6 ?side7 ?side8 A17.out).mono ?_); (case side1 => refine (Kd.R_reads' (e := 9) (base := w.heap.size) (ok := fun k_ => (((True ∧ some k_ ≠ (.slice Ao22 t892.length co22 : Value).ownBlock) ∧ some k_ ≠ (.slice Ao27 t901.length co27 : Value).ownBlock) ∧ some k_ ≠ (.slice Ao34 t908.length co34 : Value).ownBlock)) (n := t918.length) (c := co44) ?_).2.2; exact (pR (Kd.R_mono (Kd.R_far (p := ⟨gb924, 1, none⟩) (Kd.R_far (p := ⟨gb924, 0, none⟩) (Kd.R_types HO920.out BK924.out (by decide)) (fun _ hk => hk.2) (.slice Ao44 t918.length co44)) (fun _ hk => hk.2) (.slice Ao49 t921.length co49)) (fun _ h_ => h_.1)))); (case side2 => exact (Kd.R_reads' HO920.out).2.1); (case side3 => refine (Kd.R_reads' (e := 54) (base := w.heap.size) (ok := fun k_ => (((True ∧ some k_ ≠ (.slice Ao23 t895.length co23 : Value).ownBlock) ∧ some k_ ≠ (.slice Ao30 t904.length co30 : Value).ownBlock) ∧ some k_ ≠ (.slice Ao38 t911.length co38 : Value).ownBlock)) (n := t921.length) (c := co49) ?_).2.2; exact (pR (Kd.R_mono (Kd.R_far (p := ⟨gb924, 1, none⟩) (Kd.R_far (p := ⟨gb924, 0, none⟩) (Kd.R_types HO923.out BK924.out (by decide)) (fun _ hk => hk.2) (.slice Ao44 t918.length co44)) (fun _ hk => hk.2) (.slice Ao49 t921.length co49)) (fun _ h_ => h_.1)))); (case side4 => exact (Kd.R_reads' HO923.out).2.1); (case side5 => refine (Kd.R_reads' (e := 9) (base := w.heap.size) (ok := fun k_ => (((True ∧ some k_ ≠ (.slice Ao22 t892.length co22 : Value).ownBlock) ∧ some k_ ≠ (.slice Ao34 t908.length co34 : Value).ownBlock) ∧ some k_ ≠ (.slice Ao44 t918.length co44 : Value).ownBlock)) (n := t901.length) (c := co27) ?_).2.2; exact (pR (Kd.R_mono (Kd.R_far (p := ⟨gb924, 1, none⟩) (Kd.R_far (p := ⟨gb924, 0, none⟩) (Kd.R_types HO903.out BK924.out (by decide)) (fun _ hk => hk.2) (.slice Ao44 t918.length co44)) (fun _ hk => hk.2) (.slice Ao49 t921.length co49)) (fun _ h_ => h_.1)))); (case side6 => exact (Kd.R_reads' HO903.out).2.1); (case side7 => refine (Kd.R_reads' (e := 54) (base := w.heap.size) (ok := fun k_ => (((True ∧ some k_ ≠ (.slice Ao23 t895.length co23 : Value).ownBlock) ∧ some k_ ≠ (.slice Ao38 t911.length co38 : Value).ownBlock) ∧ some k_ ≠ (.slice Ao49 t921.length co49 : Value).ownBlock)) (n := t904.length) (c := co30) ?_).2.2; exact (pR (Kd.R_mono (Kd.R_far (p := ⟨gb924, 1, none⟩) (Kd.R_far (p := ⟨gb924, 0, none⟩) (Kd.R_types HO906.out BK924.out (by decide)) (fun _ hk => hk.2) (.slice Ao44 t918.length co44)) (fun _ hk => hk.2) (.slice Ao49 t921.length co49)) (fun _ h_ => h_.1)))); (case side8 => exact (Kd.R_reads' HO906.out).2.1); rintro e w51 ⟨rfl, hb⟩; refine ⟨_, rfl, ?_⟩; have n0_ := Aside0.mk (Kd.R_below (pR (Kd.R_mono (Kd.R_far (p := ⟨gb924, 1, none⟩) (Kd.R_far (p := ⟨gb924, 0, none⟩) (Kd.R_types HO894.out BK924.out (by decide)) (fun _ hk => hk.2) (.slice Ao44 t918.length co44)) (fun _ hk => hk.2) (.slice Ao49 t921.length co49)) (fun _ h_ => h_.1))) hb); have n1_ := Aside0.mk (Kd.R_below (pR (Kd.R_mono (Kd.R_far (p := ⟨gb924, 1, none⟩) (Kd.R_far (p := ⟨gb924, 0, none⟩) (Kd.R_types HO897.out BK924.out (by decide)) (fun _ hk => hk.2) (.slice Ao44 t918.length co44)) (fun _ hk => hk.2) (.slice Ao49 t921.length co49)) (fun _ h_ => h_.1))) hb); have n2_ := Aside0.mk (Kd.R_below (pR (Kd.R_mono (Kd.R_far (p := ⟨gb924, 1, none⟩) (Kd.R_far (p := ⟨gb924, 0, none⟩) (Kd.R_types HO900.out BK924.out (by decide)) (fun _ hk => hk.2) (.slice Ao44 t918.length co44)) (fun _ hk => hk.2) (.slice Ao49 t921.length co49)) (fun _ h_ => h_.1))) hb); have n3_ := Aside0.mk (Kd.R_below (pR (Kd.R_mono (Kd.R_far (p := ⟨gb924, 1, none⟩) (Kd.R_far (p := ⟨gb924, 0, none⟩) (Kd.R_types HO903.out BK924.out (by decide)) (fun _ hk => hk.2) (.slice Ao44 t918.length co44)) (fun _ hk => hk.2) (.slice Ao49 t921.length co49)) (fun _ h_ => h_.1))) hb); have n4_ := Aside0.mk (Kd.R_below (pR (Kd.R_mono (Kd.R_far (p := ⟨gb924, 1, none⟩) (Kd.R_far (p := ⟨gb924, 0, none⟩) (Kd.R_types HO906.out BK924.out (by decide)) (fun _ hk => hk.2) (.slice Ao44 t918.length co44)) (fun _ hk => hk.2) (.slice Ao49 t921.length co49)) (fun _ h_ => h_.1))) hb); have n5_ := Aside0.mk (Kd.R_below (pR (Kd.R_mono (Kd.R_far (p := ⟨gb924, 1, none⟩) (Kd.R_far (p := ⟨gb924, 0, none⟩) (Kd.R_types HO910.out BK924.out (by decide)) (fun _ hk => hk.2) (.slice Ao44 t918.length co44)) (fun _ hk => hk.2) (.slice Ao49 t921.length co49)) (fun _ h_ => h_.1))) hb); have n6_ := Aside0.mk (Kd.R_below (pR (Kd.R_mono (Kd.R_far (p := ⟨gb924, 1, none⟩) (Kd.R_far (p := ⟨gb924, 0, none⟩) (Kd.R_types HO913.out BK924.out (by decide)) (fun _ hk => hk.2) (.slice Ao44 t918.length co44)) (fun _ hk => hk.2) (.slice Ao49 t921.length co49)) (fun _ h_ => h_.1))) hb); have n7_ := Aside0.mk (Kd.R_below (pR (Kd.R_mono (Kd.R_far (p := ⟨gb924, 1, none⟩) (Kd.R_far (p := ⟨gb924, 0, none⟩) (Kd.R_types HO917.out BK924.out (by decide)) (fun _ hk => hk.2) (.slice Ao44 t918.length co44)) (fun _ hk => hk.2) (.slice Ao49 t921.length co49)) (fun _ h_ => h_.1))) hb); have n8_ := Aside0.mk (Kd.R_below (pR (Kd.R_mono (Kd.R_far (p := ⟨gb924, 1, none⟩) (Kd.R_far (p := ⟨gb924, 0, none⟩) (Kd.R_types HO920.out BK924.out (by decide)) (fun _ hk => hk.2) (.slice Ao44 t918.length co44)) (fun _ hk => hk.2) (.slice Ao49 t921.length co49)) (fun _ h_ => h_.1))) hb); have n9_ := Aside0.mk (Kd.R_below (pR (Kd.R_mono (Kd.R_far (p := ⟨gb924, 1, none⟩) (Kd.R_far (p := ⟨gb924, 0, none⟩) (Kd.R_types HO923.out BK924.out (by decide)) (fun _ hk => hk.2) (.slice Ao44 t918.length co44)) (fun _ hk => hk.2) (.slice Ao49 t921.length co49)) (fun _ h_ => h_.1))) hb); have n10_ := Aside0.mk (blk_below (g := gb890) (o := .cells #[.slice A0_0 l0_0.length c0_0, .slice A0_1 l0_1.length c0_1] 34 (0, 0)) (by (with_reducible repeat (first | refine blk_drewN ?_ _ | refine blk_drew ?_ | refine blk_alloc ?_ _)); refine blk_far ?_ NB890_924.out _; (with_reducible repeat (first | refine blk_drewN ?_ _ | refine blk_drew ?_ | refine blk_alloc ?_ _)); refine blk_far ?_ NB890_924.out _; (with_reducible repeat (first | refine blk_drewN ?_ _ | refine blk_drew ?_ | refine blk_alloc ?_ _)); exact BK890.out) hb); have n11_ := Aside0.mk (blk_below (g := gb907) (o := .cells #[.slice Ao27 t901.length co27, .slice Ao30 t904.length co30] 26 (0, 0)) (by (with_reducible repeat (first | refine blk_drewN ?_ _ | refine blk_drew ?_ | refine blk_alloc ?_ _)); refine blk_far ?_ NB907_924.out _; (with_reducible repeat (first | refine blk_drewN ?_ _ | refine blk_drew ?_ | refine blk_alloc ?_ _)); refine blk_far ?_ NB907_924.out _; (with_reducible repeat (first | refine blk_drewN ?_ _ | refine blk_drew ?_ | refine blk_alloc ?_ _)); exact BK907.out) hb); have n12_ := Aside0.mk (blk_below (g := gb914) (o := .cells #[.slice Ao34 t908.length co34, .slice Ao38 t911.length co38] 26 (0, 0)) (by (with_reducible repeat (first | refine blk_drewN ?_ _ | refine blk_drew ?_ | refine blk_alloc ?_ _)); refine blk_far ?_ NB914_924.out _; (with_reducible repeat (first | refine blk_drewN ?_ _ | refine blk_drew ?_ | refine blk_alloc ?_ _)); refine blk_far ?_ NB914_924.out _; (with_reducible repeat (first | refine blk_drewN ?_ _ | refine blk_drew ?_ | refine blk_alloc ?_ _)); exact BK914.out) hb); have n13_ := Aside0.mk (blk_below (g := gb924) (o := .cells #[.slice Ao44 t918.length co44, .slice Ao49 t921.length co49] 26 (0, 0)) (by (with_reducible repeat (first | refine blk_drewN ?_ _ | refine blk_drew ?_ | refine blk_alloc ?_ _)); refine blk_put (cs := #[.slice Ao44 t918.length co44, .slice none 0 0]) ?_ 1 _ rfl; (with_reducible repeat (first | refine blk_drewN ?_ _ | refine blk_drew ?_ | refine blk_alloc ?_ _)); refine blk_put (cs := #[.slice none 0 0, .slice none 0 0]) ?_ 0 _ rfl; (with_reducible repeat (first | refine blk_drewN ?_ _ | refine blk_drew ?_ | refine blk_alloc ?_ _)); exact BK924.out) hb); have n14_ := Aside0.mk (below_step (by repeat (first | (with_reducible first | exact HB.out | apply below_alloc | apply pw_below_drewN | apply below_drew1 | refine below_set ?_ GE890.out | refine below_set ?_ GE907.out | refine below_set ?_ GE914.out | refine below_set ?_ GE924.out) | exact HB.out)) hb); clear HO894; clear HO897; clear HO900; clear HO903; clear HO906; clear HO910; clear HO913; clear HO917; clear HO920; clear HO923; clear BK890; clear BK907; clear BK914; clear BK924; clear HB; have HO894 := n0_; have HO897 := n1_; have HO900 := n2_; have HO903 := n3_; have HO906 := n4_; have HO910 := n5_; have HO913 := n6_; have HO917 := n7_; have HO920 := n8_; have HO923 := n9_; have BK890 := n10_; have BK907 := n11_; have BK914 := n12_; have BK924 := n13_; have HB := n14_; clear n0_ n1_ n2_ n3_ n4_ n5_ n6_ n7_ n8_ n9_ n10_ n11_ n12_ n13_ n14_; (try clear hb); (try clear hb2); (try clear hk); (try clear hi)))
     (try simp only [Act.put, List.setIfInBounds_toArray, List.set_cons_zero, List.set_cons_succ])
     go_cut [] (fun wc => ∃ (kq : Nat), Aside0 (laws_FnExactSecCut.j2 kq l1 t915 l0_0 l0_1 t901 t904 t908 t911 t918 t921 = some r) ∧ Aside0 (kq ≤ kj6) ∧ Aside0 (Kd.R (Kd.int .i64) 3 wc w.heap.size (fun _ => True) (.slice Ao41 t915.length co41) t915) ∧ Aside0 (Kd.R Kd.string 9 wc w.heap.size (fun k_ => some k_ ≠ ((.slice Ao34 t908.length co34) : Value).ownBlock ∧ some k_ ≠ ((.slice Ao44 t918.length co44) : Value).ownBlock) (.slice Ao27 t901.length co27) t901) ∧ Aside0 (Kd.R k54 54 wc w.heap.size (fun k_ => some k_ ≠ ((.slice Ao38 t911.length co38) : Value).ownBlock ∧ some k_ ≠ ((.slice Ao49 t921.length co49) : Value).ownBlock) (.slice Ao30 t904.length co30) t904) ∧ Aside0 (Kd.R Kd.string 9 wc w.heap.size (fun k_ => some k_ ≠ ((.slice Ao27 t901.length co27) : Value).ownBlock ∧ some k_ ≠ ((.slice Ao44 t918.length co44) : Value).ownBlock) (.slice Ao34 t908.length co34) t908) ∧ Aside0 (Kd.R k54 54 wc w.heap.size (fun k_ => some k_ ≠ ((.slice Ao30 t904.length co30) : Value).ownBlock ∧ some k_ ≠ ((.slice Ao49 t921.length co49) : Value).ownBlock) (.slice Ao38 t911.length co38) t911) ∧ Aside0 (Kd.R Kd.string 9 wc w.heap.size (fun k_ => some k_ ≠ ((.slice Ao27 t901.length co27) : Value).ownBlock ∧ some k_ ≠ ((.slice Ao34 t908.length co34) : Value).ownBlock) (.slice Ao44 t918.length co44) t918) ∧ Aside0 (Kd.R k54 54 wc w.heap.size (fun k_ => some k_ ≠ ((.slice Ao30 t904.length co30) : Value).ownBlock ∧ some k_ ≠ ((.slice Ao38 t911.length co38) : Value).ownBlock) (.slice Ao49 t921.length co49) t921) ∧ Aside0 (wc.heap[gb890]? = some (.cells #[(.slice A0_0 l0_0.length c0_0), (.slice A0_1 l0_1.length c0_1)] 34 (0, 0))) ∧ Aside0 (wc.heap[gb907]? = some (.cells #[(.slice Ao27 t901.length co27), (.slice Ao30 t904.length co30)] 26 (0, 0))) ∧ Aside0 (wc.heap[gb914]? = some (.cells #[(.slice Ao34 t908.length co34), (.slice Ao38 t911.length co38)] 26 (0, 0))) ∧ Aside0 (wc.heap[gb924]? = some (.cells #[(.slice Ao44 t918.length co44), (.slice Ao49 t921.length co49)] 26 (0, 0))) ∧ Aside0 (Below w.heap.size w wc))
     case first =>
      have H := HC18.out
      clear HC18
      by_cases c52 : t925 = true
      ·subst c52
       have H1 : (laws_FnExactSecCut.j2 kj6 l1 t915 l0_0 l0_1 t901 t904 t908 t911 t918 t921) = some r := by rw [if_pos rfl] at H; exact H
       clear H
       have H := H1
       clear H1
       have H' := Aside0.mk H
       clear H
       go_wp2
       go_meet
       case rel => exact ⟨_, H', ⟨by have := HJ2.out; have := HJ6.out; first | omega | exact Nat.le_refl _⟩, ⟨pR (Kd.R_mono HO917.out (fun _ hk => trivial))⟩, ⟨pR (Kd.R_mono HO903.out (fun _ hk => ⟨hk.1.2, hk.2⟩))⟩, ⟨pR (Kd.R_mono HO906.out (fun _ hk => ⟨hk.1.2, hk.2⟩))⟩, ⟨pR (Kd.R_mono HO910.out (fun _ hk => ⟨hk.1.2, hk.2⟩))⟩, ⟨pR (Kd.R_mono HO913.out (fun _ hk => ⟨hk.1.2, hk.2⟩))⟩, ⟨pR (Kd.R_mono HO920.out (fun _ hk => ⟨hk.1.2, hk.2⟩))⟩, ⟨pR (Kd.R_mono HO923.out (fun _ hk => ⟨hk.1.2, hk.2⟩))⟩, ⟨pK BK890.out⟩, ⟨pK BK907.out⟩, ⟨pK BK914.out⟩, ⟨pK BK924.out⟩, ⟨by repeat (first | (with_reducible first | exact HB.out | apply below_alloc | apply pw_below_drewN | apply below_drew1 | refine below_set ?_ GE890.out | refine below_set ?_ GE907.out | refine below_set ?_ GE914.out | refine below_set ?_ GE924.out) | exact HB.out)⟩⟩
      ·replace c52 := Bool.eq_false_iff.mpr c52
       subst c52
       have H1 : (some false) = some r := by rw [if_neg (show ¬ (false = true) by decide)] at H; exact H
       clear H
       have H := H1
       clear H1
       obtain rfl := Option.some.inj H
       go_wp2
       go_ret
       exact ⟨by first | rfl | (simp [errW_none, errW_some] <;> rfl) | (simp [*, errW_none, errW_some] <;> rfl), by repeat (first | (with_reducible first | exact HB.out | apply below_alloc | apply pw_below_drewN | apply below_drew1 | refine below_set ?_ GE890.out | refine below_set ?_ GE907.out | refine below_set ?_ GE914.out | refine below_set ?_ GE924.out) | exact HB.out)⟩
     case rest =>
      clear HC18
      try clear c1
      try clear c2
      try clear p2
      try clear c3
      try clear c4
      try clear c5
      try clear c5b0
      try clear c5b1
      try clear c10
      try clear c10b0
      try clear c14
      try clear c17
      try clear c22
      try clear c24
      try clear c28
      try clear c34
      try clear c35
      try clear c36
      try clear c38
      try clear c45
      try clear c46
      try clear c47
      try clear c52
      try clear hcz19_0
      try clear hcz19_1
      try clear hcz29_0
      try clear hcz29_1
      try clear hcz31_0
      try clear hcz31_1
      try clear hcz37_0
      try clear hcz37_1
      try clear hcz40_0
      try clear hcz40_1
      try clear hcz48_0
      try clear hcz48_1
      try clear hcz50_0
      try clear hcz50_1
      try clear hcz8_0
      try clear hcz8_1
      try clear hfz19_0
      try clear hfz19_1
      try clear hfz29_0
      try clear hfz29_1
      try clear hfz31_0
      try clear hfz31_1
      try clear hfz37_0
      try clear hfz37_1
      try clear hfz40_0
      try clear hfz40_1
      try clear hfz48_0
      try clear hfz48_1
      try clear hfz50_0
      try clear hfz50_1
      try clear hfz8_0
      try clear hfz8_1
      try clear p2
      obtain ⟨kq, HA, HJ17, HO_8, HO_908000, HO_908001, HO_915000, HO_915001, HO_925000, HO_925001, BK890, BK907, BK914, BK924, HB⟩ := hcut
      cases kq with
      | zero => exact absurd HA.out (by simp [laws_FnExactSecCut.j2])
      | succ kj17 =>
       have H := HA.out
       clear HA
       simp only [laws_FnExactSecCut.j2] at H
       replace H := Option.bind_eq_some_iff.mp H
       obtain ⟨⟨t926, t929⟩, A530, H⟩ := H
       replace H : ((laws_eqSecDisk.f kj17 t908 t911 t926 t929).bind fun t932 => (if t932 = true then (laws_FnExactSecCut.j3 kj17 l1 t915 l0_0 l0_1 t901 t904 t908 t911 t918 t921) else (some false))) = some r := H
       have A53 := Aside0.mk A530
       clear A530
       replace H := Option.bind_eq_some_iff.mp H
       obtain ⟨t932, A540, H⟩ := H
       replace H : (if t932 = true then (laws_FnExactSecCut.j3 kj17 l1 t915 l0_0 l0_1 t901 t904 t908 t911 t918 t921) else (some false)) = some r := H
       have A54 := Aside0.mk A540
       clear A540
       have HC55 := Aside0.mk H
       clear H
       try go_wp2
       have n0_ := Aside0.mk (Kd.R_drew HO_8.out)
       have n1_ := Aside0.mk (Kd.R_drew HO_908000.out)
       have n2_ := Aside0.mk (Kd.R_drew HO_908001.out)
       have n3_ := Aside0.mk (Kd.R_drew HO_915000.out)
       have n4_ := Aside0.mk (Kd.R_drew HO_915001.out)
       have n5_ := Aside0.mk (Kd.R_drew HO_925000.out)
       have n6_ := Aside0.mk (Kd.R_drew HO_925001.out)
       have n7_ := Aside0.mk (blk_drew BK890.out)
       have n8_ := Aside0.mk (blk_drew BK907.out)
       have n9_ := Aside0.mk (blk_drew BK914.out)
       have n10_ := Aside0.mk (blk_drew BK924.out)
       have n11_ := Aside0.mk (below_drew1 HB.out)
       clear HO_8
       clear HO_908000
       clear HO_908001
       clear HO_915000
       clear HO_915001
       clear HO_925000
       clear HO_925001
       clear BK890
       clear BK907
       clear BK914
       clear BK924
       clear HB
       have HO_8 := n0_
       have HO_908000 := n1_
       have HO_908001 := n2_
       have HO_915000 := n3_
       have HO_915001 := n4_
       have HO_925000 := n5_
       have HO_925001 := n6_
       have BK890 := n7_
       have BK907 := n8_
       have BK914 := n9_
       have BK924 := n10_
       have HB := n11_
       clear n0_ n1_ n2_ n3_ n4_ n5_ n6_ n7_ n8_ n9_ n10_ n11_
       refine start_ (n := 5) (S := fun w' => w'.cell? ⟨gb914, 0, none⟩ = some (.slice Ao34 t908.length co34) ∧ w'.cell? ⟨gb914, 1, none⟩ = some (.slice Ao38 t911.length co38) ∧ w'.cell? ⟨gb890, 0, none⟩ = some (.slice A0_0 l0_0.length c0_0) ∧ w'.cell? ⟨gb890, 1, none⟩ = some (.slice A0_1 l0_1.length c0_1)) (ds := []) #[false, false, false, false, false] (by kernel_rfl) rfl rfl ⟨(blk_cell BK914.out 0).trans rfl, (blk_cell BK914.out 1).trans rfl, (blk_cell BK890.out 0).trans rfl, (blk_cell BK890.out 1).trans rfl⟩ (fun hHeld => ?_)
       generalize wc.drew = w56 at HO_8 HO_908000 HO_908001 HO_915000 HO_915001 HO_925000 HO_925001 BK890 BK907 BK914 BK924 HB hHeld ⊢
       refine take_ (i := 0) (N := some 38) (v := ?_) (a' := ?_) #[true, false, false, false, false] rfl rfl (by kernel_rfl) (fun _ _ _ h => h) (Or.inl ⟨by rfl, ?_⟩) hHeld ?_ ?_
       rotate_left
       ·rintro w' ⟨s0, s1, s2, s3⟩
        go_simp
        with_reducible rfl
       rotate_left
       ·simp only [Act.put, List.setIfInBounds_toArray, List.set_cons_zero, List.set_cons_succ, i64_w, i32_w]
        rfl
       refine take_ (i := 1) (N := some 39) (v := ?_) (a' := ?_) #[true, true, false, false, false] rfl rfl (by kernel_rfl) (fun _ _ _ h => h) (Or.inl ⟨by rfl, ?_⟩) hHeld ?_ ?_
       rotate_left
       ·rintro w' ⟨s0, s1, s2, s3⟩
        go_simp
        with_reducible rfl
       rotate_left
       ·simp only [Act.put, List.setIfInBounds_toArray, List.set_cons_zero, List.set_cons_succ, i64_w, i32_w]
        rfl
       refine one_ (i := 2) (N := some 40) #[true, true, true, false, false] rfl rfl (by kernel_rfl) (by decide) (fun K hK => ?_)
       refine goes_ Try.func24 (by kernel_rfl) rfl #[.agg #[.slice A0_0 l0_0.length c0_0, .slice A0_1 l0_1.length c0_1]] (by rfl) rfl rfl bM ?_
       with_reducible refine (laws_toSecDisk.calls kj17 _ _ l0_0 _ _ l0_1 t926 t929 _ ?side1 ?side2 ?side3 ?side4 A53.out).mono ?_
       (case side1 => repeat (first | exact (Kd.C_below HR0_0.out HB.out) | (with_reducible refine Kd.C_alloc ?_ _) | (with_reducible refine Kd.C_drewN ?_ _) | (with_reducible refine Kd.C_drew ?_)))
       (case side2 => exact HC0_0.out)
       (case side3 => repeat (first | exact (Kd.C_below HR0_1.out HB.out) | (with_reducible refine Kd.C_alloc ?_ _) | (with_reducible refine Kd.C_drewN ?_ _) | (with_reducible refine Kd.C_drew ?_)))
       (case side4 => exact HC0_1.out)
       rintro e w57 ⟨v927, v930, rfl, ho0, ho1, hb⟩
       refine ⟨_, rfl, ?_⟩
       have n0_ := Aside0.mk (Kd.R_below (pR HO_8.out) hb)
       have n1_ := Aside0.mk (Kd.R_elder' (pR HO_908000.out) (Kd.R_base ho0) hb)
       have n2_ := Aside0.mk (Kd.R_elder' (pR HO_908001.out) (Kd.R_base ho1) hb)
       have n3_ := Aside0.mk (Kd.R_elder' (pR HO_915000.out) (Kd.R_base ho0) hb)
       have n4_ := Aside0.mk (Kd.R_elder' (pR HO_915001.out) (Kd.R_base ho1) hb)
       have n5_ := Aside0.mk (Kd.R_elder' (pR HO_925000.out) (Kd.R_base ho0) hb)
       have n6_ := Aside0.mk (Kd.R_elder' (pR HO_925001.out) (Kd.R_base ho1) hb)
       have n7_ := Aside0.mk (Kd.R_lower (Kd.R_new' (Kd.R_new' (Kd.R_new' ho0 (Kd.R_lt (pR HO_908000.out))) (Kd.R_lt (pR HO_915000.out))) (Kd.R_lt (pR HO_925000.out))) (below_size (by repeat (first | (with_reducible first | exact HB.out | apply below_alloc | apply pw_below_drewN | apply below_drew1 | refine below_set ?_ GE890.out | refine below_set ?_ GE907.out | refine below_set ?_ GE914.out | refine below_set ?_ GE924.out) | exact HB.out))))
       have n8_ := Aside0.mk (Kd.R_lower (Kd.R_new' (Kd.R_new' (Kd.R_new' ho1 (Kd.R_lt (pR HO_908001.out))) (Kd.R_lt (pR HO_915001.out))) (Kd.R_lt (pR HO_925001.out))) (below_size (by repeat (first | (with_reducible first | exact HB.out | apply below_alloc | apply pw_below_drewN | apply below_drew1 | refine below_set ?_ GE890.out | refine below_set ?_ GE907.out | refine below_set ?_ GE914.out | refine below_set ?_ GE924.out) | exact HB.out))))
       have n9_ := Aside0.mk (blk_below (g := gb890) (o := .cells #[.slice A0_0 l0_0.length c0_0, .slice A0_1 l0_1.length c0_1] 34 (0, 0)) (pK BK890.out) hb)
       have n10_ := Aside0.mk (blk_below (g := gb907) (o := .cells #[.slice Ao27 t901.length co27, .slice Ao30 t904.length co30] 26 (0, 0)) (pK BK907.out) hb)
       have n11_ := Aside0.mk (blk_below (g := gb914) (o := .cells #[.slice Ao34 t908.length co34, .slice Ao38 t911.length co38] 26 (0, 0)) (pK BK914.out) hb)
       have n12_ := Aside0.mk (blk_below (g := gb924) (o := .cells #[.slice Ao44 t918.length co44, .slice Ao49 t921.length co49] 26 (0, 0)) (pK BK924.out) hb)
       have n13_ := Aside0.mk (below_step (by repeat (first | (with_reducible first | exact HB.out | apply below_alloc | apply pw_below_drewN | apply below_drew1 | refine below_set ?_ GE890.out | refine below_set ?_ GE907.out | refine below_set ?_ GE914.out | refine below_set ?_ GE924.out) | exact HB.out)) hb)
       clear HO_8
       clear HO_908000
       clear HO_908001
       clear HO_915000
       clear HO_915001
       clear HO_925000
       clear HO_925001
       clear BK890
       clear BK907
       clear BK914
       clear BK924
       clear HB
       have HO_8 := n0_
       have HO_908000 := n1_
       have HO_908001 := n2_
       have HO_915000 := n3_
       have HO_915001 := n4_
       have HO_925000 := n5_
       have HO_925001 := n6_
       have HO928 := n7_
       have HO931 := n8_
       have BK890 := n9_
       have BK907 := n10_
       have BK914 := n11_
       have BK924 := n12_
       have HB := n13_
       clear n0_ n1_ n2_ n3_ n4_ n5_ n6_ n7_ n8_ n9_ n10_ n11_ n12_ n13_
       (try clear hb)
       (try clear hb2)
       (try clear hk)
       (try clear hi)
       (try clear ho0)
       (try clear ho1)
       obtain ⟨Ao58, co58, eo58⟩ := Kd.R_slice HO928.out
       (first | subst eo58 | (injection eo58 with f1_ f2_ f3_; have f4_ := f1_.symm; have f5_ := f3_.symm; clear f1_ f2_ f3_; subst f4_; subst f5_))
       obtain ⟨Ao59, co59, eo59⟩ := Kd.R_slice HO931.out
       (first | subst eo59 | (injection eo59 with f1_ f2_ f3_; have f4_ := f1_.symm; have f5_ := f3_.symm; clear f1_ f2_ f3_; subst f4_; subst f5_))
       refine hK.out _ _ ⟨(blk_cell BK914.out 0).trans rfl, (blk_cell BK914.out 1).trans rfl, (blk_cell BK890.out 0).trans rfl, (blk_cell BK890.out 1).trans rfl⟩ (fun hHeld => ?_)
       clear hK K
       refine norm_ (a' := ?_) ?_ ?_
       rotate_left
       ·show Act.put _ (some 40) _ = _
        simp only [Act.put, List.setIfInBounds_toArray, List.set_cons_zero, List.set_cons_succ, i64_w, i32_w]
        rfl
       refine one_ (i := 3) (N := some 41) #[true, true, true, true, false] rfl rfl (by kernel_rfl) (by decide) (fun K hK => ?_)
       refine goes_ Try.func17 (by kernel_rfl) rfl #[.agg #[.slice Ao34 t908.length co34, .slice Ao38 t911.length co38], .agg #[.slice Ao58 t926.length co58, .slice Ao59 t929.length co59]] (by rfl) rfl rfl bM ?_
       with_reducible refine (laws_eqSecDisk.calls kj17 _ _ t908 _ _ t911 _ _ t926 _ _ t929 t932 _ ?side1 ?side2 ?side3 ?side4 ?side5 ?side6 ?side7 ?side8 A54.out).mono ?_
       (case side1 => exact pC (Kd.R_reads' HO_915000.out).2.2)
       (case side2 => exact (Kd.R_reads' HO_915000.out).2.1)
       (case side3 => exact pC (Kd.R_reads' HO_915001.out).2.2)
       (case side4 => exact (Kd.R_reads' HO_915001.out).2.1)
       (case side5 => exact pC (Kd.R_reads' HO928.out).2.2)
       (case side6 => exact (Kd.R_reads' HO928.out).2.1)
       (case side7 => exact pC (Kd.R_reads' HO931.out).2.2)
       (case side8 => exact (Kd.R_reads' HO931.out).2.1)
       rintro e w60 ⟨rfl, hb⟩
       refine ⟨_, rfl, ?_⟩
       have n0_ := Aside0.mk (Kd.R_below (pR HO_8.out) hb)
       have n1_ := Aside0.mk (Kd.R_below (pR HO_908000.out) hb)
       have n2_ := Aside0.mk (Kd.R_below (pR HO_908001.out) hb)
       have n3_ := Aside0.mk (Kd.R_below (pR HO_915000.out) hb)
       have n4_ := Aside0.mk (Kd.R_below (pR HO_915001.out) hb)
       have n5_ := Aside0.mk (Kd.R_below (pR HO_925000.out) hb)
       have n6_ := Aside0.mk (Kd.R_below (pR HO_925001.out) hb)
       have n7_ := Aside0.mk (Kd.R_below (pR HO928.out) hb)
       have n8_ := Aside0.mk (Kd.R_below (pR HO931.out) hb)
       have n9_ := Aside0.mk (blk_below (g := gb890) (o := .cells #[.slice A0_0 l0_0.length c0_0, .slice A0_1 l0_1.length c0_1] 34 (0, 0)) (pK BK890.out) hb)
       have n10_ := Aside0.mk (blk_below (g := gb907) (o := .cells #[.slice Ao27 t901.length co27, .slice Ao30 t904.length co30] 26 (0, 0)) (pK BK907.out) hb)
       have n11_ := Aside0.mk (blk_below (g := gb914) (o := .cells #[.slice Ao34 t908.length co34, .slice Ao38 t911.length co38] 26 (0, 0)) (pK BK914.out) hb)
       have n12_ := Aside0.mk (blk_below (g := gb924) (o := .cells #[.slice Ao44 t918.length co44, .slice Ao49 t921.length co49] 26 (0, 0)) (pK BK924.out) hb)
       have n13_ := Aside0.mk (below_step (by repeat (first | (with_reducible first | exact HB.out | apply below_alloc | apply pw_below_drewN | apply below_drew1 | refine below_set ?_ GE890.out | refine below_set ?_ GE907.out | refine below_set ?_ GE914.out | refine below_set ?_ GE924.out) | exact HB.out)) hb)
       clear HO_8
       clear HO_908000
       clear HO_908001
       clear HO_915000
       clear HO_915001
       clear HO_925000
       clear HO_925001
       clear HO928
       clear HO931
       clear BK890
       clear BK907
       clear BK914
       clear BK924
       clear HB
       have HO_8 := n0_
       have HO_908000 := n1_
       have HO_908001 := n2_
       have HO_915000 := n3_
       have HO_915001 := n4_
       have HO_925000 := n5_
       have HO_925001 := n6_
       have HO928 := n7_
       have HO931 := n8_
       have BK890 := n9_
       have BK907 := n10_
       have BK914 := n11_
       have BK924 := n12_
       have HB := n13_
       clear n0_ n1_ n2_ n3_ n4_ n5_ n6_ n7_ n8_ n9_ n10_ n11_ n12_ n13_
       (try clear hb)
       (try clear hb2)
       (try clear hk)
       (try clear hi)
       refine hK.out _ _ ⟨(blk_cell BK914.out 0).trans rfl, (blk_cell BK914.out 1).trans rfl, (blk_cell BK890.out 0).trans rfl, (blk_cell BK890.out 1).trans rfl⟩ (fun hHeld => ?_)
       clear hK K
       refine norm_ (a' := ?_) ?_ ?_
       rotate_left
       ·show Act.put _ (some 41) _ = _
        simp only [Act.put, List.setIfInBounds_toArray, List.set_cons_zero, List.set_cons_succ, i64_w, i32_w]
        rfl
       refine pure_ (i := 4) (N := some 42) (v := ?_) (a' := ?_) #[true, true, true, true, true] rfl rfl (by kernel_rfl) (fun _ _ _ h => h) (Or.inl ⟨by rfl, ?_⟩) ?_ ?_
       rotate_left
       ·intro w'
        go_simp
        with_reducible rfl
       rotate_left
       ·simp only [Act.put, List.setIfInBounds_toArray, List.set_cons_zero, List.set_cons_succ, i64_w, i32_w]
        rfl
       refine done_ (by kernel_rfl) ?_
       go_upto_if 42 with (fail)
       go_cut [] (fun wc => ∃ (kq : Nat), Aside0 (laws_FnExactSecCut.j3 kq l1 t915 l0_0 l0_1 t901 t904 t908 t911 t918 t921 = some r) ∧ Aside0 (kq ≤ kj17) ∧ Aside0 (Kd.R (Kd.int .i64) 3 wc w.heap.size (fun _ => True) (.slice Ao41 t915.length co41) t915) ∧ Aside0 (Kd.R Kd.string 9 wc w.heap.size (fun k_ => some k_ ≠ ((.slice Ao34 t908.length co34) : Value).ownBlock ∧ some k_ ≠ ((.slice Ao44 t918.length co44) : Value).ownBlock) (.slice Ao27 t901.length co27) t901) ∧ Aside0 (Kd.R k54 54 wc w.heap.size (fun k_ => some k_ ≠ ((.slice Ao38 t911.length co38) : Value).ownBlock ∧ some k_ ≠ ((.slice Ao49 t921.length co49) : Value).ownBlock) (.slice Ao30 t904.length co30) t904) ∧ Aside0 (Kd.R Kd.string 9 wc w.heap.size (fun k_ => some k_ ≠ ((.slice Ao27 t901.length co27) : Value).ownBlock ∧ some k_ ≠ ((.slice Ao44 t918.length co44) : Value).ownBlock) (.slice Ao34 t908.length co34) t908) ∧ Aside0 (Kd.R k54 54 wc w.heap.size (fun k_ => some k_ ≠ ((.slice Ao30 t904.length co30) : Value).ownBlock ∧ some k_ ≠ ((.slice Ao49 t921.length co49) : Value).ownBlock) (.slice Ao38 t911.length co38) t911) ∧ Aside0 (Kd.R Kd.string 9 wc w.heap.size (fun k_ => some k_ ≠ ((.slice Ao27 t901.length co27) : Value).ownBlock ∧ some k_ ≠ ((.slice Ao34 t908.length co34) : Value).ownBlock) (.slice Ao44 t918.length co44) t918) ∧ Aside0 (Kd.R k54 54 wc w.heap.size (fun k_ => some k_ ≠ ((.slice Ao30 t904.length co30) : Value).ownBlock ∧ some k_ ≠ ((.slice Ao38 t911.length co38) : Value).ownBlock) (.slice Ao49 t921.length co49) t921) ∧ Aside0 (wc.heap[gb890]? = some (.cells #[(.slice A0_0 l0_0.length c0_0), (.slice A0_1 l0_1.length c0_1)] 34 (0, 0))) ∧ Aside0 (wc.heap[gb907]? = some (.cells #[(.slice Ao27 t901.length co27), (.slice Ao30 t904.length co30)] 26 (0, 0))) ∧ Aside0 (wc.heap[gb914]? = some (.cells #[(.slice Ao34 t908.length co34), (.slice Ao38 t911.length co38)] 26 (0, 0))) ∧ Aside0 (wc.heap[gb924]? = some (.cells #[(.slice Ao44 t918.length co44), (.slice Ao49 t921.length co49)] 26 (0, 0))) ∧ Aside0 (Below w.heap.size w wc))
       case first =>
        have H := HC55.out
        clear HC55
        by_cases c61 : t932 = true
        ·subst c61
         have H1 : (laws_FnExactSecCut.j3 kj17 l1 t915 l0_0 l0_1 t901 t904 t908 t911 t918 t921) = some r := by rw [if_pos rfl] at H; exact H
         clear H
         have H := H1
         clear H1
         have H' := Aside0.mk H
         clear H
         go_wp2
         go_meet
         case rel => exact ⟨_, H', ⟨by have := HJ2.out; have := HJ6.out; have := HJ17.out; first | omega | exact Nat.le_refl _⟩, ⟨pR HO_8.out⟩, ⟨pR (Kd.R_mono HO_908000.out (fun _ hk => ⟨hk.1.1, hk.1.2⟩))⟩, ⟨pR (Kd.R_mono HO_908001.out (fun _ hk => ⟨hk.1.1, hk.1.2⟩))⟩, ⟨pR (Kd.R_mono HO_915000.out (fun _ hk => ⟨hk.1.1, hk.1.2⟩))⟩, ⟨pR (Kd.R_mono HO_915001.out (fun _ hk => ⟨hk.1.1, hk.1.2⟩))⟩, ⟨pR (Kd.R_mono HO_925000.out (fun _ hk => ⟨hk.1.1, hk.1.2⟩))⟩, ⟨pR (Kd.R_mono HO_925001.out (fun _ hk => ⟨hk.1.1, hk.1.2⟩))⟩, ⟨pK BK890.out⟩, ⟨pK BK907.out⟩, ⟨pK BK914.out⟩, ⟨pK BK924.out⟩, ⟨by repeat (first | (with_reducible first | exact HB.out | apply below_alloc | apply pw_below_drewN | apply below_drew1 | refine below_set ?_ GE890.out | refine below_set ?_ GE907.out | refine below_set ?_ GE914.out | refine below_set ?_ GE924.out) | exact HB.out)⟩⟩
        ·replace c61 := Bool.eq_false_iff.mpr c61
         subst c61
         have H1 : (some false) = some r := by rw [if_neg (show ¬ (false = true) by decide)] at H; exact H
         clear H
         have H := H1
         clear H1
         obtain rfl := Option.some.inj H
         go_wp2
         go_ret
         exact ⟨by first | rfl | (simp [errW_none, errW_some] <;> rfl) | (simp [*, errW_none, errW_some] <;> rfl), by repeat (first | (with_reducible first | exact HB.out | apply below_alloc | apply pw_below_drewN | apply below_drew1 | refine below_set ?_ GE890.out | refine below_set ?_ GE907.out | refine below_set ?_ GE914.out | refine below_set ?_ GE924.out) | exact HB.out)⟩
       case rest =>
        clear HC55
        try clear c1
        try clear c2
        try clear p2
        try clear c3
        try clear c4
        try clear c5
        try clear c5b0
        try clear c5b1
        try clear c6
        try clear c10
        try clear c10b0
        try clear c14
        try clear c17
        try clear c22
        try clear c24
        try clear c28
        try clear c34
        try clear c35
        try clear c36
        try clear c38
        try clear c45
        try clear c46
        try clear c47
        try clear c52
        try clear c61
        try clear hcz19_0
        try clear hcz19_1
        try clear hcz29_0
        try clear hcz29_1
        try clear hcz31_0
        try clear hcz31_1
        try clear hcz37_0
        try clear hcz37_1
        try clear hcz40_0
        try clear hcz40_1
        try clear hcz48_0
        try clear hcz48_1
        try clear hcz50_0
        try clear hcz50_1
        try clear hcz8_0
        try clear hcz8_1
        try clear hfz19_0
        try clear hfz19_1
        try clear hfz29_0
        try clear hfz29_1
        try clear hfz31_0
        try clear hfz31_1
        try clear hfz37_0
        try clear hfz37_1
        try clear hfz40_0
        try clear hfz40_1
        try clear hfz48_0
        try clear hfz48_1
        try clear hfz50_0
        try clear hfz50_1
        try clear hfz8_0
        try clear hfz8_1
        try clear p2
        obtain ⟨kq, HA, HJ54, HO_8, HO_908000, HO_908001, HO_915000, HO_915001, HO_925000, HO_925001, BK890, BK907, BK914, BK924, HB⟩ := hcut
        cases kq with
        | zero => exact absurd HA.out (by simp [laws_FnExactSecCut.j3])
        | succ kj54 =>
         have H := HA.out
         clear HA
         simp only [laws_FnExactSecCut.j3] at H
         replace H := Option.bind_eq_some_iff.mp H
         obtain ⟨t933, A620, H⟩ := H
         replace H : ((laws_eqIntS.f kj54 t915 t933).bind fun t936 => (if t936 = true then (laws_FnExactSecCut.j4 kj54 l1 t915 l0_0 l0_1 t901 t904 t908 t911 t918 t921) else (some false))) = some r := H
         have A62 := Aside0.mk A620
         clear A620
         replace H := Option.bind_eq_some_iff.mp H
         obtain ⟨t936, A630, H⟩ := H
         replace H : (if t936 = true then (laws_FnExactSecCut.j4 kj54 l1 t915 l0_0 l0_1 t901 t904 t908 t911 t918 t921) else (some false)) = some r := H
         have A63 := Aside0.mk A630
         clear A630
         have HC64 := Aside0.mk H
         clear H
         go_upto_if 47 with (first | ((with_reducible refine gate_callee (f := 38) rfl ?_); refine goesL_ (some 45) rfl rfl Try.func38 (by kernel_rfl) rfl #[.slice A1 l1.length c1] rfl bM ?_; (with_reducible refine (laws_toIntS.calls kj54 _ _ l1 t933 _ ?side1 ?side2 A62.out).mono ?_); (case side1 => repeat (first | exact (Kd.C_below HR1.out HB.out) | (with_reducible refine Kd.C_alloc ?_ _) | (with_reducible refine Kd.C_drewN ?_ _) | (with_reducible refine Kd.C_drew ?_))); (case side2 => exact HC1.out); rintro e w65 ⟨v934, rfl, ho0, hb⟩; refine ⟨_, rfl, ?_⟩; have n0_ := Aside0.mk (Kd.R_elder' (pR HO_8.out) (Kd.R_base ho0) hb); have n1_ := Aside0.mk (Kd.R_below (pR HO_908000.out) hb); have n2_ := Aside0.mk (Kd.R_below (pR HO_908001.out) hb); have n3_ := Aside0.mk (Kd.R_below (pR HO_915000.out) hb); have n4_ := Aside0.mk (Kd.R_below (pR HO_915001.out) hb); have n5_ := Aside0.mk (Kd.R_below (pR HO_925000.out) hb); have n6_ := Aside0.mk (Kd.R_below (pR HO_925001.out) hb); have n7_ := Aside0.mk (Kd.R_lower (Kd.R_new' ho0 (Kd.R_lt (pR HO_8.out))) (below_size (by repeat (first | (with_reducible first | exact HB.out | apply below_alloc | apply pw_below_drewN | apply below_drew1 | refine below_set ?_ GE890.out | refine below_set ?_ GE907.out | refine below_set ?_ GE914.out | refine below_set ?_ GE924.out) | exact HB.out)))); have n8_ := Aside0.mk (blk_below (g := gb890) (o := .cells #[.slice A0_0 l0_0.length c0_0, .slice A0_1 l0_1.length c0_1] 34 (0, 0)) (pK BK890.out) hb); have n9_ := Aside0.mk (blk_below (g := gb907) (o := .cells #[.slice Ao27 t901.length co27, .slice Ao30 t904.length co30] 26 (0, 0)) (pK BK907.out) hb); have n10_ := Aside0.mk (blk_below (g := gb914) (o := .cells #[.slice Ao34 t908.length co34, .slice Ao38 t911.length co38] 26 (0, 0)) (pK BK914.out) hb); have n11_ := Aside0.mk (blk_below (g := gb924) (o := .cells #[.slice Ao44 t918.length co44, .slice Ao49 t921.length co49] 26 (0, 0)) (pK BK924.out) hb); have n12_ := Aside0.mk (below_step (by repeat (first | (with_reducible first | exact HB.out | apply below_alloc | apply pw_below_drewN | apply below_drew1 | refine below_set ?_ GE890.out | refine below_set ?_ GE907.out | refine below_set ?_ GE914.out | refine below_set ?_ GE924.out) | exact HB.out)) hb); clear HO_8; clear HO_908000; clear HO_908001; clear HO_915000; clear HO_915001; clear HO_925000; clear HO_925001; clear BK890; clear BK907; clear BK914; clear BK924; clear HB; have HO_8 := n0_; have HO_908000 := n1_; have HO_908001 := n2_; have HO_915000 := n3_; have HO_915001 := n4_; have HO_925000 := n5_; have HO_925001 := n6_; have HO935 := n7_; have BK890 := n8_; have BK907 := n9_; have BK914 := n10_; have BK924 := n11_; have HB := n12_; clear n0_ n1_ n2_ n3_ n4_ n5_ n6_ n7_ n8_ n9_ n10_ n11_ n12_; (try clear hb); (try clear hb2); (try clear hk); (try clear hi); (try clear ho0); obtain ⟨Ao66, co66, eo66⟩ := Kd.R_slice HO935.out; subst eo66) | ((with_reducible refine gate_callee (f := 39) rfl ?_); refine goesL_ (some 46) rfl rfl Try.func39 (by kernel_rfl) rfl #[.slice Ao41 t915.length co41, .slice Ao66 t933.length co66] rfl bM ?_; (with_reducible refine (laws_eqIntS.calls kj54 _ _ t915 _ _ t933 t936 _ ?side1 ?side2 ?side3 ?side4 A63.out).mono ?_); (case side1 => exact pC (Kd.R_reads' HO_8.out).2.2); (case side2 => exact (Kd.R_reads' HO_8.out).2.1); (case side3 => exact pC (Kd.R_reads' HO935.out).2.2); (case side4 => exact (Kd.R_reads' HO935.out).2.1); rintro e w' ⟨rfl, ⟨nd, rfl⟩⟩; refine ⟨_, rfl, ?_⟩))
         (try simp only [Act.put, List.setIfInBounds_toArray, List.set_cons_zero, List.set_cons_succ])
         go_cut [] (fun wc => ∃ (kq : Nat), Aside0 (laws_FnExactSecCut.j4 kq l1 t915 l0_0 l0_1 t901 t904 t908 t911 t918 t921 = some r) ∧ Aside0 (kq ≤ kj54) ∧ Aside0 (Kd.R (Kd.int .i64) 3 wc w.heap.size (fun _ => True) (.slice Ao41 t915.length co41) t915) ∧ Aside0 (Kd.R Kd.string 9 wc w.heap.size (fun k_ => some k_ ≠ ((.slice Ao34 t908.length co34) : Value).ownBlock ∧ some k_ ≠ ((.slice Ao44 t918.length co44) : Value).ownBlock) (.slice Ao27 t901.length co27) t901) ∧ Aside0 (Kd.R k54 54 wc w.heap.size (fun k_ => some k_ ≠ ((.slice Ao38 t911.length co38) : Value).ownBlock ∧ some k_ ≠ ((.slice Ao49 t921.length co49) : Value).ownBlock) (.slice Ao30 t904.length co30) t904) ∧ Aside0 (Kd.R Kd.string 9 wc w.heap.size (fun k_ => some k_ ≠ ((.slice Ao27 t901.length co27) : Value).ownBlock ∧ some k_ ≠ ((.slice Ao44 t918.length co44) : Value).ownBlock) (.slice Ao34 t908.length co34) t908) ∧ Aside0 (Kd.R k54 54 wc w.heap.size (fun k_ => some k_ ≠ ((.slice Ao30 t904.length co30) : Value).ownBlock ∧ some k_ ≠ ((.slice Ao49 t921.length co49) : Value).ownBlock) (.slice Ao38 t911.length co38) t911) ∧ Aside0 (Kd.R Kd.string 9 wc w.heap.size (fun k_ => some k_ ≠ ((.slice Ao27 t901.length co27) : Value).ownBlock ∧ some k_ ≠ ((.slice Ao34 t908.length co34) : Value).ownBlock) (.slice Ao44 t918.length co44) t918) ∧ Aside0 (Kd.R k54 54 wc w.heap.size (fun k_ => some k_ ≠ ((.slice Ao30 t904.length co30) : Value).ownBlock ∧ some k_ ≠ ((.slice Ao38 t911.length co38) : Value).ownBlock) (.slice Ao49 t921.length co49) t921) ∧ Aside0 (wc.heap[gb890]? = some (.cells #[(.slice A0_0 l0_0.length c0_0), (.slice A0_1 l0_1.length c0_1)] 34 (0, 0))) ∧ Aside0 (wc.heap[gb907]? = some (.cells #[(.slice Ao27 t901.length co27), (.slice Ao30 t904.length co30)] 26 (0, 0))) ∧ Aside0 (wc.heap[gb914]? = some (.cells #[(.slice Ao34 t908.length co34), (.slice Ao38 t911.length co38)] 26 (0, 0))) ∧ Aside0 (wc.heap[gb924]? = some (.cells #[(.slice Ao44 t918.length co44), (.slice Ao49 t921.length co49)] 26 (0, 0))) ∧ Aside0 (Below w.heap.size w wc))
         case first =>
          have H := HC64.out
          clear HC64
          by_cases c67 : t936 = true
          ·subst c67
           have H1 : (laws_FnExactSecCut.j4 kj54 l1 t915 l0_0 l0_1 t901 t904 t908 t911 t918 t921) = some r := by rw [if_pos rfl] at H; exact H
           clear H
           have H := H1
           clear H1
           have H' := Aside0.mk H
           clear H
           go_wp2
           go_meet
           case rel => exact ⟨_, H', ⟨by have := HJ2.out; have := HJ6.out; have := HJ17.out; have := HJ54.out; first | omega | exact Nat.le_refl _⟩, ⟨pR (Kd.R_mono HO_8.out (fun _ hk => trivial))⟩, ⟨pR HO_908000.out⟩, ⟨pR HO_908001.out⟩, ⟨pR HO_915000.out⟩, ⟨pR HO_915001.out⟩, ⟨pR HO_925000.out⟩, ⟨pR HO_925001.out⟩, ⟨pK BK890.out⟩, ⟨pK BK907.out⟩, ⟨pK BK914.out⟩, ⟨pK BK924.out⟩, ⟨by repeat (first | (with_reducible first | exact HB.out | apply below_alloc | apply pw_below_drewN | apply below_drew1 | refine below_set ?_ GE890.out | refine below_set ?_ GE907.out | refine below_set ?_ GE914.out | refine below_set ?_ GE924.out) | exact HB.out)⟩⟩
          ·replace c67 := Bool.eq_false_iff.mpr c67
           subst c67
           have H1 : (some false) = some r := by rw [if_neg (show ¬ (false = true) by decide)] at H; exact H
           clear H
           have H := H1
           clear H1
           obtain rfl := Option.some.inj H
           go_wp2
           go_ret
           exact ⟨by first | rfl | (simp [errW_none, errW_some] <;> rfl) | (simp [*, errW_none, errW_some] <;> rfl), by repeat (first | (with_reducible first | exact HB.out | apply below_alloc | apply pw_below_drewN | apply below_drew1 | refine below_set ?_ GE890.out | refine below_set ?_ GE907.out | refine below_set ?_ GE914.out | refine below_set ?_ GE924.out) | exact HB.out)⟩
         case rest =>
          clear HC64
          try clear c1
          try clear c2
          try clear p2
          try clear c3
          try clear c4
          try clear c5
          try clear c5b0
          try clear c5b1
          try clear c6
          try clear c10
          try clear c10b0
          try clear c14
          try clear c17
          try clear c22
          try clear c24
          try clear c28
          try clear c34
          try clear c35
          try clear c36
          try clear c38
          try clear c39
          try clear c45
          try clear c46
          try clear c47
          try clear c52
          try clear c61
          try clear c67
          try clear hcz19_0
          try clear hcz19_1
          try clear hcz29_0
          try clear hcz29_1
          try clear hcz31_0
          try clear hcz31_1
          try clear hcz37_0
          try clear hcz37_1
          try clear hcz40_0
          try clear hcz40_1
          try clear hcz48_0
          try clear hcz48_1
          try clear hcz50_0
          try clear hcz50_1
          try clear hcz8_0
          try clear hcz8_1
          try clear hfz19_0
          try clear hfz19_1
          try clear hfz29_0
          try clear hfz29_1
          try clear hfz31_0
          try clear hfz31_1
          try clear hfz37_0
          try clear hfz37_1
          try clear hfz40_0
          try clear hfz40_1
          try clear hfz48_0
          try clear hfz48_1
          try clear hfz50_0
          try clear hfz50_1
          try clear hfz8_0
          try clear hfz8_1
          try clear p2
          obtain ⟨kq, HA, HJ63, HO_8, HO_908000, HO_908001, HO_915000, HO_915001, HO_925000, HO_925001, BK890, BK907, BK914, BK924, HB⟩ := hcut
          cases kq with
          | zero => exact absurd HA.out (by simp [laws_FnExactSecCut.j4])
          | succ kj63 =>
           have H := HA.out
           clear HA
           simp only [laws_FnExactSecCut.j4] at H
           replace H := Option.bind_eq_some_iff.mp H
           obtain ⟨⟨t937, t938, t939⟩, A680, H⟩ := H
           replace H : ((laws_markIntS.f kj63 t915 t937).bind fun bt940 => (if bt940.1 < 0 then (laws_FnExactSecCut.j5 kj63 l1 true l0_0 l0_1 t901 t904 t918 t921) else ((laws_eqSecDisk.f kj63 t918 t921 t901 t904).bind fun t942 => (laws_FnExactSecCut.j5 kj63 l1 (!t942) l0_0 l0_1 t901 t904 t918 t921)))) = some r := H
           have A68 := Aside0.mk A680
           clear A680
           replace H := Option.bind_eq_some_iff.mp H
           obtain ⟨⟨t940, t941⟩, A690, H⟩ := H
           replace H : (if t940 < 0 then (laws_FnExactSecCut.j5 kj63 l1 true l0_0 l0_1 t901 t904 t918 t921) else ((laws_eqSecDisk.f kj63 t918 t921 t901 t904).bind fun t942 => (laws_FnExactSecCut.j5 kj63 l1 (!t942) l0_0 l0_1 t901 t904 t918 t921))) = some r := H
           have A69 := Aside0.mk A690
           clear A690
           have HC70 := Aside0.mk H
           clear H
           have hnb71 := NB914_890.out
           have hnc71 := NB890_914.out
           have hnb72 := NB914_907.out
           have hnc72 := NB907_914.out
           have hnb73 := NB914_924.out
           have hnc73 := NB924_914.out
           have hcz74_0 : wc.cell? ⟨gb914, 0, none⟩ = some (.slice Ao34 t908.length co34) := (blk_cell BK914.out 0).trans rfl
           have hcz74_1 : wc.cell? ⟨gb914, 1, none⟩ = some (.slice Ao38 t911.length co38) := (blk_cell BK914.out 1).trans rfl
           have hfz74_0 := blk_frozen BK914.out 0
           have hfz74_1 := blk_frozen BK914.out 1
           go_upto_region 20 with (first | ((with_reducible refine gate_callee (f := 18) rfl ?_); refine goesL_ (some 50) rfl rfl Try.func18 (by kernel_rfl) rfl #[.agg #[.slice Ao34 t908.length co34, .slice Ao38 t911.length co38], .int .i64 1] rfl bM ?_; (with_reducible refine (laws_markSecDisk.calls kj63 (fun k_ => some k_ = (.slice Ao34 t908.length co34 : Value).ownBlock) (.slice Ao34 t908.length co34) t908 (fun k_ => some k_ = (.slice Ao38 t911.length co38 : Value).ownBlock) (.slice Ao38 t911.length co38) t911 1 t937 t938 t939 w _ ?side1 ?side2 ?side3 A68.out).mono ?_); (case side1 => repeat (first | (with_reducible first | exact HB.out | apply below_alloc | apply pw_below_drewN | apply below_drew1 | refine below_set ?_ GE890.out | refine below_set ?_ GE907.out | refine below_set ?_ GE914.out | refine below_set ?_ GE924.out) | exact HB.out)); (case side2 => exact Kd.R_tight rfl HO_915000.out); (case side3 => exact Kd.R_tight rfl HO_915001.out); rintro e w75 ⟨rfl, hy0, hy1, hb, hkp⟩; refine ⟨_, rfl, ?_⟩; have n0_ := Aside0.mk (Kd.R_mono (ok' := fun k_ => True) (Kd.R_keptB ((Kd.R_apart' (Kd.R_apart' HO_8.out (Kd.R_typed HO_915000.out) (by decide)) (Kd.R_typed HO_915001.out) (by decide))) hkp (fun k_ hk_ hs_ => Or.elim hs_ (fun e_ => (hk_.1.2) e_) (fun e_ => (hk_.2) e_))) (fun k_ hk_ => trivial)); have n1_ := Aside0.mk (Kd.R_mono (ok' := fun k_ => some k_ ≠ (.slice Ao34 t908.length co34 : Value).ownBlock ∧ some k_ ≠ (.slice Ao44 t918.length co44 : Value).ownBlock) (Kd.R_keptB ((Kd.R_apart' HO_908000.out (Kd.R_typed HO_915001.out) (by decide))) hkp (fun k_ hk_ hs_ => Or.elim hs_ (fun e_ => (hk_.1.1) e_) (fun e_ => (hk_.2) e_))) (fun k_ hk_ => ⟨hk_.1.1.1, hk_.1.1.2⟩)); have n2_ := Aside0.mk (Kd.R_mono (ok' := fun k_ => some k_ ≠ (.slice Ao38 t911.length co38 : Value).ownBlock ∧ some k_ ≠ (.slice Ao49 t921.length co49 : Value).ownBlock) (Kd.R_keptB ((Kd.R_apart' HO_908001.out (Kd.R_typed HO_915000.out) (by decide))) hkp (fun k_ hk_ hs_ => Or.elim hs_ (fun e_ => (hk_.2) e_) (fun e_ => (hk_.1.1) e_))) (fun k_ hk_ => ⟨hk_.1.1.1, hk_.1.1.2⟩)); have n3_ := Aside0.mk (Kd.R_reok rfl hy0 (fun k_ e_ => HO_915000.out.1 k_ e_)); have n4_ := Aside0.mk (Kd.R_reok rfl hy1 (fun k_ e_ => HO_915001.out.1 k_ e_)); have n5_ := Aside0.mk (Kd.R_mono (ok' := fun k_ => some k_ ≠ (.slice Ao27 t901.length co27 : Value).ownBlock ∧ some k_ ≠ (.slice Ao34 t908.length co34 : Value).ownBlock) (Kd.R_keptB ((Kd.R_apart' HO_925000.out (Kd.R_typed HO_915001.out) (by decide))) hkp (fun k_ hk_ hs_ => Or.elim hs_ (fun e_ => (hk_.1.2) e_) (fun e_ => (hk_.2) e_))) (fun k_ hk_ => ⟨hk_.1.1.1, hk_.1.1.2⟩)); have n6_ := Aside0.mk (Kd.R_mono (ok' := fun k_ => some k_ ≠ (.slice Ao30 t904.length co30 : Value).ownBlock ∧ some k_ ≠ (.slice Ao38 t911.length co38 : Value).ownBlock) (Kd.R_keptB ((Kd.R_apart' HO_925001.out (Kd.R_typed HO_915000.out) (by decide))) hkp (fun k_ hk_ hs_ => Or.elim hs_ (fun e_ => (hk_.2) e_) (fun e_ => (hk_.1.2) e_))) (fun k_ hk_ => ⟨hk_.1.1.1, hk_.1.1.2⟩)); have n7_ := Aside0.mk (blk_kept (pK BK890.out) hkp (fun hs_ => Or.elim hs_ (fun e_ => (fun e_ => (Kd.R_ne HO_915000.out BK890.out (by decide)) e_) e_) (fun e_ => (fun e_ => (Kd.R_ne HO_915001.out BK890.out (by decide)) e_) e_))); have n8_ := Aside0.mk (blk_kept (pK BK907.out) hkp (fun hs_ => Or.elim hs_ (fun e_ => (fun e_ => (Kd.R_ne HO_915000.out BK907.out (by decide)) e_) e_) (fun e_ => (fun e_ => (Kd.R_ne HO_915001.out BK907.out (by decide)) e_) e_))); have n9_ := Aside0.mk (blk_kept (pK BK914.out) hkp (fun hs_ => Or.elim hs_ (fun e_ => (fun e_ => (Kd.R_ne HO_915000.out BK914.out (by decide)) e_) e_) (fun e_ => (fun e_ => (Kd.R_ne HO_915001.out BK914.out (by decide)) e_) e_))); have n10_ := Aside0.mk (blk_kept (pK BK924.out) hkp (fun hs_ => Or.elim hs_ (fun e_ => (fun e_ => (Kd.R_ne HO_915000.out BK924.out (by decide)) e_) e_) (fun e_ => (fun e_ => (Kd.R_ne HO_915001.out BK924.out (by decide)) e_) e_))); have n11_ := Aside0.mk (hb); clear HO_8; clear HO_908000; clear HO_908001; clear HO_915000; clear HO_915001; clear HO_925000; clear HO_925001; clear BK890; clear BK907; clear BK914; clear BK924; clear HB; have HO_8 := n0_; have HO_908000 := n1_; have HO_908001 := n2_; have HO_915000 := n3_; have HO_915001 := n4_; have HO_925000 := n5_; have HO_925001 := n6_; have BK890 := n7_; have BK907 := n8_; have BK914 := n9_; have BK924 := n10_; have HB := n11_; clear n0_ n1_ n2_ n3_ n4_ n5_ n6_ n7_ n8_ n9_ n10_ n11_; (try clear hb); (try clear hkp); (try clear hy0); (try clear hy1)) | ((with_reducible refine gate_callee (f := 40) rfl ?_); refine goesL_ (some 53) rfl rfl Try.func40 (by kernel_rfl) rfl #[.slice Ao41 t915.length co41, .int .i64 t937] rfl bM ?_; (with_reducible refine (laws_markIntS.calls kj63 (fun k_ => some k_ = (.slice Ao41 t915.length co41 : Value).ownBlock) (.slice Ao41 t915.length co41) t915 t937 t940 t941 w _ ?side1 ?side2 A69.out).mono ?_); (case side1 => repeat (first | (with_reducible first | exact HB.out | apply below_alloc | apply pw_below_drewN | apply below_drew1 | refine below_set ?_ GE890.out | refine below_set ?_ GE907.out | refine below_set ?_ GE914.out | refine below_set ?_ GE924.out) | exact HB.out)); (case side2 => exact Kd.R_tight rfl HO_8.out); rintro e w76 ⟨rfl, hy0, hb, hkp⟩; refine ⟨_, rfl, ?_⟩; have n0_ := Aside0.mk (Kd.R_reok rfl hy0 (fun k_ e_ => HO_8.out.1 k_ e_)); have n1_ := Aside0.mk (Kd.R_mono (ok' := fun k_ => some k_ ≠ (.slice Ao34 t908.length co34 : Value).ownBlock ∧ some k_ ≠ (.slice Ao44 t918.length co44 : Value).ownBlock) (Kd.R_keptB ((Kd.R_apart' HO_908000.out (Kd.R_typed HO_8.out) (by decide))) hkp (fun k_ hk_ hs_ => (hk_.2) hs_)) (fun k_ hk_ => ⟨hk_.1.1.1, hk_.1.1.2⟩)); have n2_ := Aside0.mk (Kd.R_mono (ok' := fun k_ => some k_ ≠ (.slice Ao38 t911.length co38 : Value).ownBlock ∧ some k_ ≠ (.slice Ao49 t921.length co49 : Value).ownBlock) (Kd.R_keptB ((Kd.R_apart' HO_908001.out (Kd.R_typed HO_8.out) (by decide))) hkp (fun k_ hk_ hs_ => (hk_.2) hs_)) (fun k_ hk_ => ⟨hk_.1.1.1, hk_.1.1.2⟩)); have n3_ := Aside0.mk (Kd.R_mono (ok' := fun k_ => some k_ ≠ (.slice Ao27 t901.length co27 : Value).ownBlock ∧ some k_ ≠ (.slice Ao44 t918.length co44 : Value).ownBlock) (Kd.R_keptB ((Kd.R_apart' HO_915000.out (Kd.R_typed HO_8.out) (by decide))) hkp (fun k_ hk_ hs_ => (hk_.2) hs_)) (fun k_ hk_ => ⟨hk_.1.1.1, hk_.1.1.2⟩)); have n4_ := Aside0.mk (Kd.R_mono (ok' := fun k_ => some k_ ≠ (.slice Ao30 t904.length co30 : Value).ownBlock ∧ some k_ ≠ (.slice Ao49 t921.length co49 : Value).ownBlock) (Kd.R_keptB ((Kd.R_apart' HO_915001.out (Kd.R_typed HO_8.out) (by decide))) hkp (fun k_ hk_ hs_ => (hk_.2) hs_)) (fun k_ hk_ => ⟨hk_.1.1.1, hk_.1.1.2⟩)); have n5_ := Aside0.mk (Kd.R_mono (ok' := fun k_ => some k_ ≠ (.slice Ao27 t901.length co27 : Value).ownBlock ∧ some k_ ≠ (.slice Ao34 t908.length co34 : Value).ownBlock) (Kd.R_keptB ((Kd.R_apart' HO_925000.out (Kd.R_typed HO_8.out) (by decide))) hkp (fun k_ hk_ hs_ => (hk_.2) hs_)) (fun k_ hk_ => ⟨hk_.1.1.1, hk_.1.1.2⟩)); have n6_ := Aside0.mk (Kd.R_mono (ok' := fun k_ => some k_ ≠ (.slice Ao30 t904.length co30 : Value).ownBlock ∧ some k_ ≠ (.slice Ao38 t911.length co38 : Value).ownBlock) (Kd.R_keptB ((Kd.R_apart' HO_925001.out (Kd.R_typed HO_8.out) (by decide))) hkp (fun k_ hk_ hs_ => (hk_.2) hs_)) (fun k_ hk_ => ⟨hk_.1.1.1, hk_.1.1.2⟩)); have n7_ := Aside0.mk (blk_kept (pK BK890.out) hkp (fun hs_ => (fun e_ => (Kd.R_ne HO_8.out BK890.out (by decide)) e_) hs_)); have n8_ := Aside0.mk (blk_kept (pK BK907.out) hkp (fun hs_ => (fun e_ => (Kd.R_ne HO_8.out BK907.out (by decide)) e_) hs_)); have n9_ := Aside0.mk (blk_kept (pK BK914.out) hkp (fun hs_ => (fun e_ => (Kd.R_ne HO_8.out BK914.out (by decide)) e_) hs_)); have n10_ := Aside0.mk (blk_kept (pK BK924.out) hkp (fun hs_ => (fun e_ => (Kd.R_ne HO_8.out BK924.out (by decide)) e_) hs_)); have n11_ := Aside0.mk (hb); clear HO_8; clear HO_908000; clear HO_908001; clear HO_915000; clear HO_915001; clear HO_925000; clear HO_925001; clear BK890; clear BK907; clear BK914; clear BK924; clear HB; have HO_8 := n0_; have HO_908000 := n1_; have HO_908001 := n2_; have HO_915000 := n3_; have HO_915001 := n4_; have HO_925000 := n5_; have HO_925001 := n6_; have BK890 := n7_; have BK907 := n8_; have BK914 := n9_; have BK924 := n10_; have HB := n11_; clear n0_ n1_ n2_ n3_ n4_ n5_ n6_ n7_ n8_ n9_ n10_ n11_; (try clear hb); (try clear hkp); (try clear hy0)))
           (try simp only [Act.put, List.setIfInBounds_toArray, List.set_cons_zero, List.set_cons_succ])
           go_cut [61] (fun v61 wc => ∃ (kq : Nat) (x61_69 : Bool), v61 = .bool x61_69 ∧ Aside0 (laws_FnExactSecCut.j5 kq l1 x61_69 l0_0 l0_1 t901 t904 t918 t921 = some r) ∧ Aside0 (kq ≤ kj63) ∧ Aside0 (Kd.R Kd.string 9 wc w.heap.size (fun k_ => some k_ ≠ ((.slice Ao34 t908.length co34) : Value).ownBlock ∧ some k_ ≠ ((.slice Ao44 t918.length co44) : Value).ownBlock) (.slice Ao27 t901.length co27) t901) ∧ Aside0 (Kd.R k54 54 wc w.heap.size (fun k_ => some k_ ≠ ((.slice Ao38 t911.length co38) : Value).ownBlock ∧ some k_ ≠ ((.slice Ao49 t921.length co49) : Value).ownBlock) (.slice Ao30 t904.length co30) t904) ∧ Aside0 (Kd.R Kd.string 9 wc w.heap.size (fun k_ => some k_ ≠ ((.slice Ao27 t901.length co27) : Value).ownBlock ∧ some k_ ≠ ((.slice Ao44 t918.length co44) : Value).ownBlock) (.slice Ao34 t908.length co34) t938) ∧ Aside0 (Kd.R k54 54 wc w.heap.size (fun k_ => some k_ ≠ ((.slice Ao30 t904.length co30) : Value).ownBlock ∧ some k_ ≠ ((.slice Ao49 t921.length co49) : Value).ownBlock) (.slice Ao38 t911.length co38) t939) ∧ Aside0 (Kd.R Kd.string 9 wc w.heap.size (fun k_ => some k_ ≠ ((.slice Ao27 t901.length co27) : Value).ownBlock ∧ some k_ ≠ ((.slice Ao34 t908.length co34) : Value).ownBlock) (.slice Ao44 t918.length co44) t918) ∧ Aside0 (Kd.R k54 54 wc w.heap.size (fun k_ => some k_ ≠ ((.slice Ao30 t904.length co30) : Value).ownBlock ∧ some k_ ≠ ((.slice Ao38 t911.length co38) : Value).ownBlock) (.slice Ao49 t921.length co49) t921) ∧ Aside0 (wc.heap[gb890]? = some (.cells #[(.slice A0_0 l0_0.length c0_0), (.slice A0_1 l0_1.length c0_1)] 34 (0, 0))) ∧ Aside0 (wc.heap[gb907]? = some (.cells #[(.slice Ao27 t901.length co27), (.slice Ao30 t904.length co30)] 26 (0, 0))) ∧ Aside0 (wc.heap[gb914]? = some (.cells #[(.slice Ao34 t908.length co34), (.slice Ao38 t911.length co38)] 26 (0, 0))) ∧ Aside0 (wc.heap[gb924]? = some (.cells #[(.slice Ao44 t918.length co44), (.slice Ao49 t921.length co49)] 26 (0, 0))) ∧ Aside0 (Below w.heap.size w wc))
           case first =>
            have H := HC70.out
            clear HC70
            by_cases c77 : t940 < 0
            ·rw [if_pos c77] at H
             have c77b0 : decide (t940 < 0) = true := decide_eq_true c77
             clear c77
             (first | rw [c77b0] | (simp only [i64_w, i32_w]; rw [c77b0]) | skip)
             have H' := Aside0.mk H
             clear H
             go_wp2
             go_meet
             case rel => exact ⟨_, (true), (by first | rfl | (simp; done) | (simp [*]; done)), H', ⟨by have := HJ2.out; have := HJ6.out; have := HJ17.out; have := HJ54.out; have := HJ63.out; first | omega | exact Nat.le_refl _⟩, ⟨pR HO_908000.out⟩, ⟨pR HO_908001.out⟩, ⟨pR HO_915000.out⟩, ⟨pR HO_915001.out⟩, ⟨pR HO_925000.out⟩, ⟨pR HO_925001.out⟩, ⟨pK BK890.out⟩, ⟨pK BK907.out⟩, ⟨pK BK914.out⟩, ⟨pK BK924.out⟩, ⟨by repeat (first | (with_reducible first | exact HB.out | apply below_alloc | apply pw_below_drewN | apply below_drew1 | refine below_set ?_ GE890.out | refine below_set ?_ GE907.out | refine below_set ?_ GE914.out | refine below_set ?_ GE924.out) | exact HB.out)⟩⟩
            ·rw [if_neg c77] at H
             have c77b0 : decide (t940 < 0) = false := decide_eq_false c77
             clear c77
             (first | rw [c77b0] | (simp only [i64_w, i32_w]; rw [c77b0]) | skip)
             replace H := Option.bind_eq_some_iff.mp H
             obtain ⟨t942, A780, H⟩ := H
             replace H : (laws_FnExactSecCut.j5 kj63 l1 (!t942) l0_0 l0_1 t901 t904 t918 t921) = some r := H
             have A78 := Aside0.mk A780
             clear A780
             have H' := Aside0.mk H
             clear H
             have hnb79 := NB924_890.out
             have hnc79 := NB890_924.out
             have hnb80 := NB924_907.out
             have hnc80 := NB907_924.out
             have hnb81 := NB924_914.out
             have hnc81 := NB914_924.out
             have hcz82_0 : w76.cell? ⟨gb924, 0, none⟩ = some (.slice Ao44 t918.length co44) := (blk_cell BK924.out 0).trans rfl
             have hcz82_1 : w76.cell? ⟨gb924, 1, none⟩ = some (.slice Ao49 t921.length co49) := (blk_cell BK924.out 1).trans rfl
             have hfz82_0 := blk_frozen BK924.out 0
             have hfz82_1 := blk_frozen BK924.out 1
             have hnb83 := NB907_890.out
             have hnc83 := NB890_907.out
             have hnb84 := NB907_914.out
             have hnc84 := NB914_907.out
             have hcz85_0 : w76.cell? ⟨gb907, 0, none⟩ = some (.slice Ao27 t901.length co27) := (blk_cell BK907.out 0).trans rfl
             have hcz85_1 : w76.cell? ⟨gb907, 1, none⟩ = some (.slice Ao30 t904.length co30) := (blk_cell BK907.out 1).trans rfl
             have hfz85_0 := blk_frozen BK907.out 0
             have hfz85_1 := blk_frozen BK907.out 1
             go_wp2_with (first | (go_at_call 17; (with_reducible refine (laws_eqSecDisk.calls kj63 _ _ t918 _ _ t921 _ _ t901 _ _ t904 t942 _ ?side1 ?side2 ?side3 ?side4 ?side5 ?side6 ?side7 ?side8 A78.out).mono ?_); (case side1 => exact pC (Kd.R_reads' HO_925000.out).2.2); (case side2 => exact (Kd.R_reads' HO_925000.out).2.1); (case side3 => exact pC (Kd.R_reads' HO_925001.out).2.2); (case side4 => exact (Kd.R_reads' HO_925001.out).2.1); (case side5 => exact pC (Kd.R_reads' HO_908000.out).2.2); (case side6 => exact (Kd.R_reads' HO_908000.out).2.1); (case side7 => exact pC (Kd.R_reads' HO_908001.out).2.2); (case side8 => exact (Kd.R_reads' HO_908001.out).2.1); rintro e w86 ⟨rfl, hb⟩; have n0_ := Aside0.mk (Kd.R_below (pR HO_8.out) hb); have n1_ := Aside0.mk (Kd.R_below (pR HO_908000.out) hb); have n2_ := Aside0.mk (Kd.R_below (pR HO_908001.out) hb); have n3_ := Aside0.mk (Kd.R_below (pR HO_915000.out) hb); have n4_ := Aside0.mk (Kd.R_below (pR HO_915001.out) hb); have n5_ := Aside0.mk (Kd.R_below (pR HO_925000.out) hb); have n6_ := Aside0.mk (Kd.R_below (pR HO_925001.out) hb); have n7_ := Aside0.mk (blk_below (g := gb890) (o := .cells #[.slice A0_0 l0_0.length c0_0, .slice A0_1 l0_1.length c0_1] 34 (0, 0)) (pK BK890.out) hb); have n8_ := Aside0.mk (blk_below (g := gb907) (o := .cells #[.slice Ao27 t901.length co27, .slice Ao30 t904.length co30] 26 (0, 0)) (pK BK907.out) hb); have n9_ := Aside0.mk (blk_below (g := gb914) (o := .cells #[.slice Ao34 t908.length co34, .slice Ao38 t911.length co38] 26 (0, 0)) (pK BK914.out) hb); have n10_ := Aside0.mk (blk_below (g := gb924) (o := .cells #[.slice Ao44 t918.length co44, .slice Ao49 t921.length co49] 26 (0, 0)) (pK BK924.out) hb); have n11_ := Aside0.mk (below_step (by repeat (first | (with_reducible first | exact HB.out | apply below_alloc | apply pw_below_drewN | apply below_drew1 | refine below_set ?_ GE890.out | refine below_set ?_ GE907.out | refine below_set ?_ GE914.out | refine below_set ?_ GE924.out) | exact HB.out)) hb); clear HO_8; clear HO_908000; clear HO_908001; clear HO_915000; clear HO_915001; clear HO_925000; clear HO_925001; clear BK890; clear BK907; clear BK914; clear BK924; clear HB; have HO_8 := n0_; have HO_908000 := n1_; have HO_908001 := n2_; have HO_915000 := n3_; have HO_915001 := n4_; have HO_925000 := n5_; have HO_925001 := n6_; have BK890 := n7_; have BK907 := n8_; have BK914 := n9_; have BK924 := n10_; have HB := n11_; clear n0_ n1_ n2_ n3_ n4_ n5_ n6_ n7_ n8_ n9_ n10_ n11_; (try clear hb); (try clear hb2); (try clear hk); (try clear hi)))
             go_meet
             case rel => exact ⟨_, (!t942), (by first | rfl | (simp; done) | (simp [*]; done)), H', ⟨by have := HJ2.out; have := HJ6.out; have := HJ17.out; have := HJ54.out; have := HJ63.out; first | omega | exact Nat.le_refl _⟩, ⟨pR HO_908000.out⟩, ⟨pR HO_908001.out⟩, ⟨pR HO_915000.out⟩, ⟨pR HO_915001.out⟩, ⟨pR HO_925000.out⟩, ⟨pR HO_925001.out⟩, ⟨pK BK890.out⟩, ⟨pK BK907.out⟩, ⟨pK BK914.out⟩, ⟨pK BK924.out⟩, ⟨by repeat (first | (with_reducible first | exact HB.out | apply below_alloc | apply pw_below_drewN | apply below_drew1 | refine below_set ?_ GE890.out | refine below_set ?_ GE907.out | refine below_set ?_ GE914.out | refine below_set ?_ GE924.out) | exact HB.out)⟩⟩
           case rest =>
            clear HC70
            try clear c1
            try clear c2
            try clear p2
            try clear c3
            try clear c4
            try clear c5
            try clear c5b0
            try clear c5b1
            try clear c6
            try clear c7
            try clear c8
            try clear c10
            try clear c10b0
            try clear c14
            try clear c17
            try clear c18
            try clear c22
            try clear c24
            try clear c28
            try clear c34
            try clear c35
            try clear c36
            try clear c38
            try clear c39
            try clear c40
            try clear c45
            try clear c46
            try clear c47
            try clear c52
            try clear c61
            try clear c67
            try clear c71
            try clear c72
            try clear c73
            try clear c77
            try clear c77b0
            try clear c79
            try clear c80
            try clear c81
            try clear c83
            try clear c84
            try clear hcz19_0
            try clear hcz19_1
            try clear hcz29_0
            try clear hcz29_1
            try clear hcz31_0
            try clear hcz31_1
            try clear hcz37_0
            try clear hcz37_1
            try clear hcz40_0
            try clear hcz40_1
            try clear hcz48_0
            try clear hcz48_1
            try clear hcz50_0
            try clear hcz50_1
            try clear hcz74_0
            try clear hcz74_1
            try clear hcz82_0
            try clear hcz82_1
            try clear hcz85_0
            try clear hcz85_1
            try clear hcz8_0
            try clear hcz8_1
            try clear hfz19_0
            try clear hfz19_1
            try clear hfz29_0
            try clear hfz29_1
            try clear hfz31_0
            try clear hfz31_1
            try clear hfz37_0
            try clear hfz37_1
            try clear hfz40_0
            try clear hfz40_1
            try clear hfz48_0
            try clear hfz48_1
            try clear hfz50_0
            try clear hfz50_1
            try clear hfz74_0
            try clear hfz74_1
            try clear hfz82_0
            try clear hfz82_1
            try clear hfz85_0
            try clear hfz85_1
            try clear hfz8_0
            try clear hfz8_1
            try clear p2
            obtain ⟨kq, x61_69, rfl, HA, HJ69, HO_908000, HO_908001, HO_915000, HO_915001, HO_925000, HO_925001, BK890, BK907, BK914, BK924, HB⟩ := hcut
            have hl915000_69 := (Kd.R_reads' HO_915000.out).1
            rw [hl915000_69] at HO_915000
            (try simp only [hl915000_69])
            (try simp only [hl915000_69] at BK890)
            (try simp only [hl915000_69] at BK907)
            (try simp only [hl915000_69] at BK914)
            (try simp only [hl915000_69] at BK924)
            (try simp only [hl915000_69] at HO_908000)
            (try simp only [hl915000_69] at HO_908001)
            (try simp only [hl915000_69] at HO_915001)
            (try simp only [hl915000_69] at HO_925000)
            (try simp only [hl915000_69] at HO_925001)
            have hl915001_69 := (Kd.R_reads' HO_915001.out).1
            rw [hl915001_69] at HO_915001
            (try simp only [hl915001_69])
            (try simp only [hl915001_69] at BK890)
            (try simp only [hl915001_69] at BK907)
            (try simp only [hl915001_69] at BK914)
            (try simp only [hl915001_69] at BK924)
            (try simp only [hl915001_69] at HO_908000)
            (try simp only [hl915001_69] at HO_908001)
            (try simp only [hl915001_69] at HO_915000)
            (try simp only [hl915001_69] at HO_925000)
            (try simp only [hl915001_69] at HO_925001)
            cases kq with
            | zero => exact absurd HA.out (by simp [laws_FnExactSecCut.j5])
            | succ kj69 =>
             have H := HA.out
             clear HA
             simp only [laws_FnExactSecCut.j5] at H
             have HC87 := Aside0.mk H
             clear H
             go_upto_if 61 with (fail)
             go_cut [] (fun wc => ∃ (kq : Nat), Aside0 (laws_FnExactSecCut.j6 kq l1 l0_0 l0_1 t901 t904 t918 t921 = some r) ∧ Aside0 (kq ≤ kj69) ∧ Aside0 (Kd.R Kd.string 9 wc w.heap.size (fun k_ => some k_ ≠ ((.slice Ao34 t938.length co34) : Value).ownBlock ∧ some k_ ≠ ((.slice Ao44 t918.length co44) : Value).ownBlock) (.slice Ao27 t901.length co27) t901) ∧ Aside0 (Kd.R k54 54 wc w.heap.size (fun k_ => some k_ ≠ ((.slice Ao38 t939.length co38) : Value).ownBlock ∧ some k_ ≠ ((.slice Ao49 t921.length co49) : Value).ownBlock) (.slice Ao30 t904.length co30) t904) ∧ Aside0 (Kd.R Kd.string 9 wc w.heap.size (fun k_ => some k_ ≠ ((.slice Ao27 t901.length co27) : Value).ownBlock ∧ some k_ ≠ ((.slice Ao44 t918.length co44) : Value).ownBlock) (.slice Ao34 t938.length co34) t938) ∧ Aside0 (Kd.R k54 54 wc w.heap.size (fun k_ => some k_ ≠ ((.slice Ao30 t904.length co30) : Value).ownBlock ∧ some k_ ≠ ((.slice Ao49 t921.length co49) : Value).ownBlock) (.slice Ao38 t939.length co38) t939) ∧ Aside0 (Kd.R Kd.string 9 wc w.heap.size (fun k_ => some k_ ≠ ((.slice Ao27 t901.length co27) : Value).ownBlock ∧ some k_ ≠ ((.slice Ao34 t938.length co34) : Value).ownBlock) (.slice Ao44 t918.length co44) t918) ∧ Aside0 (Kd.R k54 54 wc w.heap.size (fun k_ => some k_ ≠ ((.slice Ao30 t904.length co30) : Value).ownBlock ∧ some k_ ≠ ((.slice Ao38 t939.length co38) : Value).ownBlock) (.slice Ao49 t921.length co49) t921) ∧ Aside0 (wc.heap[gb890]? = some (.cells #[(.slice A0_0 l0_0.length c0_0), (.slice A0_1 l0_1.length c0_1)] 34 (0, 0))) ∧ Aside0 (wc.heap[gb907]? = some (.cells #[(.slice Ao27 t901.length co27), (.slice Ao30 t904.length co30)] 26 (0, 0))) ∧ Aside0 (wc.heap[gb914]? = some (.cells #[(.slice Ao34 t938.length co34), (.slice Ao38 t939.length co38)] 26 (0, 0))) ∧ Aside0 (wc.heap[gb924]? = some (.cells #[(.slice Ao44 t918.length co44), (.slice Ao49 t921.length co49)] 26 (0, 0))) ∧ Aside0 (Below w.heap.size w wc))
             case first =>
              have H := HC87.out
              clear HC87
              by_cases c88 : x61_69 = true
              ·subst c88
               have H1 : (some false) = some r := by rw [if_pos rfl] at H; exact H
               clear H
               have H := H1
               clear H1
               obtain rfl := Option.some.inj H
               go_wp2
               go_ret
               exact ⟨by first | rfl | (simp [errW_none, errW_some] <;> rfl) | (simp [*, errW_none, errW_some] <;> rfl), by repeat (first | (with_reducible first | exact HB.out | apply below_alloc | apply pw_below_drewN | apply below_drew1 | refine below_set ?_ GE890.out | refine below_set ?_ GE907.out | refine below_set ?_ GE914.out | refine below_set ?_ GE924.out) | exact HB.out)⟩
              ·replace c88 := Bool.eq_false_iff.mpr c88
               subst c88
               have H1 : (laws_FnExactSecCut.j6 kj69 l1 l0_0 l0_1 t901 t904 t918 t921) = some r := by rw [if_neg (show ¬ (false = true) by decide)] at H; exact H
               clear H
               have H := H1
               clear H1
               have H' := Aside0.mk H
               clear H
               go_wp2
               go_meet
               case rel => exact ⟨_, H', ⟨by have := HJ2.out; have := HJ6.out; have := HJ17.out; have := HJ54.out; have := HJ63.out; have := HJ69.out; first | omega | exact Nat.le_refl _⟩, ⟨by (try simp only [hl915000_69]); (try simp only [hl915001_69]); (with_reducible repeat (first | apply Kd.R_alloc | apply Kd.R_drewN | apply Kd.R_drew)); exact HO_908000.out⟩, ⟨by (try simp only [hl915000_69]); (try simp only [hl915001_69]); (with_reducible repeat (first | apply Kd.R_alloc | apply Kd.R_drewN | apply Kd.R_drew)); exact HO_908001.out⟩, ⟨by (try simp only [hl915000_69]); (try simp only [hl915001_69]); (with_reducible repeat (first | apply Kd.R_alloc | apply Kd.R_drewN | apply Kd.R_drew)); exact HO_915000.out⟩, ⟨by (try simp only [hl915000_69]); (try simp only [hl915001_69]); (with_reducible repeat (first | apply Kd.R_alloc | apply Kd.R_drewN | apply Kd.R_drew)); exact HO_915001.out⟩, ⟨by (try simp only [hl915000_69]); (try simp only [hl915001_69]); (with_reducible repeat (first | apply Kd.R_alloc | apply Kd.R_drewN | apply Kd.R_drew)); exact HO_925000.out⟩, ⟨by (try simp only [hl915000_69]); (try simp only [hl915001_69]); (with_reducible repeat (first | apply Kd.R_alloc | apply Kd.R_drewN | apply Kd.R_drew)); exact HO_925001.out⟩, ⟨by (try simp only [hl915000_69]); (try simp only [hl915001_69]); (with_reducible repeat (first | refine blk_drewN ?_ _ | refine blk_drew ?_ | refine blk_alloc ?_ _)); exact BK890.out⟩, ⟨by (try simp only [hl915000_69]); (try simp only [hl915001_69]); (with_reducible repeat (first | refine blk_drewN ?_ _ | refine blk_drew ?_ | refine blk_alloc ?_ _)); exact BK907.out⟩, ⟨by (try simp only [hl915000_69]); (try simp only [hl915001_69]); (with_reducible repeat (first | refine blk_drewN ?_ _ | refine blk_drew ?_ | refine blk_alloc ?_ _)); exact BK914.out⟩, ⟨by (try simp only [hl915000_69]); (try simp only [hl915001_69]); (with_reducible repeat (first | refine blk_drewN ?_ _ | refine blk_drew ?_ | refine blk_alloc ?_ _)); exact BK924.out⟩, ⟨by repeat (first | (with_reducible first | exact HB.out | apply below_alloc | apply pw_below_drewN | apply below_drew1 | refine below_set ?_ GE890.out | refine below_set ?_ GE907.out | refine below_set ?_ GE914.out | refine below_set ?_ GE924.out) | exact HB.out)⟩⟩
             case rest =>
              clear HC87
              try clear c1
              try clear c2
              try clear p2
              try clear c3
              try clear c4
              try clear c5
              try clear c5b0
              try clear c5b1
              try clear c6
              try clear c7
              try clear c8
              try clear c10
              try clear c10b0
              try clear c14
              try clear c17
              try clear c18
              try clear c22
              try clear c24
              try clear c28
              try clear c34
              try clear c35
              try clear c36
              try clear c38
              try clear c39
              try clear c40
              try clear c45
              try clear c46
              try clear c47
              try clear c52
              try clear c61
              try clear c67
              try clear c71
              try clear c72
              try clear c73
              try clear c77
              try clear c77b0
              try clear c79
              try clear c80
              try clear c81
              try clear c83
              try clear c84
              try clear c88
              try clear hcz19_0
              try clear hcz19_1
              try clear hcz29_0
              try clear hcz29_1
              try clear hcz31_0
              try clear hcz31_1
              try clear hcz37_0
              try clear hcz37_1
              try clear hcz40_0
              try clear hcz40_1
              try clear hcz48_0
              try clear hcz48_1
              try clear hcz50_0
              try clear hcz50_1
              try clear hcz74_0
              try clear hcz74_1
              try clear hcz82_0
              try clear hcz82_1
              try clear hcz85_0
              try clear hcz85_1
              try clear hcz8_0
              try clear hcz8_1
              try clear hfz19_0
              try clear hfz19_1
              try clear hfz29_0
              try clear hfz29_1
              try clear hfz31_0
              try clear hfz31_1
              try clear hfz37_0
              try clear hfz37_1
              try clear hfz40_0
              try clear hfz40_1
              try clear hfz48_0
              try clear hfz48_1
              try clear hfz50_0
              try clear hfz50_1
              try clear hfz74_0
              try clear hfz74_1
              try clear hfz82_0
              try clear hfz82_1
              try clear hfz85_0
              try clear hfz85_1
              try clear hfz8_0
              try clear hfz8_1
              try clear p2
              obtain ⟨kq, HA, HJ86, HO_908000, HO_908001, HO_915000, HO_915001, HO_925000, HO_925001, BK890, BK907, BK914, BK924, HB⟩ := hcut
              cases kq with
              | zero => exact absurd HA.out (by simp [laws_FnExactSecCut.j6])
              | succ kj86 =>
               have H := HA.out
               clear HA
               simp only [laws_FnExactSecCut.j6] at H
               replace H := Option.bind_eq_some_iff.mp H
               obtain ⟨⟨t943, t944, t945⟩, A890, H⟩ := H
               replace H : ((laws_heldSecDisk.f kj86 t944 t945 1).bind fun t946 => (if t946 < 0 then (some false) else (laws_FnExactSecCut.j7 kj86 l1 t943 t946 l0_0 l0_1 t901 t904 t944 t945))) = some r := H
               have A89 := Aside0.mk A890
               clear A890
               replace H := Option.bind_eq_some_iff.mp H
               obtain ⟨t946, A900, H⟩ := H
               replace H : (if t946 < 0 then (some false) else (laws_FnExactSecCut.j7 kj86 l1 t943 t946 l0_0 l0_1 t901 t904 t944 t945)) = some r := H
               have A90 := Aside0.mk A900
               clear A900
               have HC91 := Aside0.mk H
               clear H
               have hnb92 := NB924_890.out
               have hnc92 := NB890_924.out
               have hnb93 := NB924_907.out
               have hnc93 := NB907_924.out
               have hnb94 := NB924_914.out
               have hnc94 := NB914_924.out
               have hcz95_0 : wc.cell? ⟨gb924, 0, none⟩ = some (.slice Ao44 t918.length co44) := (blk_cell BK924.out 0).trans rfl
               have hcz95_1 : wc.cell? ⟨gb924, 1, none⟩ = some (.slice Ao49 t921.length co49) := (blk_cell BK924.out 1).trans rfl
               have hfz95_0 := blk_frozen BK924.out 0
               have hfz95_1 := blk_frozen BK924.out 1
               go_upto_if 69 with (first | ((with_reducible refine gate_callee (f := 18) rfl ?_); refine goesL_ (some 64) rfl rfl Try.func18 (by kernel_rfl) rfl #[.agg #[.slice Ao44 t918.length co44, .slice Ao49 t921.length co49], .int .i64 1] rfl bM ?_; (with_reducible refine (laws_markSecDisk.calls kj86 (fun k_ => some k_ = (.slice Ao44 t918.length co44 : Value).ownBlock) (.slice Ao44 t918.length co44) t918 (fun k_ => some k_ = (.slice Ao49 t921.length co49 : Value).ownBlock) (.slice Ao49 t921.length co49) t921 1 t943 t944 t945 w _ ?side1 ?side2 ?side3 A89.out).mono ?_); (case side1 => repeat (first | (with_reducible first | exact HB.out | apply below_alloc | apply pw_below_drewN | apply below_drew1 | refine below_set ?_ GE890.out | refine below_set ?_ GE907.out | refine below_set ?_ GE914.out | refine below_set ?_ GE924.out) | exact HB.out)); (case side2 => exact Kd.R_tight rfl HO_925000.out); (case side3 => exact Kd.R_tight rfl HO_925001.out); rintro e w96 ⟨rfl, hy0, hy1, hb, hkp⟩; refine ⟨_, rfl, ?_⟩; have n0_ := Aside0.mk (Kd.R_mono (ok' := fun k_ => some k_ ≠ (.slice Ao34 t938.length co34 : Value).ownBlock ∧ some k_ ≠ (.slice Ao44 t918.length co44 : Value).ownBlock) (Kd.R_keptB ((Kd.R_apart' HO_908000.out (Kd.R_typed HO_925001.out) (by decide))) hkp (fun k_ hk_ hs_ => Or.elim hs_ (fun e_ => (hk_.1.2) e_) (fun e_ => (hk_.2) e_))) (fun k_ hk_ => ⟨hk_.1.1.1, hk_.1.1.2⟩)); have n1_ := Aside0.mk (Kd.R_mono (ok' := fun k_ => some k_ ≠ (.slice Ao38 t939.length co38 : Value).ownBlock ∧ some k_ ≠ (.slice Ao49 t921.length co49 : Value).ownBlock) (Kd.R_keptB ((Kd.R_apart' HO_908001.out (Kd.R_typed HO_925000.out) (by decide))) hkp (fun k_ hk_ hs_ => Or.elim hs_ (fun e_ => (hk_.2) e_) (fun e_ => (hk_.1.2) e_))) (fun k_ hk_ => ⟨hk_.1.1.1, hk_.1.1.2⟩)); have n2_ := Aside0.mk (Kd.R_mono (ok' := fun k_ => some k_ ≠ (.slice Ao27 t901.length co27 : Value).ownBlock ∧ some k_ ≠ (.slice Ao44 t918.length co44 : Value).ownBlock) (Kd.R_keptB ((Kd.R_apart' HO_915000.out (Kd.R_typed HO_925001.out) (by decide))) hkp (fun k_ hk_ hs_ => Or.elim hs_ (fun e_ => (hk_.1.2) e_) (fun e_ => (hk_.2) e_))) (fun k_ hk_ => ⟨hk_.1.1.1, hk_.1.1.2⟩)); have n3_ := Aside0.mk (Kd.R_mono (ok' := fun k_ => some k_ ≠ (.slice Ao30 t904.length co30 : Value).ownBlock ∧ some k_ ≠ (.slice Ao49 t921.length co49 : Value).ownBlock) (Kd.R_keptB ((Kd.R_apart' HO_915001.out (Kd.R_typed HO_925000.out) (by decide))) hkp (fun k_ hk_ hs_ => Or.elim hs_ (fun e_ => (hk_.2) e_) (fun e_ => (hk_.1.2) e_))) (fun k_ hk_ => ⟨hk_.1.1.1, hk_.1.1.2⟩)); have n4_ := Aside0.mk (Kd.R_reok rfl hy0 (fun k_ e_ => HO_925000.out.1 k_ e_)); have n5_ := Aside0.mk (Kd.R_reok rfl hy1 (fun k_ e_ => HO_925001.out.1 k_ e_)); have n6_ := Aside0.mk (blk_kept (pK BK890.out) hkp (fun hs_ => Or.elim hs_ (fun e_ => (fun e_ => (Kd.R_ne HO_925000.out BK890.out (by decide)) e_) e_) (fun e_ => (fun e_ => (Kd.R_ne HO_925001.out BK890.out (by decide)) e_) e_))); have n7_ := Aside0.mk (blk_kept (pK BK907.out) hkp (fun hs_ => Or.elim hs_ (fun e_ => (fun e_ => (Kd.R_ne HO_925000.out BK907.out (by decide)) e_) e_) (fun e_ => (fun e_ => (Kd.R_ne HO_925001.out BK907.out (by decide)) e_) e_))); have n8_ := Aside0.mk (blk_kept (pK BK914.out) hkp (fun hs_ => Or.elim hs_ (fun e_ => (fun e_ => (Kd.R_ne HO_925000.out BK914.out (by decide)) e_) e_) (fun e_ => (fun e_ => (Kd.R_ne HO_925001.out BK914.out (by decide)) e_) e_))); have n9_ := Aside0.mk (blk_kept (pK BK924.out) hkp (fun hs_ => Or.elim hs_ (fun e_ => (fun e_ => (Kd.R_ne HO_925000.out BK924.out (by decide)) e_) e_) (fun e_ => (fun e_ => (Kd.R_ne HO_925001.out BK924.out (by decide)) e_) e_))); have n10_ := Aside0.mk (hb); clear HO_908000; clear HO_908001; clear HO_915000; clear HO_915001; clear HO_925000; clear HO_925001; clear BK890; clear BK907; clear BK914; clear BK924; clear HB; have HO_908000 := n0_; have HO_908001 := n1_; have HO_915000 := n2_; have HO_915001 := n3_; have HO_925000 := n4_; have HO_925001 := n5_; have BK890 := n6_; have BK907 := n7_; have BK914 := n8_; have BK924 := n9_; have HB := n10_; clear n0_ n1_ n2_ n3_ n4_ n5_ n6_ n7_ n8_ n9_ n10_; (try clear hb); (try clear hkp); (try clear hy0); (try clear hy1); have hcz97_0 : w96.cell? ⟨gb924, 0, none⟩ = some (.slice Ao44 t918.length co44) := (blk_cell BK924.out 0).trans rfl; have hcz97_1 : w96.cell? ⟨gb924, 1, none⟩ = some (.slice Ao49 t921.length co49) := (blk_cell BK924.out 1).trans rfl; have hfz97_0 := blk_frozen BK924.out 0; have hfz97_1 := blk_frozen BK924.out 1) | ((with_reducible refine gate_callee (f := 19) rfl ?_); refine goesL_ (some 67) rfl rfl Try.func19 (by kernel_rfl) rfl #[.agg #[.slice Ao44 t944.length co44, .slice Ao49 t945.length co49], .int .i64 1] rfl (by (try simp only [List.map_toArray, List.map_cons, List.map_nil]); first | done | (rw [show t944.length = t918.length from (Kd.R_reads' HO_925000.out).1.symm, show t945.length = t921.length from (Kd.R_reads' HO_925001.out).1.symm] <;> rfl) | rfl | (simp only [List.length_drop, List.length_take]; rfl)) ?_; (with_reducible refine (laws_heldSecDisk.calls kj86 _ _ t944 _ _ t945 1 t946 _ ?side1 ?side2 ?side3 ?side4 A90.out).mono ?_); (case side1 => exact pC (Kd.R_reads' HO_925000.out).2.2); (case side2 => rw [show t944.length = t918.length from (Kd.R_reads' HO_925000.out).1.symm]; exact (Kd.R_reads' HO_925000.out).2.1); (case side3 => exact pC (Kd.R_reads' HO_925001.out).2.2); (case side4 => rw [show t945.length = t921.length from (Kd.R_reads' HO_925001.out).1.symm]; exact (Kd.R_reads' HO_925001.out).2.1); rintro e w98 ⟨rfl, hb⟩; refine ⟨_, rfl, ?_⟩; have n0_ := Aside0.mk (Kd.R_below (pR HO_908000.out) hb); have n1_ := Aside0.mk (Kd.R_below (pR HO_908001.out) hb); have n2_ := Aside0.mk (Kd.R_below (pR HO_915000.out) hb); have n3_ := Aside0.mk (Kd.R_below (pR HO_915001.out) hb); have n4_ := Aside0.mk (Kd.R_below (pR HO_925000.out) hb); have n5_ := Aside0.mk (Kd.R_below (pR HO_925001.out) hb); have n6_ := Aside0.mk (blk_below (g := gb890) (o := .cells #[.slice A0_0 l0_0.length c0_0, .slice A0_1 l0_1.length c0_1] 34 (0, 0)) (pK BK890.out) hb); have n7_ := Aside0.mk (blk_below (g := gb907) (o := .cells #[.slice Ao27 t901.length co27, .slice Ao30 t904.length co30] 26 (0, 0)) (pK BK907.out) hb); have n8_ := Aside0.mk (blk_below (g := gb914) (o := .cells #[.slice Ao34 t938.length co34, .slice Ao38 t939.length co38] 26 (0, 0)) (pK BK914.out) hb); have n9_ := Aside0.mk (blk_below (g := gb924) (o := .cells #[.slice Ao44 t918.length co44, .slice Ao49 t921.length co49] 26 (0, 0)) (pK BK924.out) hb); have n10_ := Aside0.mk (below_step (by repeat (first | (with_reducible first | exact HB.out | apply below_alloc | apply pw_below_drewN | apply below_drew1 | refine below_set ?_ GE890.out | refine below_set ?_ GE907.out | refine below_set ?_ GE914.out | refine below_set ?_ GE924.out) | exact HB.out)) hb); clear HO_908000; clear HO_908001; clear HO_915000; clear HO_915001; clear HO_925000; clear HO_925001; clear BK890; clear BK907; clear BK914; clear BK924; clear HB; have HO_908000 := n0_; have HO_908001 := n1_; have HO_915000 := n2_; have HO_915001 := n3_; have HO_925000 := n4_; have HO_925001 := n5_; have BK890 := n6_; have BK907 := n7_; have BK914 := n8_; have BK924 := n9_; have HB := n10_; clear n0_ n1_ n2_ n3_ n4_ n5_ n6_ n7_ n8_ n9_ n10_; (try clear hb); (try clear hb2); (try clear hk); (try clear hi)))
               (try simp only [Act.put, List.setIfInBounds_toArray, List.set_cons_zero, List.set_cons_succ])
               go_cut [] (fun wc => ∃ (kq : Nat), Aside0 (laws_FnExactSecCut.j7 kq l1 t943 t946 l0_0 l0_1 t901 t904 t944 t945 = some r) ∧ Aside0 (kq ≤ kj86) ∧ Aside0 (Kd.R Kd.string 9 wc w.heap.size (fun k_ => some k_ ≠ ((.slice Ao34 t938.length co34) : Value).ownBlock ∧ some k_ ≠ ((.slice Ao44 t918.length co44) : Value).ownBlock) (.slice Ao27 t901.length co27) t901) ∧ Aside0 (Kd.R k54 54 wc w.heap.size (fun k_ => some k_ ≠ ((.slice Ao38 t939.length co38) : Value).ownBlock ∧ some k_ ≠ ((.slice Ao49 t921.length co49) : Value).ownBlock) (.slice Ao30 t904.length co30) t904) ∧ Aside0 (Kd.R Kd.string 9 wc w.heap.size (fun k_ => some k_ ≠ ((.slice Ao27 t901.length co27) : Value).ownBlock ∧ some k_ ≠ ((.slice Ao44 t918.length co44) : Value).ownBlock) (.slice Ao34 t938.length co34) t938) ∧ Aside0 (Kd.R k54 54 wc w.heap.size (fun k_ => some k_ ≠ ((.slice Ao30 t904.length co30) : Value).ownBlock ∧ some k_ ≠ ((.slice Ao49 t921.length co49) : Value).ownBlock) (.slice Ao38 t939.length co38) t939) ∧ Aside0 (Kd.R Kd.string 9 wc w.heap.size (fun k_ => some k_ ≠ ((.slice Ao27 t901.length co27) : Value).ownBlock ∧ some k_ ≠ ((.slice Ao34 t938.length co34) : Value).ownBlock) (.slice Ao44 t918.length co44) t944) ∧ Aside0 (Kd.R k54 54 wc w.heap.size (fun k_ => some k_ ≠ ((.slice Ao30 t904.length co30) : Value).ownBlock ∧ some k_ ≠ ((.slice Ao38 t939.length co38) : Value).ownBlock) (.slice Ao49 t921.length co49) t945) ∧ Aside0 (wc.heap[gb890]? = some (.cells #[(.slice A0_0 l0_0.length c0_0), (.slice A0_1 l0_1.length c0_1)] 34 (0, 0))) ∧ Aside0 (wc.heap[gb907]? = some (.cells #[(.slice Ao27 t901.length co27), (.slice Ao30 t904.length co30)] 26 (0, 0))) ∧ Aside0 (wc.heap[gb914]? = some (.cells #[(.slice Ao34 t938.length co34), (.slice Ao38 t939.length co38)] 26 (0, 0))) ∧ Aside0 (wc.heap[gb924]? = some (.cells #[(.slice Ao44 t918.length co44), (.slice Ao49 t921.length co49)] 26 (0, 0))) ∧ Aside0 (Below w.heap.size w wc))
               case first =>
                have H := HC91.out
                clear HC91
                by_cases c99 : t946 < 0
                ·rw [if_pos c99] at H
                 have c99b0 : decide (t946 < 0) = true := decide_eq_true c99
                 clear c99
                 (first | rw [c99b0] | (simp only [i64_w, i32_w]; rw [c99b0]) | skip)
                 obtain rfl := Option.some.inj H
                 go_wp2
                 go_ret
                 exact ⟨by first | rfl | (simp [errW_none, errW_some] <;> rfl) | (simp [*, errW_none, errW_some] <;> rfl), by repeat (first | (with_reducible first | exact HB.out | apply below_alloc | apply pw_below_drewN | apply below_drew1 | refine below_set ?_ GE890.out | refine below_set ?_ GE907.out | refine below_set ?_ GE914.out | refine below_set ?_ GE924.out) | exact HB.out)⟩
                ·rw [if_neg c99] at H
                 have c99b0 : decide (t946 < 0) = false := decide_eq_false c99
                 clear c99
                 (first | rw [c99b0] | (simp only [i64_w, i32_w]; rw [c99b0]) | skip)
                 have H' := Aside0.mk H
                 clear H
                 go_wp2
                 go_meet
                 case rel => exact ⟨_, H', ⟨by have := HJ2.out; have := HJ6.out; have := HJ17.out; have := HJ54.out; have := HJ63.out; have := HJ69.out; have := HJ86.out; first | omega | exact Nat.le_refl _⟩, ⟨by (try simp only [hl915000_69]); (try simp only [hl915001_69]); (with_reducible repeat (first | apply Kd.R_alloc | apply Kd.R_drewN | apply Kd.R_drew)); exact HO_908000.out⟩, ⟨by (try simp only [hl915000_69]); (try simp only [hl915001_69]); (with_reducible repeat (first | apply Kd.R_alloc | apply Kd.R_drewN | apply Kd.R_drew)); exact HO_908001.out⟩, ⟨by (try simp only [hl915000_69]); (try simp only [hl915001_69]); (with_reducible repeat (first | apply Kd.R_alloc | apply Kd.R_drewN | apply Kd.R_drew)); exact HO_915000.out⟩, ⟨by (try simp only [hl915000_69]); (try simp only [hl915001_69]); (with_reducible repeat (first | apply Kd.R_alloc | apply Kd.R_drewN | apply Kd.R_drew)); exact HO_915001.out⟩, ⟨by (try simp only [hl915000_69]); (try simp only [hl915001_69]); (with_reducible repeat (first | apply Kd.R_alloc | apply Kd.R_drewN | apply Kd.R_drew)); exact HO_925000.out⟩, ⟨by (try simp only [hl915000_69]); (try simp only [hl915001_69]); (with_reducible repeat (first | apply Kd.R_alloc | apply Kd.R_drewN | apply Kd.R_drew)); exact HO_925001.out⟩, ⟨by (try simp only [hl915000_69]); (try simp only [hl915001_69]); (with_reducible repeat (first | refine blk_drewN ?_ _ | refine blk_drew ?_ | refine blk_alloc ?_ _)); exact BK890.out⟩, ⟨by (try simp only [hl915000_69]); (try simp only [hl915001_69]); (with_reducible repeat (first | refine blk_drewN ?_ _ | refine blk_drew ?_ | refine blk_alloc ?_ _)); exact BK907.out⟩, ⟨by (try simp only [hl915000_69]); (try simp only [hl915001_69]); (with_reducible repeat (first | refine blk_drewN ?_ _ | refine blk_drew ?_ | refine blk_alloc ?_ _)); exact BK914.out⟩, ⟨by (try simp only [hl915000_69]); (try simp only [hl915001_69]); (with_reducible repeat (first | refine blk_drewN ?_ _ | refine blk_drew ?_ | refine blk_alloc ?_ _)); exact BK924.out⟩, ⟨by repeat (first | (with_reducible first | exact HB.out | apply below_alloc | apply pw_below_drewN | apply below_drew1 | refine below_set ?_ GE890.out | refine below_set ?_ GE907.out | refine below_set ?_ GE914.out | refine below_set ?_ GE924.out) | exact HB.out)⟩⟩
               case rest =>
                clear HC91
                try clear c1
                try clear c2
                try clear p2
                try clear c3
                try clear c4
                try clear c5
                try clear c5b0
                try clear c5b1
                try clear c6
                try clear c7
                try clear c8
                try clear c9
                try clear c10
                try clear c10b0
                try clear c14
                try clear c17
                try clear c18
                try clear c19
                try clear c22
                try clear c24
                try clear c28
                try clear c34
                try clear c35
                try clear c36
                try clear c38
                try clear c39
                try clear c40
                try clear c45
                try clear c46
                try clear c47
                try clear c52
                try clear c61
                try clear c67
                try clear c71
                try clear c72
                try clear c73
                try clear c77
                try clear c77b0
                try clear c79
                try clear c80
                try clear c81
                try clear c83
                try clear c84
                try clear c88
                try clear c92
                try clear c93
                try clear c94
                try clear c99
                try clear c99b0
                try clear hcz19_0
                try clear hcz19_1
                try clear hcz29_0
                try clear hcz29_1
                try clear hcz31_0
                try clear hcz31_1
                try clear hcz37_0
                try clear hcz37_1
                try clear hcz40_0
                try clear hcz40_1
                try clear hcz48_0
                try clear hcz48_1
                try clear hcz50_0
                try clear hcz50_1
                try clear hcz74_0
                try clear hcz74_1
                try clear hcz82_0
                try clear hcz82_1
                try clear hcz85_0
                try clear hcz85_1
                try clear hcz8_0
                try clear hcz8_1
                try clear hcz95_0
                try clear hcz95_1
                try clear hcz97_0
                try clear hcz97_1
                try clear hfz19_0
                try clear hfz19_1
                try clear hfz29_0
                try clear hfz29_1
                try clear hfz31_0
                try clear hfz31_1
                try clear hfz37_0
                try clear hfz37_1
                try clear hfz40_0
                try clear hfz40_1
                try clear hfz48_0
                try clear hfz48_1
                try clear hfz50_0
                try clear hfz50_1
                try clear hfz74_0
                try clear hfz74_1
                try clear hfz82_0
                try clear hfz82_1
                try clear hfz85_0
                try clear hfz85_1
                try clear hfz8_0
                try clear hfz8_1
                try clear hfz95_0
                try clear hfz95_1
                try clear hfz97_0
                try clear hfz97_1
                try clear p2
                obtain ⟨kq, HA, HJ90, HO_908000, HO_908001, HO_915000, HO_915001, HO_925000, HO_925001, BK890, BK907, BK914, BK924, HB⟩ := hcut
                have hl925000_90 := (Kd.R_reads' HO_925000.out).1
                rw [hl925000_90] at HO_925000
                (try simp only [hl925000_90])
                (try simp only [hl925000_90] at BK890)
                (try simp only [hl925000_90] at BK907)
                (try simp only [hl925000_90] at BK914)
                (try simp only [hl925000_90] at BK924)
                (try simp only [hl925000_90] at HO_908000)
                (try simp only [hl925000_90] at HO_908001)
                (try simp only [hl925000_90] at HO_915000)
                (try simp only [hl925000_90] at HO_915001)
                (try simp only [hl925000_90] at HO_925001)
                have hl925001_90 := (Kd.R_reads' HO_925001.out).1
                rw [hl925001_90] at HO_925001
                (try simp only [hl925001_90])
                (try simp only [hl925001_90] at BK890)
                (try simp only [hl925001_90] at BK907)
                (try simp only [hl925001_90] at BK914)
                (try simp only [hl925001_90] at BK924)
                (try simp only [hl925001_90] at HO_908000)
                (try simp only [hl925001_90] at HO_908001)
                (try simp only [hl925001_90] at HO_915000)
                (try simp only [hl925001_90] at HO_915001)
                (try simp only [hl925001_90] at HO_925000)
                cases kq with
                | zero => exact absurd HA.out (by simp [laws_FnExactSecCut.j7])
                | succ kj90 =>
                 have H := HA.out
                 clear HA
                 simp only [laws_FnExactSecCut.j7] at H
                 have HC100 := Aside0.mk H
                 clear H
                 go_upto_if 72 with (fail)
                 go_cut [] (fun wc => ∃ (kq : Nat), Aside0 (laws_FnExactSecCut.j8 kq l1 t943 l0_0 l0_1 t901 t904 t944 t945 = some r) ∧ Aside0 (kq ≤ kj90) ∧ Aside0 (Kd.R Kd.string 9 wc w.heap.size (fun k_ => some k_ ≠ ((.slice Ao34 t938.length co34) : Value).ownBlock ∧ some k_ ≠ ((.slice Ao44 t944.length co44) : Value).ownBlock) (.slice Ao27 t901.length co27) t901) ∧ Aside0 (Kd.R k54 54 wc w.heap.size (fun k_ => some k_ ≠ ((.slice Ao38 t939.length co38) : Value).ownBlock ∧ some k_ ≠ ((.slice Ao49 t945.length co49) : Value).ownBlock) (.slice Ao30 t904.length co30) t904) ∧ Aside0 (Kd.R Kd.string 9 wc w.heap.size (fun k_ => some k_ ≠ ((.slice Ao27 t901.length co27) : Value).ownBlock ∧ some k_ ≠ ((.slice Ao44 t944.length co44) : Value).ownBlock) (.slice Ao34 t938.length co34) t938) ∧ Aside0 (Kd.R k54 54 wc w.heap.size (fun k_ => some k_ ≠ ((.slice Ao30 t904.length co30) : Value).ownBlock ∧ some k_ ≠ ((.slice Ao49 t945.length co49) : Value).ownBlock) (.slice Ao38 t939.length co38) t939) ∧ Aside0 (Kd.R Kd.string 9 wc w.heap.size (fun k_ => some k_ ≠ ((.slice Ao27 t901.length co27) : Value).ownBlock ∧ some k_ ≠ ((.slice Ao34 t938.length co34) : Value).ownBlock) (.slice Ao44 t944.length co44) t944) ∧ Aside0 (Kd.R k54 54 wc w.heap.size (fun k_ => some k_ ≠ ((.slice Ao30 t904.length co30) : Value).ownBlock ∧ some k_ ≠ ((.slice Ao38 t939.length co38) : Value).ownBlock) (.slice Ao49 t945.length co49) t945) ∧ Aside0 (wc.heap[gb890]? = some (.cells #[(.slice A0_0 l0_0.length c0_0), (.slice A0_1 l0_1.length c0_1)] 34 (0, 0))) ∧ Aside0 (wc.heap[gb907]? = some (.cells #[(.slice Ao27 t901.length co27), (.slice Ao30 t904.length co30)] 26 (0, 0))) ∧ Aside0 (wc.heap[gb914]? = some (.cells #[(.slice Ao34 t938.length co34), (.slice Ao38 t939.length co38)] 26 (0, 0))) ∧ Aside0 (wc.heap[gb924]? = some (.cells #[(.slice Ao44 t944.length co44), (.slice Ao49 t945.length co49)] 26 (0, 0))) ∧ Aside0 (Below w.heap.size w wc))
                 case first =>
                  have H := HC100.out
                  clear HC100
                  by_cases c101 : t946 = t943
                  ·rw [if_pos c101] at H
                   have c101b0 : (t946 == t943) = true := beq_iff_eq.mpr c101
                   have c101b1 : (t946 != t943) = false := bne_eq_false_iff_eq.mpr c101
                   clear c101
                   (first | rw [c101b0] | (simp only [i64_w, i32_w]; rw [c101b0]) | skip)
                   have H' := Aside0.mk H
                   clear H
                   go_wp2
                   go_meet
                   case rel => exact ⟨_, H', ⟨by have := HJ2.out; have := HJ6.out; have := HJ17.out; have := HJ54.out; have := HJ63.out; have := HJ69.out; have := HJ86.out; have := HJ90.out; first | omega | exact Nat.le_refl _⟩, ⟨by (try simp only [hl915000_69]); (try simp only [hl915001_69]); (try simp only [hl925000_90]); (try simp only [hl925001_90]); (with_reducible repeat (first | apply Kd.R_alloc | apply Kd.R_drewN | apply Kd.R_drew)); exact HO_908000.out⟩, ⟨by (try simp only [hl915000_69]); (try simp only [hl915001_69]); (try simp only [hl925000_90]); (try simp only [hl925001_90]); (with_reducible repeat (first | apply Kd.R_alloc | apply Kd.R_drewN | apply Kd.R_drew)); exact HO_908001.out⟩, ⟨by (try simp only [hl915000_69]); (try simp only [hl915001_69]); (try simp only [hl925000_90]); (try simp only [hl925001_90]); (with_reducible repeat (first | apply Kd.R_alloc | apply Kd.R_drewN | apply Kd.R_drew)); exact HO_915000.out⟩, ⟨by (try simp only [hl915000_69]); (try simp only [hl915001_69]); (try simp only [hl925000_90]); (try simp only [hl925001_90]); (with_reducible repeat (first | apply Kd.R_alloc | apply Kd.R_drewN | apply Kd.R_drew)); exact HO_915001.out⟩, ⟨by (try simp only [hl915000_69]); (try simp only [hl915001_69]); (try simp only [hl925000_90]); (try simp only [hl925001_90]); (with_reducible repeat (first | apply Kd.R_alloc | apply Kd.R_drewN | apply Kd.R_drew)); exact HO_925000.out⟩, ⟨by (try simp only [hl915000_69]); (try simp only [hl915001_69]); (try simp only [hl925000_90]); (try simp only [hl925001_90]); (with_reducible repeat (first | apply Kd.R_alloc | apply Kd.R_drewN | apply Kd.R_drew)); exact HO_925001.out⟩, ⟨by (try simp only [hl915000_69]); (try simp only [hl915001_69]); (try simp only [hl925000_90]); (try simp only [hl925001_90]); (with_reducible repeat (first | refine blk_drewN ?_ _ | refine blk_drew ?_ | refine blk_alloc ?_ _)); exact BK890.out⟩, ⟨by (try simp only [hl915000_69]); (try simp only [hl915001_69]); (try simp only [hl925000_90]); (try simp only [hl925001_90]); (with_reducible repeat (first | refine blk_drewN ?_ _ | refine blk_drew ?_ | refine blk_alloc ?_ _)); exact BK907.out⟩, ⟨by (try simp only [hl915000_69]); (try simp only [hl915001_69]); (try simp only [hl925000_90]); (try simp only [hl925001_90]); (with_reducible repeat (first | refine blk_drewN ?_ _ | refine blk_drew ?_ | refine blk_alloc ?_ _)); exact BK914.out⟩, ⟨by (try simp only [hl915000_69]); (try simp only [hl915001_69]); (try simp only [hl925000_90]); (try simp only [hl925001_90]); (with_reducible repeat (first | refine blk_drewN ?_ _ | refine blk_drew ?_ | refine blk_alloc ?_ _)); exact BK924.out⟩, ⟨by repeat (first | (with_reducible first | exact HB.out | apply below_alloc | apply pw_below_drewN | apply below_drew1 | refine below_set ?_ GE890.out | refine below_set ?_ GE907.out | refine below_set ?_ GE914.out | refine below_set ?_ GE924.out) | exact HB.out)⟩⟩
                  ·rw [if_neg c101] at H
                   have c101b0 : (t946 == t943) = false := beq_eq_false_iff_ne.mpr c101
                   have c101b1 : (t946 != t943) = true := bne_iff_ne.mpr c101
                   (first | rw [c101b0] | (simp only [i64_w, i32_w]; rw [c101b0]) | skip)
                   obtain rfl := Option.some.inj H
                   go_wp2
                   go_ret
                   exact ⟨by first | rfl | (simp [errW_none, errW_some] <;> rfl) | (simp [*, errW_none, errW_some] <;> rfl), by repeat (first | (with_reducible first | exact HB.out | apply below_alloc | apply pw_below_drewN | apply below_drew1 | refine below_set ?_ GE890.out | refine below_set ?_ GE907.out | refine below_set ?_ GE914.out | refine below_set ?_ GE924.out) | exact HB.out)⟩
                 case rest =>
                  clear HC100
                  try clear c1
                  try clear c2
                  try clear p2
                  try clear c3
                  try clear c4
                  try clear c5
                  try clear c5b0
                  try clear c5b1
                  try clear c6
                  try clear c7
                  try clear c8
                  try clear c9
                  try clear c10
                  try clear c10b0
                  try clear c14
                  try clear c17
                  try clear c18
                  try clear c19
                  try clear c22
                  try clear c24
                  try clear c28
                  try clear c34
                  try clear c35
                  try clear c36
                  try clear c38
                  try clear c39
                  try clear c40
                  try clear c45
                  try clear c46
                  try clear c47
                  try clear c52
                  try clear c61
                  try clear c67
                  try clear c71
                  try clear c72
                  try clear c73
                  try clear c77
                  try clear c77b0
                  try clear c79
                  try clear c80
                  try clear c81
                  try clear c83
                  try clear c84
                  try clear c88
                  try clear c92
                  try clear c93
                  try clear c94
                  try clear c99
                  try clear c99b0
                  try clear c101
                  try clear c101b0
                  try clear c101b1
                  try clear hcz19_0
                  try clear hcz19_1
                  try clear hcz29_0
                  try clear hcz29_1
                  try clear hcz31_0
                  try clear hcz31_1
                  try clear hcz37_0
                  try clear hcz37_1
                  try clear hcz40_0
                  try clear hcz40_1
                  try clear hcz48_0
                  try clear hcz48_1
                  try clear hcz50_0
                  try clear hcz50_1
                  try clear hcz74_0
                  try clear hcz74_1
                  try clear hcz82_0
                  try clear hcz82_1
                  try clear hcz85_0
                  try clear hcz85_1
                  try clear hcz8_0
                  try clear hcz8_1
                  try clear hcz95_0
                  try clear hcz95_1
                  try clear hcz97_0
                  try clear hcz97_1
                  try clear hfz19_0
                  try clear hfz19_1
                  try clear hfz29_0
                  try clear hfz29_1
                  try clear hfz31_0
                  try clear hfz31_1
                  try clear hfz37_0
                  try clear hfz37_1
                  try clear hfz40_0
                  try clear hfz40_1
                  try clear hfz48_0
                  try clear hfz48_1
                  try clear hfz50_0
                  try clear hfz50_1
                  try clear hfz74_0
                  try clear hfz74_1
                  try clear hfz82_0
                  try clear hfz82_1
                  try clear hfz85_0
                  try clear hfz85_1
                  try clear hfz8_0
                  try clear hfz8_1
                  try clear hfz95_0
                  try clear hfz95_1
                  try clear hfz97_0
                  try clear hfz97_1
                  try clear p2
                  obtain ⟨kq, HA, HJ99, HO_908000, HO_908001, HO_915000, HO_915001, HO_925000, HO_925001, BK890, BK907, BK914, BK924, HB⟩ := hcut
                  cases kq with
                  | zero => exact absurd HA.out (by simp [laws_FnExactSecCut.j8])
                  | succ kj99 =>
                   have H := HA.out
                   clear HA
                   simp only [laws_FnExactSecCut.j8] at H
                   replace H := Option.bind_eq_some_iff.mp H
                   obtain ⟨⟨t947, t950⟩, A1020, H⟩ := H
                   replace H : ((laws_toIntS.f kj99 l1).bind fun t953 => ((impl_SecCut.f kj99 t947 t950 t953).bind fun bt956 => ((laws_eqSecDisk.f kj99 bt956.1 bt956.2 t901 t904).bind fun t963 => (if t963 = true then (laws_FnExactSecCut.j9 kj99 t943 t944 t945) else (some false))))) = some r := H
                   have A102 := Aside0.mk A1020
                   clear A1020
                   replace H := Option.bind_eq_some_iff.mp H
                   obtain ⟨t953, A1030, H⟩ := H
                   replace H : ((impl_SecCut.f kj99 t947 t950 t953).bind fun bt956 => ((laws_eqSecDisk.f kj99 bt956.1 bt956.2 t901 t904).bind fun t963 => (if t963 = true then (laws_FnExactSecCut.j9 kj99 t943 t944 t945) else (some false)))) = some r := H
                   have A103 := Aside0.mk A1030
                   clear A1030
                   replace H := Option.bind_eq_some_iff.mp H
                   obtain ⟨⟨t956, t959⟩, A1040, H⟩ := H
                   replace H : ((laws_eqSecDisk.f kj99 t956 t959 t901 t904).bind fun t963 => (if t963 = true then (laws_FnExactSecCut.j9 kj99 t943 t944 t945) else (some false))) = some r := H
                   have A104 := Aside0.mk A1040
                   clear A1040
                   replace H := Option.bind_eq_some_iff.mp H
                   obtain ⟨t963, A1050, H⟩ := H
                   replace H : (if t963 = true then (laws_FnExactSecCut.j9 kj99 t943 t944 t945) else (some false)) = some r := H
                   have A105 := Aside0.mk A1050
                   clear A1050
                   have HC106 := Aside0.mk H
                   clear H
                   have hnb107 := NB890_907.out
                   have hnc107 := NB907_890.out
                   have hnb108 := NB890_914.out
                   have hnc108 := NB914_890.out
                   have hnb109 := NB890_924.out
                   have hnc109 := NB924_890.out
                   have hcz110_0 : wc.cell? ⟨gb890, 0, none⟩ = some (.slice A0_0 l0_0.length c0_0) := (blk_cell BK890.out 0).trans rfl
                   have hcz110_1 : wc.cell? ⟨gb890, 1, none⟩ = some (.slice A0_1 l0_1.length c0_1) := (blk_cell BK890.out 1).trans rfl
                   have hfz110_0 := blk_frozen BK890.out 0
                   have hfz110_1 := blk_frozen BK890.out 1
                   go_upto_if 81 with (first | ((with_reducible refine gate_callee (f := 24) rfl ?_); refine goesL_ (some 74) rfl rfl Try.func24 (by kernel_rfl) rfl #[.agg #[.slice A0_0 l0_0.length c0_0, .slice A0_1 l0_1.length c0_1]] rfl bM ?_; (with_reducible refine (laws_toSecDisk.calls kj99 _ _ l0_0 _ _ l0_1 t947 t950 _ ?side1 ?side2 ?side3 ?side4 A102.out).mono ?_); (case side1 => repeat (first | exact (Kd.C_below HR0_0.out HB.out) | (with_reducible refine Kd.C_alloc ?_ _) | (with_reducible refine Kd.C_drewN ?_ _) | (with_reducible refine Kd.C_drew ?_))); (case side2 => exact HC0_0.out); (case side3 => repeat (first | exact (Kd.C_below HR0_1.out HB.out) | (with_reducible refine Kd.C_alloc ?_ _) | (with_reducible refine Kd.C_drewN ?_ _) | (with_reducible refine Kd.C_drew ?_))); (case side4 => exact HC0_1.out); rintro e w111 ⟨v948, v951, rfl, ho0, ho1, hb⟩; refine ⟨_, rfl, ?_⟩; have n0_ := Aside0.mk (Kd.R_elder' (pR HO_908000.out) (Kd.R_base ho0) hb); have n1_ := Aside0.mk (Kd.R_elder' (pR HO_908001.out) (Kd.R_base ho1) hb); have n2_ := Aside0.mk (Kd.R_elder' (pR HO_915000.out) (Kd.R_base ho0) hb); have n3_ := Aside0.mk (Kd.R_elder' (pR HO_915001.out) (Kd.R_base ho1) hb); have n4_ := Aside0.mk (Kd.R_elder' (pR HO_925000.out) (Kd.R_base ho0) hb); have n5_ := Aside0.mk (Kd.R_elder' (pR HO_925001.out) (Kd.R_base ho1) hb); have n6_ := Aside0.mk (Kd.R_lower (Kd.R_new' (Kd.R_new' (Kd.R_new' ho0 (Kd.R_lt (pR HO_908000.out))) (Kd.R_lt (pR HO_915000.out))) (Kd.R_lt (pR HO_925000.out))) (below_size (by repeat (first | (with_reducible first | exact HB.out | apply below_alloc | apply pw_below_drewN | apply below_drew1 | refine below_set ?_ GE890.out | refine below_set ?_ GE907.out | refine below_set ?_ GE914.out | refine below_set ?_ GE924.out) | exact HB.out)))); have n7_ := Aside0.mk (Kd.R_lower (Kd.R_new' (Kd.R_new' (Kd.R_new' ho1 (Kd.R_lt (pR HO_908001.out))) (Kd.R_lt (pR HO_915001.out))) (Kd.R_lt (pR HO_925001.out))) (below_size (by repeat (first | (with_reducible first | exact HB.out | apply below_alloc | apply pw_below_drewN | apply below_drew1 | refine below_set ?_ GE890.out | refine below_set ?_ GE907.out | refine below_set ?_ GE914.out | refine below_set ?_ GE924.out) | exact HB.out)))); have n8_ := Aside0.mk (blk_below (g := gb890) (o := .cells #[.slice A0_0 l0_0.length c0_0, .slice A0_1 l0_1.length c0_1] 34 (0, 0)) (pK BK890.out) hb); have n9_ := Aside0.mk (blk_below (g := gb907) (o := .cells #[.slice Ao27 t901.length co27, .slice Ao30 t904.length co30] 26 (0, 0)) (pK BK907.out) hb); have n10_ := Aside0.mk (blk_below (g := gb914) (o := .cells #[.slice Ao34 t938.length co34, .slice Ao38 t939.length co38] 26 (0, 0)) (pK BK914.out) hb); have n11_ := Aside0.mk (blk_below (g := gb924) (o := .cells #[.slice Ao44 t944.length co44, .slice Ao49 t945.length co49] 26 (0, 0)) (pK BK924.out) hb); have n12_ := Aside0.mk (below_step (by repeat (first | (with_reducible first | exact HB.out | apply below_alloc | apply pw_below_drewN | apply below_drew1 | refine below_set ?_ GE890.out | refine below_set ?_ GE907.out | refine below_set ?_ GE914.out | refine below_set ?_ GE924.out) | exact HB.out)) hb); clear HO_908000; clear HO_908001; clear HO_915000; clear HO_915001; clear HO_925000; clear HO_925001; clear BK890; clear BK907; clear BK914; clear BK924; clear HB; have HO_908000 := n0_; have HO_908001 := n1_; have HO_915000 := n2_; have HO_915001 := n3_; have HO_925000 := n4_; have HO_925001 := n5_; have HO949 := n6_; have HO952 := n7_; have BK890 := n8_; have BK907 := n9_; have BK914 := n10_; have BK924 := n11_; have HB := n12_; clear n0_ n1_ n2_ n3_ n4_ n5_ n6_ n7_ n8_ n9_ n10_ n11_ n12_; (try clear hb); (try clear hb2); (try clear hk); (try clear hi); (try clear ho0); (try clear ho1)) | ((with_reducible refine gate_callee (f := 38) rfl ?_); refine goesL_ (some 76) rfl rfl Try.func38 (by kernel_rfl) rfl #[.slice A1 l1.length c1] rfl bM ?_; (with_reducible refine (laws_toIntS.calls kj99 _ _ l1 t953 _ ?side1 ?side2 A103.out).mono ?_); (case side1 => repeat (first | exact (Kd.C_below HR1.out HB.out) | (with_reducible refine Kd.C_alloc ?_ _) | (with_reducible refine Kd.C_drewN ?_ _) | (with_reducible refine Kd.C_drew ?_))); (case side2 => exact HC1.out); rintro e w112 ⟨v954, rfl, ho0, hb⟩; refine ⟨_, rfl, ?_⟩; have n0_ := Aside0.mk (Kd.R_below (pR HO_908000.out) hb); have n1_ := Aside0.mk (Kd.R_below (pR HO_908001.out) hb); have n2_ := Aside0.mk (Kd.R_below (pR HO_915000.out) hb); have n3_ := Aside0.mk (Kd.R_below (pR HO_915001.out) hb); have n4_ := Aside0.mk (Kd.R_below (pR HO_925000.out) hb); have n5_ := Aside0.mk (Kd.R_below (pR HO_925001.out) hb); have n6_ := Aside0.mk (Kd.R_below (pR HO949.out) hb); have n7_ := Aside0.mk (Kd.R_below (pR HO952.out) hb); have n8_ := Aside0.mk (Kd.R_lower ho0 (below_size (by repeat (first | (with_reducible first | exact HB.out | apply below_alloc | apply pw_below_drewN | apply below_drew1 | refine below_set ?_ GE890.out | refine below_set ?_ GE907.out | refine below_set ?_ GE914.out | refine below_set ?_ GE924.out) | exact HB.out)))); have n9_ := Aside0.mk (blk_below (g := gb890) (o := .cells #[.slice A0_0 l0_0.length c0_0, .slice A0_1 l0_1.length c0_1] 34 (0, 0)) (pK BK890.out) hb); have n10_ := Aside0.mk (blk_below (g := gb907) (o := .cells #[.slice Ao27 t901.length co27, .slice Ao30 t904.length co30] 26 (0, 0)) (pK BK907.out) hb); have n11_ := Aside0.mk (blk_below (g := gb914) (o := .cells #[.slice Ao34 t938.length co34, .slice Ao38 t939.length co38] 26 (0, 0)) (pK BK914.out) hb); have n12_ := Aside0.mk (blk_below (g := gb924) (o := .cells #[.slice Ao44 t944.length co44, .slice Ao49 t945.length co49] 26 (0, 0)) (pK BK924.out) hb); have n13_ := Aside0.mk (below_step (by repeat (first | (with_reducible first | exact HB.out | apply below_alloc | apply pw_below_drewN | apply below_drew1 | refine below_set ?_ GE890.out | refine below_set ?_ GE907.out | refine below_set ?_ GE914.out | refine below_set ?_ GE924.out) | exact HB.out)) hb); clear HO_908000; clear HO_908001; clear HO_915000; clear HO_915001; clear HO_925000; clear HO_925001; clear HO949; clear HO952; clear BK890; clear BK907; clear BK914; clear BK924; clear HB; have HO_908000 := n0_; have HO_908001 := n1_; have HO_915000 := n2_; have HO_915001 := n3_; have HO_925000 := n4_; have HO_925001 := n5_; have HO949 := n6_; have HO952 := n7_; have HO955 := n8_; have BK890 := n9_; have BK907 := n10_; have BK914 := n11_; have BK924 := n12_; have HB := n13_; clear n0_ n1_ n2_ n3_ n4_ n5_ n6_ n7_ n8_ n9_ n10_ n11_ n12_ n13_; (try clear hb); (try clear hb2); (try clear hk); (try clear hi); (try clear ho0); obtain ⟨Ao113, co113, eo113⟩ := Kd.R_slice HO949.out; subst eo113; obtain ⟨Ao114, co114, eo114⟩ := Kd.R_slice HO952.out; subst eo114; obtain ⟨Ao115, co115, eo115⟩ := Kd.R_slice HO955.out; subst eo115) | ((with_reducible refine gate_callee (f := 35) rfl ?_); refine goesL_ (some 77) rfl rfl Try.func35 (by kernel_rfl) rfl #[.agg #[.slice Ao113 t947.length co113, .slice Ao114 t950.length co114], .slice Ao115 t953.length co115] rfl bM ?_; (with_reducible refine (impl_SecCut.calls kj99 _ _ t947 _ _ t950 _ _ t953 t956 t959 _ ?side1 ?side2 ?side3 ?side4 ?side5 ?side6 A104.out).mono ?_); (case side1 => exact pC (Kd.R_reads' HO949.out).2.2); (case side2 => exact (Kd.R_reads' HO949.out).2.1); (case side3 => exact pC (Kd.R_reads' HO952.out).2.2); (case side4 => exact (Kd.R_reads' HO952.out).2.1); (case side5 => exact pC (Kd.R_reads' HO955.out).2.2); (case side6 => exact (Kd.R_reads' HO955.out).2.1); rintro e w116 ⟨v957, v960, rfl, ho0, ho1, hb⟩; refine ⟨_, rfl, ?_⟩; have n0_ := Aside0.mk (Kd.R_elder' (pR HO_908000.out) (Kd.R_base ho0) hb); have n1_ := Aside0.mk (Kd.R_elder' (pR HO_908001.out) (Kd.R_base ho1) hb); have n2_ := Aside0.mk (Kd.R_elder' (pR HO_915000.out) (Kd.R_base ho0) hb); have n3_ := Aside0.mk (Kd.R_elder' (pR HO_915001.out) (Kd.R_base ho1) hb); have n4_ := Aside0.mk (Kd.R_elder' (pR HO_925000.out) (Kd.R_base ho0) hb); have n5_ := Aside0.mk (Kd.R_elder' (pR HO_925001.out) (Kd.R_base ho1) hb); have n6_ := Aside0.mk (Kd.R_elder' (pR HO949.out) (Kd.R_base ho0) hb); have n7_ := Aside0.mk (Kd.R_elder' (pR HO952.out) (Kd.R_base ho1) hb); have n8_ := Aside0.mk (Kd.R_below (pR HO955.out) hb); have n9_ := Aside0.mk (Kd.R_lower (Kd.R_new' (Kd.R_new' (Kd.R_new' (Kd.R_new' ho0 (Kd.R_lt (pR HO_908000.out))) (Kd.R_lt (pR HO_915000.out))) (Kd.R_lt (pR HO_925000.out))) (Kd.R_lt (pR HO949.out))) (below_size (by repeat (first | (with_reducible first | exact HB.out | apply below_alloc | apply pw_below_drewN | apply below_drew1 | refine below_set ?_ GE890.out | refine below_set ?_ GE907.out | refine below_set ?_ GE914.out | refine below_set ?_ GE924.out) | exact HB.out)))); have n10_ := Aside0.mk (Kd.R_lower (Kd.R_new' (Kd.R_new' (Kd.R_new' (Kd.R_new' ho1 (Kd.R_lt (pR HO_908001.out))) (Kd.R_lt (pR HO_915001.out))) (Kd.R_lt (pR HO_925001.out))) (Kd.R_lt (pR HO952.out))) (below_size (by repeat (first | (with_reducible first | exact HB.out | apply below_alloc | apply pw_below_drewN | apply below_drew1 | refine below_set ?_ GE890.out | refine below_set ?_ GE907.out | refine below_set ?_ GE914.out | refine below_set ?_ GE924.out) | exact HB.out)))); have n11_ := Aside0.mk (blk_below (g := gb890) (o := .cells #[.slice A0_0 l0_0.length c0_0, .slice A0_1 l0_1.length c0_1] 34 (0, 0)) (pK BK890.out) hb); have n12_ := Aside0.mk (blk_below (g := gb907) (o := .cells #[.slice Ao27 t901.length co27, .slice Ao30 t904.length co30] 26 (0, 0)) (pK BK907.out) hb); have n13_ := Aside0.mk (blk_below (g := gb914) (o := .cells #[.slice Ao34 t938.length co34, .slice Ao38 t939.length co38] 26 (0, 0)) (pK BK914.out) hb); have n14_ := Aside0.mk (blk_below (g := gb924) (o := .cells #[.slice Ao44 t944.length co44, .slice Ao49 t945.length co49] 26 (0, 0)) (pK BK924.out) hb); have n15_ := Aside0.mk (below_step (by repeat (first | (with_reducible first | exact HB.out | apply below_alloc | apply pw_below_drewN | apply below_drew1 | refine below_set ?_ GE890.out | refine below_set ?_ GE907.out | refine below_set ?_ GE914.out | refine below_set ?_ GE924.out) | exact HB.out)) hb); clear HO_908000; clear HO_908001; clear HO_915000; clear HO_915001; clear HO_925000; clear HO_925001; clear HO949; clear HO952; clear HO955; clear BK890; clear BK907; clear BK914; clear BK924; clear HB; have HO_908000 := n0_; have HO_908001 := n1_; have HO_915000 := n2_; have HO_915001 := n3_; have HO_925000 := n4_; have HO_925001 := n5_; have HO949 := n6_; have HO952 := n7_; have HO955 := n8_; have HO958 := n9_; have HO961 := n10_; have BK890 := n11_; have BK907 := n12_; have BK914 := n13_; have BK924 := n14_; have HB := n15_; clear n0_ n1_ n2_ n3_ n4_ n5_ n6_ n7_ n8_ n9_ n10_ n11_ n12_ n13_ n14_ n15_; (try clear hb); (try clear hb2); (try clear hk); (try clear hi); (try clear ho0); (try clear ho1)) | ((with_reducible refine gate_dst (N := 13) rfl ?_); refine box_event ?hg (N := 13) ?hd (cs := #[.slice none 0 0, .slice none 0 0]) (t := 26) ?hr ?_; (case hd => rfl); (case hg => rfl); (case hr => first | (go_simp; done) | (go_simp; rfl)); intro gb962 hg w117 hbox hb; have n0_ := Aside0.mk (Kd.R_below (pR HO_908000.out) hb); have n1_ := Aside0.mk (Kd.R_below (pR HO_908001.out) hb); have n2_ := Aside0.mk (Kd.R_below (pR HO_915000.out) hb); have n3_ := Aside0.mk (Kd.R_below (pR HO_915001.out) hb); have n4_ := Aside0.mk (Kd.R_below (pR HO_925000.out) hb); have n5_ := Aside0.mk (Kd.R_below (pR HO_925001.out) hb); have n6_ := Aside0.mk (Kd.R_below (pR HO949.out) hb); have n7_ := Aside0.mk (Kd.R_below (pR HO952.out) hb); have n8_ := Aside0.mk (Kd.R_below (pR HO955.out) hb); have n9_ := Aside0.mk (Kd.R_below (pR HO958.out) hb); have n10_ := Aside0.mk (Kd.R_below (pR HO961.out) hb); have n11_ := Aside0.mk (blk_below (g := gb890) (o := .cells #[.slice A0_0 l0_0.length c0_0, .slice A0_1 l0_1.length c0_1] 34 (0, 0)) (pK BK890.out) hb); have n12_ := Aside0.mk (blk_below (g := gb907) (o := .cells #[.slice Ao27 t901.length co27, .slice Ao30 t904.length co30] 26 (0, 0)) (pK BK907.out) hb); have n13_ := Aside0.mk (blk_below (g := gb914) (o := .cells #[.slice Ao34 t938.length co34, .slice Ao38 t939.length co38] 26 (0, 0)) (pK BK914.out) hb); have n14_ := Aside0.mk (blk_below (g := gb924) (o := .cells #[.slice Ao44 t944.length co44, .slice Ao49 t945.length co49] 26 (0, 0)) (pK BK924.out) hb); have n15_ := Aside0.mk (below_step (by repeat (first | (with_reducible first | exact HB.out | apply below_alloc | apply pw_below_drewN | apply below_drew1 | refine below_set ?_ GE890.out | refine below_set ?_ GE907.out | refine below_set ?_ GE914.out | refine below_set ?_ GE924.out) | exact HB.out)) hb); have n16_ := Aside0.mk (hbox); have n17_ := Aside0.mk ((by rw [hg]; exact (below_size (by repeat (first | (with_reducible first | exact HB.out | apply below_alloc | apply pw_below_drewN | apply below_drew1 | refine below_set ?_ GE890.out | refine below_set ?_ GE907.out | refine below_set ?_ GE914.out | refine below_set ?_ GE924.out) | exact HB.out))) : w.heap.size ≤ gb962)); have n18_ := Aside0.mk ((by rw [hg]; exact (below_size (by repeat (first | (with_reducible first | exact HB.out | apply below_alloc | apply pw_below_drewN | apply below_drew1 | refine below_set ?_ GE890.out | refine below_set ?_ GE907.out | refine below_set ?_ GE914.out | refine below_set ?_ GE924.out) | exact HB.out))) : w.heap.size ≤ gb962)); have n19_ := Aside0.mk ((by rw [hg]; exact Nat.ne_of_lt (blk_lt (g := gb890) (o := .cells #[.slice A0_0 l0_0.length c0_0, .slice A0_1 l0_1.length c0_1] 34 (0, 0)) (pK BK890.out)) : gb890 ≠ gb962)); have n20_ := Aside0.mk ((by rw [hg]; exact Nat.ne_of_gt (blk_lt (g := gb890) (o := .cells #[.slice A0_0 l0_0.length c0_0, .slice A0_1 l0_1.length c0_1] 34 (0, 0)) (pK BK890.out)) : gb962 ≠ gb890)); have n21_ := Aside0.mk ((by rw [hg]; exact Nat.ne_of_lt (blk_lt (g := gb907) (o := .cells #[.slice Ao27 t901.length co27, .slice Ao30 t904.length co30] 26 (0, 0)) (pK BK907.out)) : gb907 ≠ gb962)); have n22_ := Aside0.mk ((by rw [hg]; exact Nat.ne_of_gt (blk_lt (g := gb907) (o := .cells #[.slice Ao27 t901.length co27, .slice Ao30 t904.length co30] 26 (0, 0)) (pK BK907.out)) : gb962 ≠ gb907)); have n23_ := Aside0.mk ((by rw [hg]; exact Nat.ne_of_lt (blk_lt (g := gb914) (o := .cells #[.slice Ao34 t938.length co34, .slice Ao38 t939.length co38] 26 (0, 0)) (pK BK914.out)) : gb914 ≠ gb962)); have n24_ := Aside0.mk ((by rw [hg]; exact Nat.ne_of_gt (blk_lt (g := gb914) (o := .cells #[.slice Ao34 t938.length co34, .slice Ao38 t939.length co38] 26 (0, 0)) (pK BK914.out)) : gb962 ≠ gb914)); have n25_ := Aside0.mk ((by rw [hg]; exact Nat.ne_of_lt (blk_lt (g := gb924) (o := .cells #[.slice Ao44 t944.length co44, .slice Ao49 t945.length co49] 26 (0, 0)) (pK BK924.out)) : gb924 ≠ gb962)); have n26_ := Aside0.mk ((by rw [hg]; exact Nat.ne_of_gt (blk_lt (g := gb924) (o := .cells #[.slice Ao44 t944.length co44, .slice Ao49 t945.length co49] 26 (0, 0)) (pK BK924.out)) : gb962 ≠ gb924)); clear HO_908000; clear HO_908001; clear HO_915000; clear HO_915001; clear HO_925000; clear HO_925001; clear HO949; clear HO952; clear HO955; clear HO958; clear HO961; clear BK890; clear BK907; clear BK914; clear BK924; clear HB; have HO_908000 := n0_; have HO_908001 := n1_; have HO_915000 := n2_; have HO_915001 := n3_; have HO_925000 := n4_; have HO_925001 := n5_; have HO949 := n6_; have HO952 := n7_; have HO955 := n8_; have HO958 := n9_; have HO961 := n10_; have BK890 := n11_; have BK907 := n12_; have BK914 := n13_; have BK924 := n14_; have HB := n15_; have BK962 := n16_; have GW962 := n17_; have GE962 := n18_; have NB890_962 := n19_; have NB962_890 := n20_; have NB907_962 := n21_; have NB962_907 := n22_; have NB914_962 := n23_; have NB962_914 := n24_; have NB924_962 := n25_; have NB962_924 := n26_; clear n0_ n1_ n2_ n3_ n4_ n5_ n6_ n7_ n8_ n9_ n10_ n11_ n12_ n13_ n14_ n15_ n16_ n17_ n18_ n19_ n20_ n21_ n22_ n23_ n24_ n25_ n26_; clear hb hbox hg; obtain ⟨Ao118, co118, eo118⟩ := Kd.R_slice HO958.out; subst eo118; have hnb119 := NB962_890.out; have hnc119 := NB890_962.out; have hnb120 := NB962_907.out; have hnc120 := NB907_962.out; have hnb121 := NB962_914.out; have hnc121 := NB914_962.out; have hnb122 := NB962_924.out; have hnc122 := NB924_962.out; have hcz123_0 : w117.cell? ⟨gb962, 0, none⟩ = some (.slice none 0 0) := (blk_cell BK962.out 0).trans rfl; have hcz123_1 : w117.cell? ⟨gb962, 1, none⟩ = some (.slice none 0 0) := (blk_cell BK962.out 1).trans rfl; have hfz123_0 := blk_frozen BK962.out 0; have hfz123_1 := blk_frozen BK962.out 1; obtain ⟨Ao124, co124, eo124⟩ := Kd.R_slice HO961.out; subst eo124; have hnb125 := NB907_914.out; have hnc125 := NB914_907.out; have hnb126 := NB907_924.out; have hnc126 := NB924_907.out; have hcz127_0 : w117.cell? ⟨gb907, 0, none⟩ = some (.slice Ao27 t901.length co27) := (blk_cell BK907.out 0).trans rfl; have hcz127_1 : w117.cell? ⟨gb907, 1, none⟩ = some (.slice Ao30 t904.length co30) := (blk_cell BK907.out 1).trans rfl; have hfz127_0 := blk_frozen BK907.out 0; have hfz127_1 := blk_frozen BK907.out 1) | ((with_reducible refine gate_callee (f := 17) rfl ?_); refine goesL_ (some 80) rfl rfl Try.func17 (by kernel_rfl) rfl #[.agg #[.slice Ao118 t956.length co118, .slice Ao124 t959.length co124], .agg #[.slice Ao27 t901.length co27, .slice Ao30 t904.length co30]] rfl bM ?_; (with_reducible refine (laws_eqSecDisk.calls kj99 _ _ t956 _ _ t959 _ _ t901 _ _ t904 t963 _ ?side1 ?side2 ?side3 ?side4 ?side5 ?side6 ?side7 ?side8 A105.out).mono ?_); (case side1 => refine (Kd.R_reads' (e := 9) (base := w.heap.size) (ok := fun k_ => ((((True ∧ some k_ ≠ (.slice Ao27 t901.length co27 : Value).ownBlock) ∧ some k_ ≠ (.slice Ao34 t938.length co34 : Value).ownBlock) ∧ some k_ ≠ (.slice Ao44 t944.length co44 : Value).ownBlock) ∧ some k_ ≠ (.slice Ao113 t947.length co113 : Value).ownBlock)) (n := t956.length) (c := co118) ?_).2.2; exact (pR (Kd.R_mono (Kd.R_far (p := ⟨gb962, 1, none⟩) (Kd.R_far (p := ⟨gb962, 0, none⟩) (Kd.R_types HO958.out BK962.out (by decide)) (fun _ hk => hk.2) (.slice Ao118 t956.length co118)) (fun _ hk => hk.2) (.slice Ao124 t959.length co124)) (fun _ h_ => h_.1)))); (case side2 => exact (Kd.R_reads' HO958.out).2.1); (case side3 => refine (Kd.R_reads' (e := 54) (base := w.heap.size) (ok := fun k_ => ((((True ∧ some k_ ≠ (.slice Ao30 t904.length co30 : Value).ownBlock) ∧ some k_ ≠ (.slice Ao38 t939.length co38 : Value).ownBlock) ∧ some k_ ≠ (.slice Ao49 t945.length co49 : Value).ownBlock) ∧ some k_ ≠ (.slice Ao114 t950.length co114 : Value).ownBlock)) (n := t959.length) (c := co124) ?_).2.2; exact (pR (Kd.R_mono (Kd.R_far (p := ⟨gb962, 1, none⟩) (Kd.R_far (p := ⟨gb962, 0, none⟩) (Kd.R_types HO961.out BK962.out (by decide)) (fun _ hk => hk.2) (.slice Ao118 t956.length co118)) (fun _ hk => hk.2) (.slice Ao124 t959.length co124)) (fun _ h_ => h_.1)))); (case side4 => exact (Kd.R_reads' HO961.out).2.1); (case side5 => refine (Kd.R_reads' (e := 9) (base := w.heap.size) (ok := fun k_ => (((some k_ ≠ (.slice Ao34 t938.length co34 : Value).ownBlock ∧ some k_ ≠ (.slice Ao44 t944.length co44 : Value).ownBlock) ∧ some k_ ≠ (.slice Ao113 t947.length co113 : Value).ownBlock) ∧ some k_ ≠ (.slice Ao118 t956.length co118 : Value).ownBlock)) (n := t901.length) (c := co27) ?_).2.2; exact (pR (Kd.R_mono (Kd.R_far (p := ⟨gb962, 1, none⟩) (Kd.R_far (p := ⟨gb962, 0, none⟩) (Kd.R_types HO_908000.out BK962.out (by decide)) (fun _ hk => hk.2) (.slice Ao118 t956.length co118)) (fun _ hk => hk.2) (.slice Ao124 t959.length co124)) (fun _ h_ => h_.1)))); (case side6 => exact (Kd.R_reads' HO_908000.out).2.1); (case side7 => refine (Kd.R_reads' (e := 54) (base := w.heap.size) (ok := fun k_ => (((some k_ ≠ (.slice Ao38 t939.length co38 : Value).ownBlock ∧ some k_ ≠ (.slice Ao49 t945.length co49 : Value).ownBlock) ∧ some k_ ≠ (.slice Ao114 t950.length co114 : Value).ownBlock) ∧ some k_ ≠ (.slice Ao124 t959.length co124 : Value).ownBlock)) (n := t904.length) (c := co30) ?_).2.2; exact (pR (Kd.R_mono (Kd.R_far (p := ⟨gb962, 1, none⟩) (Kd.R_far (p := ⟨gb962, 0, none⟩) (Kd.R_types HO_908001.out BK962.out (by decide)) (fun _ hk => hk.2) (.slice Ao118 t956.length co118)) (fun _ hk => hk.2) (.slice Ao124 t959.length co124)) (fun _ h_ => h_.1)))); (case side8 => exact (Kd.R_reads' HO_908001.out).2.1); rintro e w128 ⟨rfl, hb⟩; refine ⟨_, rfl, ?_⟩; have n0_ := Aside0.mk (Kd.R_below (pR (Kd.R_mono (Kd.R_far (p := ⟨gb962, 1, none⟩) (Kd.R_far (p := ⟨gb962, 0, none⟩) (Kd.R_types HO_908000.out BK962.out (by decide)) (fun _ hk => hk.2) (.slice Ao118 t956.length co118)) (fun _ hk => hk.2) (.slice Ao124 t959.length co124)) (fun _ h_ => h_.1))) hb); have n1_ := Aside0.mk (Kd.R_below (pR (Kd.R_mono (Kd.R_far (p := ⟨gb962, 1, none⟩) (Kd.R_far (p := ⟨gb962, 0, none⟩) (Kd.R_types HO_908001.out BK962.out (by decide)) (fun _ hk => hk.2) (.slice Ao118 t956.length co118)) (fun _ hk => hk.2) (.slice Ao124 t959.length co124)) (fun _ h_ => h_.1))) hb); have n2_ := Aside0.mk (Kd.R_below (pR (Kd.R_mono (Kd.R_far (p := ⟨gb962, 1, none⟩) (Kd.R_far (p := ⟨gb962, 0, none⟩) (Kd.R_types HO_915000.out BK962.out (by decide)) (fun _ hk => hk.2) (.slice Ao118 t956.length co118)) (fun _ hk => hk.2) (.slice Ao124 t959.length co124)) (fun _ h_ => h_.1))) hb); have n3_ := Aside0.mk (Kd.R_below (pR (Kd.R_mono (Kd.R_far (p := ⟨gb962, 1, none⟩) (Kd.R_far (p := ⟨gb962, 0, none⟩) (Kd.R_types HO_915001.out BK962.out (by decide)) (fun _ hk => hk.2) (.slice Ao118 t956.length co118)) (fun _ hk => hk.2) (.slice Ao124 t959.length co124)) (fun _ h_ => h_.1))) hb); have n4_ := Aside0.mk (Kd.R_below (pR (Kd.R_mono (Kd.R_far (p := ⟨gb962, 1, none⟩) (Kd.R_far (p := ⟨gb962, 0, none⟩) (Kd.R_types HO_925000.out BK962.out (by decide)) (fun _ hk => hk.2) (.slice Ao118 t956.length co118)) (fun _ hk => hk.2) (.slice Ao124 t959.length co124)) (fun _ h_ => h_.1))) hb); have n5_ := Aside0.mk (Kd.R_below (pR (Kd.R_mono (Kd.R_far (p := ⟨gb962, 1, none⟩) (Kd.R_far (p := ⟨gb962, 0, none⟩) (Kd.R_types HO_925001.out BK962.out (by decide)) (fun _ hk => hk.2) (.slice Ao118 t956.length co118)) (fun _ hk => hk.2) (.slice Ao124 t959.length co124)) (fun _ h_ => h_.1))) hb); have n6_ := Aside0.mk (Kd.R_below (pR (Kd.R_mono (Kd.R_far (p := ⟨gb962, 1, none⟩) (Kd.R_far (p := ⟨gb962, 0, none⟩) (Kd.R_types HO949.out BK962.out (by decide)) (fun _ hk => hk.2) (.slice Ao118 t956.length co118)) (fun _ hk => hk.2) (.slice Ao124 t959.length co124)) (fun _ h_ => h_.1))) hb); have n7_ := Aside0.mk (Kd.R_below (pR (Kd.R_mono (Kd.R_far (p := ⟨gb962, 1, none⟩) (Kd.R_far (p := ⟨gb962, 0, none⟩) (Kd.R_types HO952.out BK962.out (by decide)) (fun _ hk => hk.2) (.slice Ao118 t956.length co118)) (fun _ hk => hk.2) (.slice Ao124 t959.length co124)) (fun _ h_ => h_.1))) hb); have n8_ := Aside0.mk (Kd.R_below (pR (Kd.R_mono (Kd.R_far (p := ⟨gb962, 1, none⟩) (Kd.R_far (p := ⟨gb962, 0, none⟩) (Kd.R_types HO955.out BK962.out (by decide)) (fun _ hk => hk.2) (.slice Ao118 t956.length co118)) (fun _ hk => hk.2) (.slice Ao124 t959.length co124)) (fun _ h_ => h_.1))) hb); have n9_ := Aside0.mk (Kd.R_below (pR (Kd.R_mono (Kd.R_far (p := ⟨gb962, 1, none⟩) (Kd.R_far (p := ⟨gb962, 0, none⟩) (Kd.R_types HO958.out BK962.out (by decide)) (fun _ hk => hk.2) (.slice Ao118 t956.length co118)) (fun _ hk => hk.2) (.slice Ao124 t959.length co124)) (fun _ h_ => h_.1))) hb); have n10_ := Aside0.mk (Kd.R_below (pR (Kd.R_mono (Kd.R_far (p := ⟨gb962, 1, none⟩) (Kd.R_far (p := ⟨gb962, 0, none⟩) (Kd.R_types HO961.out BK962.out (by decide)) (fun _ hk => hk.2) (.slice Ao118 t956.length co118)) (fun _ hk => hk.2) (.slice Ao124 t959.length co124)) (fun _ h_ => h_.1))) hb); have n11_ := Aside0.mk (blk_below (g := gb890) (o := .cells #[.slice A0_0 l0_0.length c0_0, .slice A0_1 l0_1.length c0_1] 34 (0, 0)) (by (with_reducible repeat (first | refine blk_drewN ?_ _ | refine blk_drew ?_ | refine blk_alloc ?_ _)); refine blk_far ?_ NB890_962.out _; (with_reducible repeat (first | refine blk_drewN ?_ _ | refine blk_drew ?_ | refine blk_alloc ?_ _)); refine blk_far ?_ NB890_962.out _; (with_reducible repeat (first | refine blk_drewN ?_ _ | refine blk_drew ?_ | refine blk_alloc ?_ _)); exact BK890.out) hb); have n12_ := Aside0.mk (blk_below (g := gb907) (o := .cells #[.slice Ao27 t901.length co27, .slice Ao30 t904.length co30] 26 (0, 0)) (by (with_reducible repeat (first | refine blk_drewN ?_ _ | refine blk_drew ?_ | refine blk_alloc ?_ _)); refine blk_far ?_ NB907_962.out _; (with_reducible repeat (first | refine blk_drewN ?_ _ | refine blk_drew ?_ | refine blk_alloc ?_ _)); refine blk_far ?_ NB907_962.out _; (with_reducible repeat (first | refine blk_drewN ?_ _ | refine blk_drew ?_ | refine blk_alloc ?_ _)); exact BK907.out) hb); have n13_ := Aside0.mk (blk_below (g := gb914) (o := .cells #[.slice Ao34 t938.length co34, .slice Ao38 t939.length co38] 26 (0, 0)) (by (with_reducible repeat (first | refine blk_drewN ?_ _ | refine blk_drew ?_ | refine blk_alloc ?_ _)); refine blk_far ?_ NB914_962.out _; (with_reducible repeat (first | refine blk_drewN ?_ _ | refine blk_drew ?_ | refine blk_alloc ?_ _)); refine blk_far ?_ NB914_962.out _; (with_reducible repeat (first | refine blk_drewN ?_ _ | refine blk_drew ?_ | refine blk_alloc ?_ _)); exact BK914.out) hb); have n14_ := Aside0.mk (blk_below (g := gb924) (o := .cells #[.slice Ao44 t944.length co44, .slice Ao49 t945.length co49] 26 (0, 0)) (by (with_reducible repeat (first | refine blk_drewN ?_ _ | refine blk_drew ?_ | refine blk_alloc ?_ _)); refine blk_far ?_ NB924_962.out _; (with_reducible repeat (first | refine blk_drewN ?_ _ | refine blk_drew ?_ | refine blk_alloc ?_ _)); refine blk_far ?_ NB924_962.out _; (with_reducible repeat (first | refine blk_drewN ?_ _ | refine blk_drew ?_ | refine blk_alloc ?_ _)); exact BK924.out) hb); have n15_ := Aside0.mk (blk_below (g := gb962) (o := .cells #[.slice Ao118 t956.length co118, .slice Ao124 t959.length co124] 26 (0, 0)) (by (with_reducible repeat (first | refine blk_drewN ?_ _ | refine blk_drew ?_ | refine blk_alloc ?_ _)); refine blk_put (cs := #[.slice Ao118 t956.length co118, .slice none 0 0]) ?_ 1 _ rfl; (with_reducible repeat (first | refine blk_drewN ?_ _ | refine blk_drew ?_ | refine blk_alloc ?_ _)); refine blk_put (cs := #[.slice none 0 0, .slice none 0 0]) ?_ 0 _ rfl; (with_reducible repeat (first | refine blk_drewN ?_ _ | refine blk_drew ?_ | refine blk_alloc ?_ _)); exact BK962.out) hb); have n16_ := Aside0.mk (below_step (by repeat (first | (with_reducible first | exact HB.out | apply below_alloc | apply pw_below_drewN | apply below_drew1 | refine below_set ?_ GE890.out | refine below_set ?_ GE907.out | refine below_set ?_ GE914.out | refine below_set ?_ GE924.out | refine below_set ?_ GE962.out) | exact HB.out)) hb); clear HO_908000; clear HO_908001; clear HO_915000; clear HO_915001; clear HO_925000; clear HO_925001; clear HO949; clear HO952; clear HO955; clear HO958; clear HO961; clear BK890; clear BK907; clear BK914; clear BK924; clear BK962; clear HB; have HO_908000 := n0_; have HO_908001 := n1_; have HO_915000 := n2_; have HO_915001 := n3_; have HO_925000 := n4_; have HO_925001 := n5_; have HO949 := n6_; have HO952 := n7_; have HO955 := n8_; have HO958 := n9_; have HO961 := n10_; have BK890 := n11_; have BK907 := n12_; have BK914 := n13_; have BK924 := n14_; have BK962 := n15_; have HB := n16_; clear n0_ n1_ n2_ n3_ n4_ n5_ n6_ n7_ n8_ n9_ n10_ n11_ n12_ n13_ n14_ n15_ n16_; (try clear hb); (try clear hb2); (try clear hk); (try clear hi)))
                   (try simp only [Act.put, List.setIfInBounds_toArray, List.set_cons_zero, List.set_cons_succ])
                   go_cut [] (fun wc => ∃ (kq : Nat), Aside0 (laws_FnExactSecCut.j9 kq t943 t944 t945 = some r) ∧ Aside0 (kq ≤ kj99) ∧ Aside0 (Kd.R Kd.string 9 wc w.heap.size (fun k_ => some k_ ≠ ((.slice Ao34 t938.length co34) : Value).ownBlock ∧ some k_ ≠ ((.slice Ao44 t944.length co44) : Value).ownBlock ∧ some k_ ≠ ((.slice Ao118 t956.length co118) : Value).ownBlock) (.slice Ao27 t901.length co27) t901) ∧ Aside0 (Kd.R k54 54 wc w.heap.size (fun k_ => some k_ ≠ ((.slice Ao38 t939.length co38) : Value).ownBlock ∧ some k_ ≠ ((.slice Ao49 t945.length co49) : Value).ownBlock ∧ some k_ ≠ ((.slice Ao124 t959.length co124) : Value).ownBlock) (.slice Ao30 t904.length co30) t904) ∧ Aside0 (Kd.R Kd.string 9 wc w.heap.size (fun k_ => some k_ ≠ ((.slice Ao27 t901.length co27) : Value).ownBlock ∧ some k_ ≠ ((.slice Ao44 t944.length co44) : Value).ownBlock ∧ some k_ ≠ ((.slice Ao118 t956.length co118) : Value).ownBlock) (.slice Ao34 t938.length co34) t938) ∧ Aside0 (Kd.R k54 54 wc w.heap.size (fun k_ => some k_ ≠ ((.slice Ao30 t904.length co30) : Value).ownBlock ∧ some k_ ≠ ((.slice Ao49 t945.length co49) : Value).ownBlock ∧ some k_ ≠ ((.slice Ao124 t959.length co124) : Value).ownBlock) (.slice Ao38 t939.length co38) t939) ∧ Aside0 (Kd.R Kd.string 9 wc w.heap.size (fun k_ => some k_ ≠ ((.slice Ao27 t901.length co27) : Value).ownBlock ∧ some k_ ≠ ((.slice Ao34 t938.length co34) : Value).ownBlock ∧ some k_ ≠ ((.slice Ao118 t956.length co118) : Value).ownBlock) (.slice Ao44 t944.length co44) t944) ∧ Aside0 (Kd.R k54 54 wc w.heap.size (fun k_ => some k_ ≠ ((.slice Ao30 t904.length co30) : Value).ownBlock ∧ some k_ ≠ ((.slice Ao38 t939.length co38) : Value).ownBlock ∧ some k_ ≠ ((.slice Ao124 t959.length co124) : Value).ownBlock) (.slice Ao49 t945.length co49) t945) ∧ Aside0 (Kd.R Kd.string 9 wc w.heap.size (fun k_ => some k_ ≠ ((.slice Ao27 t901.length co27) : Value).ownBlock ∧ some k_ ≠ ((.slice Ao34 t938.length co34) : Value).ownBlock ∧ some k_ ≠ ((.slice Ao44 t944.length co44) : Value).ownBlock) (.slice Ao118 t956.length co118) t956) ∧ Aside0 (Kd.R k54 54 wc w.heap.size (fun k_ => some k_ ≠ ((.slice Ao30 t904.length co30) : Value).ownBlock ∧ some k_ ≠ ((.slice Ao38 t939.length co38) : Value).ownBlock ∧ some k_ ≠ ((.slice Ao49 t945.length co49) : Value).ownBlock) (.slice Ao124 t959.length co124) t959) ∧ Aside0 (wc.heap[gb890]? = some (.cells #[(.slice A0_0 l0_0.length c0_0), (.slice A0_1 l0_1.length c0_1)] 34 (0, 0))) ∧ Aside0 (wc.heap[gb907]? = some (.cells #[(.slice Ao27 t901.length co27), (.slice Ao30 t904.length co30)] 26 (0, 0))) ∧ Aside0 (wc.heap[gb914]? = some (.cells #[(.slice Ao34 t938.length co34), (.slice Ao38 t939.length co38)] 26 (0, 0))) ∧ Aside0 (wc.heap[gb924]? = some (.cells #[(.slice Ao44 t944.length co44), (.slice Ao49 t945.length co49)] 26 (0, 0))) ∧ Aside0 (wc.heap[gb962]? = some (.cells #[(.slice Ao118 t956.length co118), (.slice Ao124 t959.length co124)] 26 (0, 0))) ∧ Aside0 (Below w.heap.size w wc))
                   case first =>
                    have H := HC106.out
                    clear HC106
                    by_cases c129 : t963 = true
                    ·subst c129
                     have H1 : (laws_FnExactSecCut.j9 kj99 t943 t944 t945) = some r := by rw [if_pos rfl] at H; exact H
                     clear H
                     have H := H1
                     clear H1
                     have H' := Aside0.mk H
                     clear H
                     go_wp2
                     go_meet
                     case rel => exact ⟨_, H', ⟨by have := HJ2.out; have := HJ6.out; have := HJ17.out; have := HJ54.out; have := HJ63.out; have := HJ69.out; have := HJ86.out; have := HJ90.out; have := HJ99.out; first | omega | exact Nat.le_refl _⟩, ⟨by (try simp only [hl915000_69]); (try simp only [hl915001_69]); (try simp only [hl925000_90]); (try simp only [hl925001_90]); (with_reducible repeat (first | apply Kd.R_alloc | apply Kd.R_drewN | apply Kd.R_drew)); exact Kd.R_mono HO_908000.out (fun _ hk => ⟨hk.1.1.1, ⟨hk.1.1.2, hk.2⟩⟩)⟩, ⟨by (try simp only [hl915000_69]); (try simp only [hl915001_69]); (try simp only [hl925000_90]); (try simp only [hl925001_90]); (with_reducible repeat (first | apply Kd.R_alloc | apply Kd.R_drewN | apply Kd.R_drew)); exact Kd.R_mono HO_908001.out (fun _ hk => ⟨hk.1.1.1, ⟨hk.1.1.2, hk.2⟩⟩)⟩, ⟨by (try simp only [hl915000_69]); (try simp only [hl915001_69]); (try simp only [hl925000_90]); (try simp only [hl925001_90]); (with_reducible repeat (first | apply Kd.R_alloc | apply Kd.R_drewN | apply Kd.R_drew)); exact Kd.R_mono HO_915000.out (fun _ hk => ⟨hk.1.1.1, ⟨hk.1.1.2, hk.2⟩⟩)⟩, ⟨by (try simp only [hl915000_69]); (try simp only [hl915001_69]); (try simp only [hl925000_90]); (try simp only [hl925001_90]); (with_reducible repeat (first | apply Kd.R_alloc | apply Kd.R_drewN | apply Kd.R_drew)); exact Kd.R_mono HO_915001.out (fun _ hk => ⟨hk.1.1.1, ⟨hk.1.1.2, hk.2⟩⟩)⟩, ⟨by (try simp only [hl915000_69]); (try simp only [hl915001_69]); (try simp only [hl925000_90]); (try simp only [hl925001_90]); (with_reducible repeat (first | apply Kd.R_alloc | apply Kd.R_drewN | apply Kd.R_drew)); exact Kd.R_mono HO_925000.out (fun _ hk => ⟨hk.1.1.1, ⟨hk.1.1.2, hk.2⟩⟩)⟩, ⟨by (try simp only [hl915000_69]); (try simp only [hl915001_69]); (try simp only [hl925000_90]); (try simp only [hl925001_90]); (with_reducible repeat (first | apply Kd.R_alloc | apply Kd.R_drewN | apply Kd.R_drew)); exact Kd.R_mono HO_925001.out (fun _ hk => ⟨hk.1.1.1, ⟨hk.1.1.2, hk.2⟩⟩)⟩, ⟨by (try simp only [hl915000_69]); (try simp only [hl915001_69]); (try simp only [hl925000_90]); (try simp only [hl925001_90]); (with_reducible repeat (first | apply Kd.R_alloc | apply Kd.R_drewN | apply Kd.R_drew)); exact Kd.R_mono HO958.out (fun _ hk => ⟨hk.1.1.1.2, ⟨hk.1.1.2, hk.1.2⟩⟩)⟩, ⟨by (try simp only [hl915000_69]); (try simp only [hl915001_69]); (try simp only [hl925000_90]); (try simp only [hl925001_90]); (with_reducible repeat (first | apply Kd.R_alloc | apply Kd.R_drewN | apply Kd.R_drew)); exact Kd.R_mono HO961.out (fun _ hk => ⟨hk.1.1.1.2, ⟨hk.1.1.2, hk.1.2⟩⟩)⟩, ⟨by (try simp only [hl915000_69]); (try simp only [hl915001_69]); (try simp only [hl925000_90]); (try simp only [hl925001_90]); (with_reducible repeat (first | refine blk_drewN ?_ _ | refine blk_drew ?_ | refine blk_alloc ?_ _)); exact BK890.out⟩, ⟨by (try simp only [hl915000_69]); (try simp only [hl915001_69]); (try simp only [hl925000_90]); (try simp only [hl925001_90]); (with_reducible repeat (first | refine blk_drewN ?_ _ | refine blk_drew ?_ | refine blk_alloc ?_ _)); exact BK907.out⟩, ⟨by (try simp only [hl915000_69]); (try simp only [hl915001_69]); (try simp only [hl925000_90]); (try simp only [hl925001_90]); (with_reducible repeat (first | refine blk_drewN ?_ _ | refine blk_drew ?_ | refine blk_alloc ?_ _)); exact BK914.out⟩, ⟨by (try simp only [hl915000_69]); (try simp only [hl915001_69]); (try simp only [hl925000_90]); (try simp only [hl925001_90]); (with_reducible repeat (first | refine blk_drewN ?_ _ | refine blk_drew ?_ | refine blk_alloc ?_ _)); exact BK924.out⟩, ⟨by (try simp only [hl915000_69]); (try simp only [hl915001_69]); (try simp only [hl925000_90]); (try simp only [hl925001_90]); (with_reducible repeat (first | refine blk_drewN ?_ _ | refine blk_drew ?_ | refine blk_alloc ?_ _)); exact BK962.out⟩, ⟨by repeat (first | (with_reducible first | exact HB.out | apply below_alloc | apply pw_below_drewN | apply below_drew1 | refine below_set ?_ GE890.out | refine below_set ?_ GE907.out | refine below_set ?_ GE914.out | refine below_set ?_ GE924.out | refine below_set ?_ GE962.out) | exact HB.out)⟩⟩
                    ·replace c129 := Bool.eq_false_iff.mpr c129
                     subst c129
                     have H1 : (some false) = some r := by rw [if_neg (show ¬ (false = true) by decide)] at H; exact H
                     clear H
                     have H := H1
                     clear H1
                     obtain rfl := Option.some.inj H
                     go_wp2
                     go_ret
                     exact ⟨by first | rfl | (simp [errW_none, errW_some] <;> rfl) | (simp [*, errW_none, errW_some] <;> rfl), by repeat (first | (with_reducible first | exact HB.out | apply below_alloc | apply pw_below_drewN | apply below_drew1 | refine below_set ?_ GE890.out | refine below_set ?_ GE907.out | refine below_set ?_ GE914.out | refine below_set ?_ GE924.out | refine below_set ?_ GE962.out) | exact HB.out)⟩
                   case rest =>
                    clear HC106
                    try clear c1
                    try clear c2
                    try clear p2
                    try clear c3
                    try clear c4
                    try clear c5
                    try clear c5b0
                    try clear c5b1
                    try clear c6
                    try clear c7
                    try clear c8
                    try clear c9
                    try clear c10
                    try clear c10b0
                    try clear c11
                    try clear c12
                    try clear c14
                    try clear c17
                    try clear c18
                    try clear c19
                    try clear c22
                    try clear c24
                    try clear c28
                    try clear c34
                    try clear c35
                    try clear c36
                    try clear c38
                    try clear c39
                    try clear c40
                    try clear c45
                    try clear c46
                    try clear c47
                    try clear c52
                    try clear c61
                    try clear c67
                    try clear c71
                    try clear c72
                    try clear c73
                    try clear c77
                    try clear c77b0
                    try clear c79
                    try clear c80
                    try clear c81
                    try clear c83
                    try clear c84
                    try clear c88
                    try clear c92
                    try clear c93
                    try clear c94
                    try clear c99
                    try clear c99b0
                    try clear c101
                    try clear c101b0
                    try clear c101b1
                    try clear c107
                    try clear c108
                    try clear c109
                    try clear c119
                    try clear c120
                    try clear c121
                    try clear c122
                    try clear c125
                    try clear c126
                    try clear c129
                    try clear hcz110_0
                    try clear hcz110_1
                    try clear hcz123_0
                    try clear hcz123_1
                    try clear hcz127_0
                    try clear hcz127_1
                    try clear hcz19_0
                    try clear hcz19_1
                    try clear hcz29_0
                    try clear hcz29_1
                    try clear hcz31_0
                    try clear hcz31_1
                    try clear hcz37_0
                    try clear hcz37_1
                    try clear hcz40_0
                    try clear hcz40_1
                    try clear hcz48_0
                    try clear hcz48_1
                    try clear hcz50_0
                    try clear hcz50_1
                    try clear hcz74_0
                    try clear hcz74_1
                    try clear hcz82_0
                    try clear hcz82_1
                    try clear hcz85_0
                    try clear hcz85_1
                    try clear hcz8_0
                    try clear hcz8_1
                    try clear hcz95_0
                    try clear hcz95_1
                    try clear hcz97_0
                    try clear hcz97_1
                    try clear hfz110_0
                    try clear hfz110_1
                    try clear hfz123_0
                    try clear hfz123_1
                    try clear hfz127_0
                    try clear hfz127_1
                    try clear hfz19_0
                    try clear hfz19_1
                    try clear hfz29_0
                    try clear hfz29_1
                    try clear hfz31_0
                    try clear hfz31_1
                    try clear hfz37_0
                    try clear hfz37_1
                    try clear hfz40_0
                    try clear hfz40_1
                    try clear hfz48_0
                    try clear hfz48_1
                    try clear hfz50_0
                    try clear hfz50_1
                    try clear hfz74_0
                    try clear hfz74_1
                    try clear hfz82_0
                    try clear hfz82_1
                    try clear hfz85_0
                    try clear hfz85_1
                    try clear hfz8_0
                    try clear hfz8_1
                    try clear hfz95_0
                    try clear hfz95_1
                    try clear hfz97_0
                    try clear hfz97_1
                    try clear p2
                    obtain ⟨kq, HA, HJ105, HO_908000, HO_908001, HO_915000, HO_915001, HO_925000, HO_925001, HO_963000, HO_963001, BK890, BK907, BK914, BK924, BK962, HB⟩ := hcut
                    cases kq with
                    | zero => exact absurd HA.out (by simp [laws_FnExactSecCut.j9])
                    | succ kj105 =>
                     have H := HA.out
                     clear HA
                     simp only [laws_FnExactSecCut.j9] at H
                     replace H := Option.bind_eq_some_iff.mp H
                     obtain ⟨t964, A1300, H⟩ := H
                     replace H : (if t964 < 0 then (some false) else (if t964 = t943 then (some true) else (some false))) = some r := H
                     have A130 := Aside0.mk A1300
                     clear A1300
                     by_cases c131 : t964 < 0
                     ·rw [if_pos c131] at H
                      have c131b0 : decide (t964 < 0) = true := decide_eq_true c131
                      clear c131
                      obtain rfl := Option.some.inj H
                      have hnb132 := NB924_890.out
                      have hnc132 := NB890_924.out
                      have hnb133 := NB924_907.out
                      have hnc133 := NB907_924.out
                      have hnb134 := NB924_914.out
                      have hnc134 := NB914_924.out
                      have hnb135 := NB924_962.out
                      have hnc135 := NB962_924.out
                      have hcz136_0 : wc.cell? ⟨gb924, 0, none⟩ = some (.slice Ao44 t944.length co44) := (blk_cell BK924.out 0).trans rfl
                      have hcz136_1 : wc.cell? ⟨gb924, 1, none⟩ = some (.slice Ao49 t945.length co49) := (blk_cell BK924.out 1).trans rfl
                      have hfz136_0 := blk_frozen BK924.out 0
                      have hfz136_1 := blk_frozen BK924.out 1
                      go_wp2_with (first | ((with_reducible refine gate_callee (f := 19) rfl ?_); refine goesL_ (some 84) rfl rfl Try.func19 (by kernel_rfl) rfl #[.agg #[.slice Ao44 t944.length co44, .slice Ao49 t945.length co49], .int .i64 1] rfl bM ?_; (with_reducible refine (laws_heldSecDisk.calls kj105 _ _ t944 _ _ t945 1 t964 _ ?side1 ?side2 ?side3 ?side4 A130.out).mono ?_); (case side1 => exact pC (Kd.R_reads' HO_925000.out).2.2); (case side2 => exact (Kd.R_reads' HO_925000.out).2.1); (case side3 => exact pC (Kd.R_reads' HO_925001.out).2.2); (case side4 => exact (Kd.R_reads' HO_925001.out).2.1); rintro e w137 ⟨rfl, hb⟩; refine ⟨_, rfl, ?_⟩; have n0_ := Aside0.mk (Kd.R_below (pR HO_908000.out) hb); have n1_ := Aside0.mk (Kd.R_below (pR HO_908001.out) hb); have n2_ := Aside0.mk (Kd.R_below (pR HO_915000.out) hb); have n3_ := Aside0.mk (Kd.R_below (pR HO_915001.out) hb); have n4_ := Aside0.mk (Kd.R_below (pR HO_925000.out) hb); have n5_ := Aside0.mk (Kd.R_below (pR HO_925001.out) hb); have n6_ := Aside0.mk (Kd.R_below (pR HO_963000.out) hb); have n7_ := Aside0.mk (Kd.R_below (pR HO_963001.out) hb); have n8_ := Aside0.mk (blk_below (g := gb890) (o := .cells #[.slice A0_0 l0_0.length c0_0, .slice A0_1 l0_1.length c0_1] 34 (0, 0)) (pK BK890.out) hb); have n9_ := Aside0.mk (blk_below (g := gb907) (o := .cells #[.slice Ao27 t901.length co27, .slice Ao30 t904.length co30] 26 (0, 0)) (pK BK907.out) hb); have n10_ := Aside0.mk (blk_below (g := gb914) (o := .cells #[.slice Ao34 t938.length co34, .slice Ao38 t939.length co38] 26 (0, 0)) (pK BK914.out) hb); have n11_ := Aside0.mk (blk_below (g := gb924) (o := .cells #[.slice Ao44 t944.length co44, .slice Ao49 t945.length co49] 26 (0, 0)) (pK BK924.out) hb); have n12_ := Aside0.mk (blk_below (g := gb962) (o := .cells #[.slice Ao118 t956.length co118, .slice Ao124 t959.length co124] 26 (0, 0)) (pK BK962.out) hb); have n13_ := Aside0.mk (below_step (by repeat (first | (with_reducible first | exact HB.out | apply below_alloc | apply pw_below_drewN | apply below_drew1 | refine below_set ?_ GE890.out | refine below_set ?_ GE907.out | refine below_set ?_ GE914.out | refine below_set ?_ GE924.out | refine below_set ?_ GE962.out) | exact HB.out)) hb); clear HO_908000; clear HO_908001; clear HO_915000; clear HO_915001; clear HO_925000; clear HO_925001; clear HO_963000; clear HO_963001; clear BK890; clear BK907; clear BK914; clear BK924; clear BK962; clear HB; have HO_908000 := n0_; have HO_908001 := n1_; have HO_915000 := n2_; have HO_915001 := n3_; have HO_925000 := n4_; have HO_925001 := n5_; have HO_963000 := n6_; have HO_963001 := n7_; have BK890 := n8_; have BK907 := n9_; have BK914 := n10_; have BK924 := n11_; have BK962 := n12_; have HB := n13_; clear n0_ n1_ n2_ n3_ n4_ n5_ n6_ n7_ n8_ n9_ n10_ n11_ n12_ n13_; (try clear hb); (try clear hb2); (try clear hk); (try clear hi)))
                      go_ret
                      exact ⟨by first | rfl | (simp [errW_none, errW_some] <;> rfl) | (simp [*, errW_none, errW_some] <;> rfl), by repeat (first | (with_reducible first | exact HB.out | apply below_alloc | apply pw_below_drewN | apply below_drew1 | refine below_set ?_ GE890.out | refine below_set ?_ GE907.out | refine below_set ?_ GE914.out | refine below_set ?_ GE924.out | refine below_set ?_ GE962.out) | exact HB.out)⟩
                     ·rw [if_neg c131] at H
                      have c131b0 : decide (t964 < 0) = false := decide_eq_false c131
                      clear c131
                      by_cases c138 : t964 = t943
                      ·rw [if_pos c138] at H
                       have c138b0 : (t964 == t943) = true := beq_iff_eq.mpr c138
                       have c138b1 : (t964 != t943) = false := bne_eq_false_iff_eq.mpr c138
                       clear c138
                       obtain rfl := Option.some.inj H
                       have hnb139 := NB924_890.out
                       have hnc139 := NB890_924.out
                       have hnb140 := NB924_907.out
                       have hnc140 := NB907_924.out
                       have hnb141 := NB924_914.out
                       have hnc141 := NB914_924.out
                       have hnb142 := NB924_962.out
                       have hnc142 := NB962_924.out
                       have hcz143_0 : wc.cell? ⟨gb924, 0, none⟩ = some (.slice Ao44 t944.length co44) := (blk_cell BK924.out 0).trans rfl
                       have hcz143_1 : wc.cell? ⟨gb924, 1, none⟩ = some (.slice Ao49 t945.length co49) := (blk_cell BK924.out 1).trans rfl
                       have hfz143_0 := blk_frozen BK924.out 0
                       have hfz143_1 := blk_frozen BK924.out 1
                       go_wp2_with (first | ((with_reducible refine gate_callee (f := 19) rfl ?_); refine goesL_ (some 84) rfl rfl Try.func19 (by kernel_rfl) rfl #[.agg #[.slice Ao44 t944.length co44, .slice Ao49 t945.length co49], .int .i64 1] rfl bM ?_; (with_reducible refine (laws_heldSecDisk.calls kj105 _ _ t944 _ _ t945 1 t964 _ ?side1 ?side2 ?side3 ?side4 A130.out).mono ?_); (case side1 => exact pC (Kd.R_reads' HO_925000.out).2.2); (case side2 => exact (Kd.R_reads' HO_925000.out).2.1); (case side3 => exact pC (Kd.R_reads' HO_925001.out).2.2); (case side4 => exact (Kd.R_reads' HO_925001.out).2.1); rintro e w144 ⟨rfl, hb⟩; refine ⟨_, rfl, ?_⟩; have n0_ := Aside0.mk (Kd.R_below (pR HO_908000.out) hb); have n1_ := Aside0.mk (Kd.R_below (pR HO_908001.out) hb); have n2_ := Aside0.mk (Kd.R_below (pR HO_915000.out) hb); have n3_ := Aside0.mk (Kd.R_below (pR HO_915001.out) hb); have n4_ := Aside0.mk (Kd.R_below (pR HO_925000.out) hb); have n5_ := Aside0.mk (Kd.R_below (pR HO_925001.out) hb); have n6_ := Aside0.mk (Kd.R_below (pR HO_963000.out) hb); have n7_ := Aside0.mk (Kd.R_below (pR HO_963001.out) hb); have n8_ := Aside0.mk (blk_below (g := gb890) (o := .cells #[.slice A0_0 l0_0.length c0_0, .slice A0_1 l0_1.length c0_1] 34 (0, 0)) (pK BK890.out) hb); have n9_ := Aside0.mk (blk_below (g := gb907) (o := .cells #[.slice Ao27 t901.length co27, .slice Ao30 t904.length co30] 26 (0, 0)) (pK BK907.out) hb); have n10_ := Aside0.mk (blk_below (g := gb914) (o := .cells #[.slice Ao34 t938.length co34, .slice Ao38 t939.length co38] 26 (0, 0)) (pK BK914.out) hb); have n11_ := Aside0.mk (blk_below (g := gb924) (o := .cells #[.slice Ao44 t944.length co44, .slice Ao49 t945.length co49] 26 (0, 0)) (pK BK924.out) hb); have n12_ := Aside0.mk (blk_below (g := gb962) (o := .cells #[.slice Ao118 t956.length co118, .slice Ao124 t959.length co124] 26 (0, 0)) (pK BK962.out) hb); have n13_ := Aside0.mk (below_step (by repeat (first | (with_reducible first | exact HB.out | apply below_alloc | apply pw_below_drewN | apply below_drew1 | refine below_set ?_ GE890.out | refine below_set ?_ GE907.out | refine below_set ?_ GE914.out | refine below_set ?_ GE924.out | refine below_set ?_ GE962.out) | exact HB.out)) hb); clear HO_908000; clear HO_908001; clear HO_915000; clear HO_915001; clear HO_925000; clear HO_925001; clear HO_963000; clear HO_963001; clear BK890; clear BK907; clear BK914; clear BK924; clear BK962; clear HB; have HO_908000 := n0_; have HO_908001 := n1_; have HO_915000 := n2_; have HO_915001 := n3_; have HO_925000 := n4_; have HO_925001 := n5_; have HO_963000 := n6_; have HO_963001 := n7_; have BK890 := n8_; have BK907 := n9_; have BK914 := n10_; have BK924 := n11_; have BK962 := n12_; have HB := n13_; clear n0_ n1_ n2_ n3_ n4_ n5_ n6_ n7_ n8_ n9_ n10_ n11_ n12_ n13_; (try clear hb); (try clear hb2); (try clear hk); (try clear hi)))
                       go_ret
                       exact ⟨by first | rfl | (simp [errW_none, errW_some] <;> rfl) | (simp [*, errW_none, errW_some] <;> rfl), by repeat (first | (with_reducible first | exact HB.out | apply below_alloc | apply pw_below_drewN | apply below_drew1 | refine below_set ?_ GE890.out | refine below_set ?_ GE907.out | refine below_set ?_ GE914.out | refine below_set ?_ GE924.out | refine below_set ?_ GE962.out) | exact HB.out)⟩
                      ·rw [if_neg c138] at H
                       have c138b0 : (t964 == t943) = false := beq_eq_false_iff_ne.mpr c138
                       have c138b1 : (t964 != t943) = true := bne_iff_ne.mpr c138
                       obtain rfl := Option.some.inj H
                       have hnb145 := NB924_890.out
                       have hnc145 := NB890_924.out
                       have hnb146 := NB924_907.out
                       have hnc146 := NB907_924.out
                       have hnb147 := NB924_914.out
                       have hnc147 := NB914_924.out
                       have hnb148 := NB924_962.out
                       have hnc148 := NB962_924.out
                       have hcz149_0 : wc.cell? ⟨gb924, 0, none⟩ = some (.slice Ao44 t944.length co44) := (blk_cell BK924.out 0).trans rfl
                       have hcz149_1 : wc.cell? ⟨gb924, 1, none⟩ = some (.slice Ao49 t945.length co49) := (blk_cell BK924.out 1).trans rfl
                       have hfz149_0 := blk_frozen BK924.out 0
                       have hfz149_1 := blk_frozen BK924.out 1
                       go_wp2_with (first | ((with_reducible refine gate_callee (f := 19) rfl ?_); refine goesL_ (some 84) rfl rfl Try.func19 (by kernel_rfl) rfl #[.agg #[.slice Ao44 t944.length co44, .slice Ao49 t945.length co49], .int .i64 1] rfl bM ?_; (with_reducible refine (laws_heldSecDisk.calls kj105 _ _ t944 _ _ t945 1 t964 _ ?side1 ?side2 ?side3 ?side4 A130.out).mono ?_); (case side1 => exact pC (Kd.R_reads' HO_925000.out).2.2); (case side2 => exact (Kd.R_reads' HO_925000.out).2.1); (case side3 => exact pC (Kd.R_reads' HO_925001.out).2.2); (case side4 => exact (Kd.R_reads' HO_925001.out).2.1); rintro e w150 ⟨rfl, hb⟩; refine ⟨_, rfl, ?_⟩; have n0_ := Aside0.mk (Kd.R_below (pR HO_908000.out) hb); have n1_ := Aside0.mk (Kd.R_below (pR HO_908001.out) hb); have n2_ := Aside0.mk (Kd.R_below (pR HO_915000.out) hb); have n3_ := Aside0.mk (Kd.R_below (pR HO_915001.out) hb); have n4_ := Aside0.mk (Kd.R_below (pR HO_925000.out) hb); have n5_ := Aside0.mk (Kd.R_below (pR HO_925001.out) hb); have n6_ := Aside0.mk (Kd.R_below (pR HO_963000.out) hb); have n7_ := Aside0.mk (Kd.R_below (pR HO_963001.out) hb); have n8_ := Aside0.mk (blk_below (g := gb890) (o := .cells #[.slice A0_0 l0_0.length c0_0, .slice A0_1 l0_1.length c0_1] 34 (0, 0)) (pK BK890.out) hb); have n9_ := Aside0.mk (blk_below (g := gb907) (o := .cells #[.slice Ao27 t901.length co27, .slice Ao30 t904.length co30] 26 (0, 0)) (pK BK907.out) hb); have n10_ := Aside0.mk (blk_below (g := gb914) (o := .cells #[.slice Ao34 t938.length co34, .slice Ao38 t939.length co38] 26 (0, 0)) (pK BK914.out) hb); have n11_ := Aside0.mk (blk_below (g := gb924) (o := .cells #[.slice Ao44 t944.length co44, .slice Ao49 t945.length co49] 26 (0, 0)) (pK BK924.out) hb); have n12_ := Aside0.mk (blk_below (g := gb962) (o := .cells #[.slice Ao118 t956.length co118, .slice Ao124 t959.length co124] 26 (0, 0)) (pK BK962.out) hb); have n13_ := Aside0.mk (below_step (by repeat (first | (with_reducible first | exact HB.out | apply below_alloc | apply pw_below_drewN | apply below_drew1 | refine below_set ?_ GE890.out | refine below_set ?_ GE907.out | refine below_set ?_ GE914.out | refine below_set ?_ GE924.out | refine below_set ?_ GE962.out) | exact HB.out)) hb); clear HO_908000; clear HO_908001; clear HO_915000; clear HO_915001; clear HO_925000; clear HO_925001; clear HO_963000; clear HO_963001; clear BK890; clear BK907; clear BK914; clear BK924; clear BK962; clear HB; have HO_908000 := n0_; have HO_908001 := n1_; have HO_915000 := n2_; have HO_915001 := n3_; have HO_925000 := n4_; have HO_925001 := n5_; have HO_963000 := n6_; have HO_963001 := n7_; have BK890 := n8_; have BK907 := n9_; have BK914 := n10_; have BK924 := n11_; have BK962 := n12_; have HB := n13_; clear n0_ n1_ n2_ n3_ n4_ n5_ n6_ n7_ n8_ n9_ n10_ n11_ n12_ n13_; (try clear hb); (try clear hb2); (try clear hk); (try clear hi)))
                       go_ret
                       exact ⟨by first | rfl | (simp [errW_none, errW_some] <;> rfl) | (simp [*, errW_none, errW_some] <;> rfl), by repeat (first | (with_reducible first | exact HB.out | apply below_alloc | apply pw_below_drewN | apply below_drew1 | refine below_set ?_ GE890.out | refine below_set ?_ GE907.out | refine below_set ?_ GE914.out | refine below_set ?_ GE924.out | refine below_set ?_ GE962.out) | exact HB.out)⟩

/-- THE ONE PURE STATEMENT of laws_FnExactSecCut. -/
def laws_FnExactSecCut.Pure : Prop := ∀ (l0_0 : List ByteArray) (l0_1 : List (S79)) (l1 : List Int), wf34 (⟨l0_0, l0_1⟩ : S34) → (l1.length ≤ maxLen ∧ ∀ z_ ∈ l1, (Lit.int .i64 z_).wf = true) → ∃ k, laws_FnExactSecCut.f k l0_0 l0_1 l1 = some true
theorem laws_FnExactSecCut.walk (P : laws_FnExactSecCut.Pure) (A0_0 : Option Addr) (c0_0 : Nat) (l0_0 : List ByteArray) (A0_1 : Option Addr) (c0_1 : Nat) (l0_1 : List (S79)) (A1 : Option Addr) (c1 : Nat) (l1 : List Int) (w : World) (hw0 : wf34 (⟨l0_0, l0_1⟩ : S34)) (hw1 : (l1.length ≤ maxLen ∧ ∀ z_ ∈ l1, (Lit.int .i64 z_).wf = true)) (hr0_0 : Kd.C Kd.string w A0_0 l0_0.length l0_0) (hc0_0 : l0_0.length ≤ c0_0) (hr0_1 : Kd.C k79 w A0_1 l0_1.length l0_1) (hc0_1 : l0_1.length ≤ c0_1) (hr1 : Kd.C (Kd.int .i64) w A1 l1.length l1) (hc1 : l1.length ≤ c1) :
  Calls Try.prog 14 #[.agg #[.slice A0_0 l0_0.length c0_0, .slice A0_1 l0_1.length c0_1], .slice A1 l1.length c1] w fun e w' => e = .returned (.bool true) ∧ Below w.heap.size w w' := by
 obtain ⟨k, h⟩ := P l0_0 l0_1 l1 hw0 hw1
 refine (laws_FnExactSecCut.calls k A0_0 c0_0 l0_0 A0_1 c0_1 l0_1 A1 c1 l1 true w hr0_0 hc0_0 hr0_1 hc0_1 hr1 hc1 h).mono ?_
 rintro e w' ⟨rfl, hd⟩
 exact ⟨rfl, hd⟩

end Go.Proofs.Ythkdhcaojhbfoaa.P
