-- printed by pprint.py (this session's program over the kit's printer) out of the translation. Lean checks it.
import Derived.Test.YtoieojmfkkidnaaPx0
import Derived.Test.YtoieojmfkkidnaaPx5
import Derived.Test.YtoieojmfkkidnaaPx14
namespace Go.Proofs.Ytoieojmfkkidnaa.P
open Go.RowKit Go.Proofs.YtoieojmfkkidnaaX Go.Proofs.YtoieojmfkkidnaaW.PrintWords Go.Proofs.YtoieojmfkkidnaaW.PrintLast Go.Proofs.YtoieojmfkkidnaaW.PrintMore
attribute [local go_sem] max2_int min2_int max_two min_two max_three min_three max_four min_four   -- for this text's walks alone
set_option linter.unusedVariables false
set_option linter.unusedSimpArgs false

/-! ### spec_SynVoterOk: function 26 -/
mutual
def spec_SynVoterOk.j0 : Nat → Bool → Int → List (S64) → Option (Bool)
 | 0, _, _, _ => none
 | k + 1, x13, x644000, x644001 => if x13 = true then (some false) else (spec_SynVoterOk.l0 k 0 x644000 x644001)
def spec_SynVoterOk.l0 : Nat → Int → Int → List (S64) → Option (Bool)
 | 0, _, _, _ => none
 | k + 1, x3, x644000, x644001 => if x3 < (x644001.length : Int) then (if 0 ≤ x3 then ((spec_l21PaperOk.f ((rd_T64 x644001 x3).f0) ((rd_T64 x644001 x3).f1) ((rd_T64 x644001 x3).f2.f0) ((rd_T64 x644001 x3).f2.f1) ((rd_T64 x644001 x3).f2.f2) ((rd_T64 x644001 x3).f2.f3) ((rd_T64 x644001 x3).f2.f4) ((rd_T64 x644001 x3).f2.f5) ((rd_T64 x644001 x3).f2.f6) ((rd_T64 x644001 x3).f2.f7) ((rd_T64 x644001 x3).f2.f8) ((rd_T64 x644001 x3).f2.f9)).bind fun t646 => (if t646 = true then (if ((rd_T64 x644001 x3).f1) > x644000 then (some false) else (if x3 > 0 then (if 0 ≤ (wrap64 (x3 - 1)) then (if (wrap64 (x3 - 1)) < (x644001.length : Int) then (if ((rd_T64 x644001 (wrap64 (x3 - 1))).f0) ≥ ((rd_T64 x644001 x3).f0) then (some false) else (spec_SynVoterOk.l0 k (wrap64 (x3 + 1)) x644000 x644001)) else (none)) else (none)) else (spec_SynVoterOk.l0 k (wrap64 (x3 + 1)) x644000 x644001))) else (some false))) else (none)) else (some true)
end
def spec_SynVoterOk.f (k : Nat) (a0_0 : Int) (l0_1 : List (S64)) : Option (Bool) := (spec_l6In.f a0_0 0 99999).bind fun t644 => (if t644 = true then (spec_SynVoterOk.j0 k (decide ((l0_1.length : Int) > 60)) a0_0 l0_1) else (spec_SynVoterOk.j0 k true a0_0 l0_1))
theorem spec_SynVoterOk.mono_l : ∀ k, (∀ y0 y1 y2, LeO (spec_SynVoterOk.j0 k y0 y1 y2) (spec_SynVoterOk.j0 (k + 1) y0 y1 y2)) ∧ (∀ y0 y1 y2, LeO (spec_SynVoterOk.l0 k y0 y1 y2) (spec_SynVoterOk.l0 (k + 1) y0 y1 y2))
 | 0 => ⟨fun _ _ _ r h => by simp [spec_SynVoterOk.j0] at h, fun _ _ _ r h => by simp [spec_SynVoterOk.l0] at h⟩
 | k + 1 => by
  obtain ⟨ih0, ih1⟩ := spec_SynVoterOk.mono_l k
  refine ⟨?_, ?_⟩
  ·intro y0 y1 y2
   unfold spec_SynVoterOk.j0
   repeat' first
   | (with_reducible exact ih0 _ _ _)
   | (with_reducible exact ih1 _ _ _)
   | (with_reducible exact LeO.refl _)
   | (with_reducible exact LeO.none _)
   | (with_reducible refine LeO.ite ?_ ?_)
   | (with_reducible refine LeO.bind ?_ (fun _ => ?_))
   | exact ih0 _ _ _
   | exact ih1 _ _ _
   | exact LeO.none _
   | refine LeO.ite ?_ ?_
   | refine LeO.bind ?_ (fun _ => ?_)
  ·intro y0 y1 y2
   unfold spec_SynVoterOk.l0
   repeat' first
   | (with_reducible exact ih0 _ _ _)
   | (with_reducible exact ih1 _ _ _)
   | (with_reducible exact LeO.refl _)
   | (with_reducible exact LeO.none _)
   | (with_reducible refine LeO.ite ?_ ?_)
   | (with_reducible refine LeO.bind ?_ (fun _ => ?_))
   | exact ih0 _ _ _
   | exact ih1 _ _ _
   | exact LeO.none _
   | refine LeO.ite ?_ ?_
   | refine LeO.bind ?_ (fun _ => ?_)
theorem spec_SynVoterOk.mono : ∀ a0 a1 k, LeO (spec_SynVoterOk.f k a0 a1) (spec_SynVoterOk.f (k + 1) a0 a1) := by
 intro a0 a1 k
 obtain ⟨ih0, ih1⟩ := spec_SynVoterOk.mono_l k
 unfold spec_SynVoterOk.f
 repeat' first
   | (with_reducible exact ih0 _ _ _)
   | (with_reducible exact ih1 _ _ _)
   | (with_reducible exact LeO.refl _)
   | (with_reducible exact LeO.none _)
   | (with_reducible refine LeO.ite ?_ ?_)
   | (with_reducible refine LeO.bind ?_ (fun _ => ?_))
   | exact ih0 _ _ _
   | exact ih1 _ _ _
   | exact LeO.none _
   | refine LeO.ite ?_ ?_
   | refine LeO.bind ?_ (fun _ => ?_)
def spec_SynVoterOk.T6 : Bool × List (List Nat × List Nat) := (true, [([], []), ([0], [0]), ([], []), ([1, 2], [1, 2]), ([3], [3]), ([4], [4]), ([5], [5]), ([6, 5], [6]), ([7], [7]), ([8, 7], [7, 8]), ([7], [7]), ([9, 10, 7], [7, 9, 10]), ([11, 7], [7, 11]), ([12, 7], [7, 12]), ([7], [7]), ([14, 7], [7, 14]), ([13, 15, 7], [7, 13, 15]), ([7, 16], [7, 16]), ([17, 7], [17]), ([18], [18]), ([19, 18], [18, 19]), ([20, 18, 18], [18, 20]), ([21], [21]), ([22, 21], [21, 22]), ([21], [21]), ([24, 21], [21, 24]), ([23, 25, 21], [21, 23, 25]), ([26, 21], [21, 26]), ([27, 21], [21, 27]), ([21], [21]), ([29, 21], [21, 29]), ([21], [21]), ([30, 31, 21], [21, 30, 31]), ([32, 21], [21, 32]), ([33, 21], [21, 33]), ([28, 34, 21], [21, 28, 34]), ([21, 35, 18], [18, 21, 35]), ([18, 36], [18, 36])])
def spec_SynVoterOk.B6 : List Nat := [0, 1, 0, 7, 15, 31, 63, 127, 255, 511, 255, 2047, 4095, 8191, 255, 16639, 65535, 131071, 262143, 524287, 1048575, 2097151, 4194303, 8388607, 4194303, 20971519, 67108863, 134217727, 268435455, 4194303, 541065215, 4194303, 3762290687, 8057257983, 16647192575, 34359738367, 68719476735, 137438953471]
theorem spec_SynVoterOk.tab6 : rtab .any (opsOf Try.f26 6) = spec_SynVoterOk.T6 := by kernel_rfl
theorem spec_SynVoterOk.bits6 : waitsOk spec_SynVoterOk.T6.2 spec_SynVoterOk.B6 = true := by kernel_rfl
end Go.Proofs.Ytoieojmfkkidnaa.P
