/-
  What the exact laws' own functions on a council's lists come to: sizes, copies, likeness.
  Conditions: sizes far below Go's bounds.
-/
import Derived.Test.YtncohokalilnbaaXRounds
import Derived.Test.YtncohokalilnbaaXExVoter
import Derived.Test.YtncohokalilnbaaXExSeeker
import Derived.Test.YtncohokalilnbaaXExWord
import Derived.Test.YtncohokalilnbaaPx5
import Derived.Test.YtncohokalilnbaaPx8
namespace Go.Proofs.YtncohokalilnbaaX
open Go.RowKit Go.Proofs.Ytncohokalilnbaa.P Go.Proofs.YtncohokalilnbaaW.PrintWords Go.Proofs.YtncohokalilnbaaW.PrintLast Go.Proofs.YtncohokalilnbaaW.PrintMore
set_option linter.unusedVariables false
set_option linter.unusedSimpArgs false

theorem szSynVoterS_T (l : List S123) (hl : l.length ≤ 9223372036854775807) (hx : ∀ x ∈ l, x.f1.length ≤ 9223372036854775807) (a : Int) (h0 : 0 ≤ a) (ha : a ≤ 1048576) : T (fun k => laws_szSynVoterS.f k l a) (fun r => r < 0 ∨ (0 ≤ r ∧ r ≤ a ∧ l.length ≤ 1048576 ∧ ∀ x ∈ l, x.f1.length ≤ 1048576)) := by
  unfold laws_szSynVoterS.f
  rw [wrap64_id (x := a - (l.length : Int)) (by omega) (by omega)]
  refine T.ite (fun h => T.ret (.inl (by omega))) (fun h => ?_)
  refine (szS (g := fun k a i => laws_szSynVoterS.l0 k l a i) (one := fun _ x a => laws_szSynVoter.f x.f0 x.f1 a) (B := fun x => x.f1.length ≤ 1048576) l z123 (fun k a i hi => ?_) (fun k a => ?_) (fun x hx1 a h0 ha => ?_) (a - (l.length : Int)) (by omega) (by omega)).mono (fun r hr => ?_)
  · simp only [laws_szSynVoterS.l0]
    rw [if_pos (by omega), if_pos (by omega), wrap_succ hi (by omega)]
    rfl
  · simp only [laws_szSynVoterS.l0]
    rw [if_neg (by omega)]
  · have hz := hx x hx1
    obtain ⟨r, hr, hr2⟩ := sz1 (n := x.f1.length) h0 ha hz
    simp only [laws_szSynVoter.f, laws_szSynPaperS.f, hr, Option.bind_some]
    refine T.ite (fun h => T.ret (.inl (by omega))) (fun h => T.ret ?_)
    obtain hr2 | hr2 := hr2
    · exact absurd hr2 h
    · exact .inr hr2
  · obtain hr | ⟨hr0, hr1, hB⟩ := hr
    · exact .inl hr
    · exact .inr ⟨hr0, by omega, by omega, hB⟩
theorem szSynSeekerS_T (l : List S129) (hl : l.length ≤ 9223372036854775807) (hx : ∀ x ∈ l, x.f5.length ≤ 9223372036854775807) (a : Int) (h0 : 0 ≤ a) (ha : a ≤ 1048576) : T (fun k => laws_szSynSeekerS.f k l a) (fun r => r < 0 ∨ (0 ≤ r ∧ r ≤ a ∧ l.length ≤ 1048576 ∧ ∀ x ∈ l, x.f5.length ≤ 1048576)) := by
  unfold laws_szSynSeekerS.f
  rw [wrap64_id (x := a - (l.length : Int)) (by omega) (by omega)]
  refine T.ite (fun h => T.ret (.inl (by omega))) (fun h => ?_)
  refine (szS (g := fun k a i => laws_szSynSeekerS.l0 k l a i) (one := fun _ x a => laws_szSynSeeker.f x.f0 x.f1 x.f2 x.f3.f0 x.f3.f1 x.f3.f2 x.f3.f3 x.f3.f4 x.f3.f5 x.f3.f6 x.f3.f7 x.f3.f8 x.f3.f9 x.f4.f0 x.f4.f1 x.f4.f2.f0 x.f4.f2.f1 x.f4.f2.f2 x.f4.f2.f3 x.f4.f2.f4 x.f4.f2.f5 x.f4.f2.f6 x.f4.f2.f7 x.f4.f2.f8 x.f4.f2.f9 x.f5 a) (B := fun x => x.f5.length ≤ 1048576) l z129 (fun k a i hi => ?_) (fun k a => ?_) (fun x hx1 a h0 ha => ?_) (a - (l.length : Int)) (by omega) (by omega)).mono (fun r hr => ?_)
  · simp only [laws_szSynSeekerS.l0]
    rw [if_pos (by omega), if_pos (by omega), wrap_succ hi (by omega)]
    rfl
  · simp only [laws_szSynSeekerS.l0]
    rw [if_neg (by omega)]
  · have hz := hx x hx1
    obtain ⟨r, hr, hr2⟩ := sz1 (n := x.f5.length) h0 ha hz
    simp only [laws_szSynSeeker.f, laws_szIntS.f, hr, Option.bind_some]
    refine T.ite (fun h => T.ret (.inl (by omega))) (fun h => T.ret ?_)
    obtain hr2 | hr2 := hr2
    · exact absurd hr2 h
    · exact .inr hr2
  · obtain hr | ⟨hr0, hr1, hB⟩ := hr
    · exact .inl hr
    · exact .inr ⟨hr0, by omega, by omega, hB⟩
theorem szWordS_T (l : List S134) (hl : l.length ≤ 9223372036854775807) (hx : ∀ x ∈ l, x.f15.length ≤ 9223372036854775807 ∧ x.f16.length ≤ 9223372036854775807) (a : Int) (h0 : 0 ≤ a) (ha : a ≤ 1048576) : T (fun k => laws_szWordS.f k l a) (fun r => r < 0 ∨ (0 ≤ r ∧ r ≤ a ∧ l.length ≤ 1048576 ∧ ∀ x ∈ l, x.f15.length ≤ 1048576 ∧ x.f16.length ≤ 1048576)) := by
  unfold laws_szWordS.f
  rw [wrap64_id (x := a - (l.length : Int)) (by omega) (by omega)]
  refine T.ite (fun h => T.ret (.inl (by omega))) (fun h => ?_)
  refine (szS (g := fun k a i => laws_szWordS.l0 k l a i) (one := fun _ x a => laws_szWord.f x.f0 x.f1 x.f2 x.f3 x.f4 x.f5 x.f6.f0 x.f6.f1 x.f6.f2 x.f6.f3 x.f6.f4 x.f6.f5 x.f6.f6 x.f6.f7 x.f6.f8 x.f6.f9 x.f7 x.f8 x.f9 x.f10 x.f11 x.f12 x.f13 x.f14 x.f15 x.f16 a) (B := fun x => x.f15.length ≤ 1048576 ∧ x.f16.length ≤ 1048576) l z134 (fun k a i hi => ?_) (fun k a => ?_) (fun x hx1 a h0 ha => ?_) (a - (l.length : Int)) (by omega) (by omega)).mono (fun r hr => ?_)
  · simp only [laws_szWordS.l0]
    rw [if_pos (by omega), if_pos (by omega), wrap_succ hi (by omega)]
    rfl
  · simp only [laws_szWordS.l0]
    rw [if_neg (by omega)]
  · have hz := hx x hx1
    obtain ⟨r, hr, hr2⟩ := sz1 (n := x.f15.length) h0 ha hz.1
    simp only [laws_szWord.f, laws_szBlkPieceS.f, hr, Option.bind_some]
    refine T.ite (fun h => T.ret (.inl (by omega))) (fun h => ?_)
    obtain hr2 | hr2 := hr2
    · exact absurd hr2 h
    obtain ⟨q, hq, hq2⟩ := sz1 (n := x.f16.length) hr2.1 (by omega) hz.2
    simp only [laws_szBlkLastS.f, hq, Option.bind_some]
    refine T.ite (fun h => T.ret (.inl (by omega))) (fun h => T.ret ?_)
    obtain hq2 | hq2 := hq2
    · exact absurd hq2 h
    · exact .inr ⟨hq2.1, by omega, hr2.2.2, hq2.2.2⟩
  · obtain hr | ⟨hr0, hr1, hB⟩ := hr
    · exact .inl hr
    · exact .inr ⟨hr0, by omega, by omega, hB⟩
def toV (x : S123) : S84 := ⟨x.f0, x.f1.map toPp⟩
def toSk (x : S129) : S88 := ⟨x.f0, x.f1, x.f2, ⟨x.f3.f0, x.f3.f1, x.f3.f2, x.f3.f3, x.f3.f4, x.f3.f5, x.f3.f6, x.f3.f7, x.f3.f8, x.f3.f9⟩, ⟨x.f4.f0, x.f4.f1, ⟨x.f4.f2.f0, x.f4.f2.f1, x.f4.f2.f2, x.f4.f2.f3, x.f4.f2.f4, x.f4.f2.f5, x.f4.f2.f6, x.f4.f2.f7, x.f4.f2.f8, x.f4.f2.f9⟩⟩, x.f5⟩
def toWd (x : S134) : S93 := ⟨x.f0, x.f1, x.f2, x.f3, x.f4, x.f5, ⟨x.f6.f0, x.f6.f1, x.f6.f2, x.f6.f3, x.f6.f4, x.f6.f5, x.f6.f6, x.f6.f7, x.f6.f8, x.f6.f9⟩, x.f7, x.f8, x.f9, x.f10, x.f11, x.f12, x.f13, x.f14, x.f15.map toBlkPiece, x.f16.map toBlkLast⟩
theorem toSynVoterS_T (l : List S123) (hl : l.length ≤ 1048576) (hx : ∀ x ∈ l, x.f1.length ≤ 1048576) : T (fun k => laws_toSynVoterS.f k l) (· = l.map toV) := by
  simp only [laws_toSynVoterS.f]
  refine T.pos (by omega) (T.pos (by omega) ?_)
  refine mapS (g := fun k y i => laws_toSynVoterS.l0 k l y i) (one := fun k x => (laws_toSynVoter.f k x.f0 x.f1).bind fun b => some (⟨b.1, b.2⟩ : S84)) l z123 (fun k y i hi hy => ?_) (fun k y => ?_) (fun x h => ?_) _ (by simp)
  · simp only [laws_toSynVoterS.l0, Option.bind_assoc, Option.bind_some]
    rw [if_pos (by omega), if_pos (by omega)]
    have c : ((i : Nat) : Int) < (y.length : Int) := by omega
    simp only [if_pos c, wrap_succ hi (show l.length ≤ 4611686018427387904 by omega)]
    rfl
  · simp only [laws_toSynVoterS.l0]
    rw [if_neg (by omega)]
  · have hz := hx x h
    exact T.bind_eq (toVoter_T x.f0 x.f1 hz) (T.ret rfl)
theorem toSynSeekerS_T (l : List S129) (hl : l.length ≤ 1048576) (hx : ∀ x ∈ l, x.f5.length ≤ 1048576) : T (fun k => laws_toSynSeekerS.f k l) (· = l.map toSk) := by
  simp only [laws_toSynSeekerS.f]
  refine T.pos (by omega) (T.pos (by omega) ?_)
  refine mapS (g := fun k y i => laws_toSynSeekerS.l0 k l y i) (one := fun k x => (laws_toSynSeeker.f k x.f0 x.f1 x.f2 x.f3.f0 x.f3.f1 x.f3.f2 x.f3.f3 x.f3.f4 x.f3.f5 x.f3.f6 x.f3.f7 x.f3.f8 x.f3.f9 x.f4.f0 x.f4.f1 x.f4.f2.f0 x.f4.f2.f1 x.f4.f2.f2 x.f4.f2.f3 x.f4.f2.f4 x.f4.f2.f5 x.f4.f2.f6 x.f4.f2.f7 x.f4.f2.f8 x.f4.f2.f9 x.f5).bind fun b => some (⟨b.1, b.2.1, b.2.2.1, ⟨b.2.2.2.1, b.2.2.2.2.1, b.2.2.2.2.2.1, b.2.2.2.2.2.2.1, b.2.2.2.2.2.2.2.1, b.2.2.2.2.2.2.2.2.1, b.2.2.2.2.2.2.2.2.2.1, b.2.2.2.2.2.2.2.2.2.2.1, b.2.2.2.2.2.2.2.2.2.2.2.1, b.2.2.2.2.2.2.2.2.2.2.2.2.1⟩, ⟨b.2.2.2.2.2.2.2.2.2.2.2.2.2.1, b.2.2.2.2.2.2.2.2.2.2.2.2.2.2.1, ⟨b.2.2.2.2.2.2.2.2.2.2.2.2.2.2.2.1, b.2.2.2.2.2.2.2.2.2.2.2.2.2.2.2.2.1, b.2.2.2.2.2.2.2.2.2.2.2.2.2.2.2.2.2.1, b.2.2.2.2.2.2.2.2.2.2.2.2.2.2.2.2.2.2.1, b.2.2.2.2.2.2.2.2.2.2.2.2.2.2.2.2.2.2.2.1, b.2.2.2.2.2.2.2.2.2.2.2.2.2.2.2.2.2.2.2.2.1, b.2.2.2.2.2.2.2.2.2.2.2.2.2.2.2.2.2.2.2.2.2.1, b.2.2.2.2.2.2.2.2.2.2.2.2.2.2.2.2.2.2.2.2.2.2.1, b.2.2.2.2.2.2.2.2.2.2.2.2.2.2.2.2.2.2.2.2.2.2.2.1, b.2.2.2.2.2.2.2.2.2.2.2.2.2.2.2.2.2.2.2.2.2.2.2.2.1⟩⟩, b.2.2.2.2.2.2.2.2.2.2.2.2.2.2.2.2.2.2.2.2.2.2.2.2.2⟩ : S88)) l z129 (fun k y i hi hy => ?_) (fun k y => ?_) (fun x h => ?_) _ (by simp)
  · simp only [laws_toSynSeekerS.l0, Option.bind_assoc, Option.bind_some]
    rw [if_pos (by omega), if_pos (by omega)]
    have c : ((i : Nat) : Int) < (y.length : Int) := by omega
    simp only [if_pos c, wrap_succ hi (show l.length ≤ 4611686018427387904 by omega)]
    rfl
  · simp only [laws_toSynSeekerS.l0]
    rw [if_neg (by omega)]
  · have hz := hx x h
    exact T.bind_eq (toSeeker_T x.f0 x.f1 x.f2 x.f3.f0 x.f3.f1 x.f3.f2 x.f3.f3 x.f3.f4 x.f3.f5 x.f3.f6 x.f3.f7 x.f3.f8 x.f3.f9 x.f4.f0 x.f4.f1 x.f4.f2.f0 x.f4.f2.f1 x.f4.f2.f2 x.f4.f2.f3 x.f4.f2.f4 x.f4.f2.f5 x.f4.f2.f6 x.f4.f2.f7 x.f4.f2.f8 x.f4.f2.f9 x.f5 hz) (T.ret rfl)
theorem toWordS_T (l : List S134) (hl : l.length ≤ 1048576) (hx : ∀ x ∈ l, x.f15.length ≤ 1048576 ∧ x.f16.length ≤ 1048576) : T (fun k => laws_toWordS.f k l) (· = l.map toWd) := by
  simp only [laws_toWordS.f]
  refine T.pos (by omega) (T.pos (by omega) ?_)
  refine mapS (g := fun k y i => laws_toWordS.l0 k l y i) (one := fun k x => (laws_toWord.f k x.f0 x.f1 x.f2 x.f3 x.f4 x.f5 x.f6.f0 x.f6.f1 x.f6.f2 x.f6.f3 x.f6.f4 x.f6.f5 x.f6.f6 x.f6.f7 x.f6.f8 x.f6.f9 x.f7 x.f8 x.f9 x.f10 x.f11 x.f12 x.f13 x.f14 x.f15 x.f16).bind fun b => some (⟨b.1, b.2.1, b.2.2.1, b.2.2.2.1, b.2.2.2.2.1, b.2.2.2.2.2.1, ⟨b.2.2.2.2.2.2.1, b.2.2.2.2.2.2.2.1, b.2.2.2.2.2.2.2.2.1, b.2.2.2.2.2.2.2.2.2.1, b.2.2.2.2.2.2.2.2.2.2.1, b.2.2.2.2.2.2.2.2.2.2.2.1, b.2.2.2.2.2.2.2.2.2.2.2.2.1, b.2.2.2.2.2.2.2.2.2.2.2.2.2.1, b.2.2.2.2.2.2.2.2.2.2.2.2.2.2.1, b.2.2.2.2.2.2.2.2.2.2.2.2.2.2.2.1⟩, b.2.2.2.2.2.2.2.2.2.2.2.2.2.2.2.2.1, b.2.2.2.2.2.2.2.2.2.2.2.2.2.2.2.2.2.1, b.2.2.2.2.2.2.2.2.2.2.2.2.2.2.2.2.2.2.1, b.2.2.2.2.2.2.2.2.2.2.2.2.2.2.2.2.2.2.2.1, b.2.2.2.2.2.2.2.2.2.2.2.2.2.2.2.2.2.2.2.2.1, b.2.2.2.2.2.2.2.2.2.2.2.2.2.2.2.2.2.2.2.2.2.1, b.2.2.2.2.2.2.2.2.2.2.2.2.2.2.2.2.2.2.2.2.2.2.1, b.2.2.2.2.2.2.2.2.2.2.2.2.2.2.2.2.2.2.2.2.2.2.2.1, b.2.2.2.2.2.2.2.2.2.2.2.2.2.2.2.2.2.2.2.2.2.2.2.2.1, b.2.2.2.2.2.2.2.2.2.2.2.2.2.2.2.2.2.2.2.2.2.2.2.2.2⟩ : S93)) l z134 (fun k y i hi hy => ?_) (fun k y => ?_) (fun x h => ?_) _ (by simp)
  · simp only [laws_toWordS.l0, Option.bind_assoc, Option.bind_some]
    rw [if_pos (by omega), if_pos (by omega)]
    have c : ((i : Nat) : Int) < (y.length : Int) := by omega
    simp only [if_pos c, wrap_succ hi (show l.length ≤ 4611686018427387904 by omega)]
    rfl
  · simp only [laws_toWordS.l0]
    rw [if_neg (by omega)]
  · have hz := hx x h
    exact T.bind_eq (toWord_T x.f0 x.f1 x.f2 x.f3 x.f4 x.f5 x.f6.f0 x.f6.f1 x.f6.f2 x.f6.f3 x.f6.f4 x.f6.f5 x.f6.f6 x.f6.f7 x.f6.f8 x.f6.f9 x.f7 x.f8 x.f9 x.f10 x.f11 x.f12 x.f13 x.f14 x.f15 x.f16 hz.1 hz.2) (T.ret rfl)
theorem toPpS_T (l : List S127) (hl : l.length ≤ 1048576) : T (fun k => laws_toSynPaperS.f k l) (· = l.map toPp) := by
  simp only [laws_toSynPaperS.f]
  refine T.pos (by omega) (T.pos (by omega) ?_)
  exact toPp_loop l hl _ 0 _ rfl (Nat.zero_le _) (by simp) rfl
theorem toCouncil_T (V : List S123) (R : List Int) (Sk : List S129) (W : List S134) (D : List S127) (hV : V.length ≤ 1048576) (hV2 : ∀ x ∈ V, x.f1.length ≤ 1048576) (hR : R.length ≤ 1048576) (hS : Sk.length ≤ 1048576) (hS2 : ∀ x ∈ Sk, x.f5.length ≤ 1048576) (hW : W.length ≤ 1048576) (hW2 : ∀ x ∈ W, x.f15.length ≤ 1048576 ∧ x.f16.length ≤ 1048576) (hD : D.length ≤ 1048576) : T (fun k => laws_toSynCouncil.f k V R Sk W D) (· = (V.map toV, R, Sk.map toSk, W.map toWd, D.map toPp)) := by
  simp only [laws_toSynCouncil.f]
  refine T.bind_eq (toSynVoterS_T V hV hV2) ?_
  refine T.bind_eq (toIntS_T R hR) ?_
  refine T.bind_eq (toSynSeekerS_T Sk hS hS2) ?_
  refine T.bind_eq (toWordS_T W hW hW2) ?_
  exact T.bind_eq (toPpS_T D hD) (T.ret rfl)
theorem eqSynVoterS_same (l : List S84) (hl : l.length ≤ 4611686018427387904) (hx : ∀ x ∈ l, x.f1.length ≤ 4611686018427387904) : T (fun k => laws_eqSynVoterS.f k l l) (· = true) := by
  simp only [laws_eqSynVoterS.f]
  refine T.pos trivial ?_
  refine (allS (g := fun k i => laws_eqSynVoterS.l0 k l l i) (one := fun k x => laws_eqSynVoter.f k x.f0 x.f1 x.f0 x.f1) (rest := fun _ => some true) (F := fun _ => true) (R := true) l z84 (fun k i hi => ?_) (fun k => ?_) (fun x h => ?_) (T.ret rfl)).mono (fun r hr => by rw [hr]; simp)
  · simp only [laws_eqSynVoterS.l0]
    rw [if_pos (by omega), if_pos (by omega), if_pos (by omega), wrap_succ hi hl]
    rfl
  · simp only [laws_eqSynVoterS.l0]
    rw [if_neg (by omega)]
  · have hz := hx x h
    exact (eqVoter_T x.f0 x.f0 x.f1 x.f1 hz).mono (fun r hr => hr.2 ⟨rfl, rfl⟩)
theorem eqSynSeekerS_same (l : List S88) (hl : l.length ≤ 4611686018427387904) (hx : ∀ x ∈ l, x.f5.length ≤ 4611686018427387904) : T (fun k => laws_eqSynSeekerS.f k l l) (· = true) := by
  simp only [laws_eqSynSeekerS.f]
  refine T.pos trivial ?_
  refine (allS (g := fun k i => laws_eqSynSeekerS.l0 k l l i) (one := fun k x => laws_eqSynSeeker.f k x.f0 x.f1 x.f2 x.f3.f0 x.f3.f1 x.f3.f2 x.f3.f3 x.f3.f4 x.f3.f5 x.f3.f6 x.f3.f7 x.f3.f8 x.f3.f9 x.f4.f0 x.f4.f1 x.f4.f2.f0 x.f4.f2.f1 x.f4.f2.f2 x.f4.f2.f3 x.f4.f2.f4 x.f4.f2.f5 x.f4.f2.f6 x.f4.f2.f7 x.f4.f2.f8 x.f4.f2.f9 x.f5 x.f0 x.f1 x.f2 x.f3.f0 x.f3.f1 x.f3.f2 x.f3.f3 x.f3.f4 x.f3.f5 x.f3.f6 x.f3.f7 x.f3.f8 x.f3.f9 x.f4.f0 x.f4.f1 x.f4.f2.f0 x.f4.f2.f1 x.f4.f2.f2 x.f4.f2.f3 x.f4.f2.f4 x.f4.f2.f5 x.f4.f2.f6 x.f4.f2.f7 x.f4.f2.f8 x.f4.f2.f9 x.f5) (rest := fun _ => some true) (F := fun _ => true) (R := true) l z88 (fun k i hi => ?_) (fun k => ?_) (fun x h => ?_) (T.ret rfl)).mono (fun r hr => by rw [hr]; simp)
  · simp only [laws_eqSynSeekerS.l0]
    rw [if_pos (by omega), if_pos (by omega), if_pos (by omega), wrap_succ hi hl]
    rfl
  · simp only [laws_eqSynSeekerS.l0]
    rw [if_neg (by omega)]
  · have hz := hx x h
    exact eqSeeker_same x.f0 x.f1 x.f2 x.f3.f0 x.f3.f1 x.f3.f2 x.f3.f3 x.f3.f4 x.f3.f5 x.f3.f6 x.f3.f7 x.f3.f8 x.f3.f9 x.f4.f0 x.f4.f1 x.f4.f2.f0 x.f4.f2.f1 x.f4.f2.f2 x.f4.f2.f3 x.f4.f2.f4 x.f4.f2.f5 x.f4.f2.f6 x.f4.f2.f7 x.f4.f2.f8 x.f4.f2.f9 x.f5 hz
theorem eqWordS_same (l : List S93) (hl : l.length ≤ 4611686018427387904) (hx : ∀ x ∈ l, x.f15.length ≤ 4611686018427387904 ∧ x.f16.length ≤ 4611686018427387904) : T (fun k => laws_eqWordS.f k l l) (· = true) := by
  simp only [laws_eqWordS.f]
  refine T.pos trivial ?_
  refine (allS (g := fun k i => laws_eqWordS.l0 k l l i) (one := fun k x => laws_eqWord.f k x.f0 x.f1 x.f2 x.f3 x.f4 x.f5 x.f6.f0 x.f6.f1 x.f6.f2 x.f6.f3 x.f6.f4 x.f6.f5 x.f6.f6 x.f6.f7 x.f6.f8 x.f6.f9 x.f7 x.f8 x.f9 x.f10 x.f11 x.f12 x.f13 x.f14 x.f15 x.f16 x.f0 x.f1 x.f2 x.f3 x.f4 x.f5 x.f6.f0 x.f6.f1 x.f6.f2 x.f6.f3 x.f6.f4 x.f6.f5 x.f6.f6 x.f6.f7 x.f6.f8 x.f6.f9 x.f7 x.f8 x.f9 x.f10 x.f11 x.f12 x.f13 x.f14 x.f15 x.f16) (rest := fun _ => some true) (F := fun _ => true) (R := true) l z93 (fun k i hi => ?_) (fun k => ?_) (fun x h => ?_) (T.ret rfl)).mono (fun r hr => by rw [hr]; simp)
  · simp only [laws_eqWordS.l0]
    rw [if_pos (by omega), if_pos (by omega), if_pos (by omega), wrap_succ hi hl]
    rfl
  · simp only [laws_eqWordS.l0]
    rw [if_neg (by omega)]
  · have hz := hx x h
    exact eqWord_same x.f0 x.f1 x.f2 x.f3 x.f4 x.f5 x.f6.f0 x.f6.f1 x.f6.f2 x.f6.f3 x.f6.f4 x.f6.f5 x.f6.f6 x.f6.f7 x.f6.f8 x.f6.f9 x.f7 x.f8 x.f9 x.f10 x.f11 x.f12 x.f13 x.f14 x.f15 x.f16 hz.1 hz.2
theorem eqPpS_same (l : List S53) (hl : l.length ≤ 4611686018427387904) : T (fun k => laws_eqSynPaperS.f k l l) (· = true) := by
  simp only [laws_eqSynPaperS.f]
  refine T.pos trivial ?_
  exact (eqPp_loop l l rfl hl _ 0 rfl (Nat.zero_le _)).mono (fun r hr => hr.2 rfl)
theorem eqCouncil_same (V : List S84) (R : List Int) (Sk : List S88) (W : List S93) (D : List S53) (hV : V.length ≤ 1048576) (hV2 : ∀ x ∈ V, x.f1.length ≤ 1048576) (hR : R.length ≤ 1048576) (hS : Sk.length ≤ 1048576) (hS2 : ∀ x ∈ Sk, x.f5.length ≤ 1048576) (hW : W.length ≤ 1048576) (hW2 : ∀ x ∈ W, x.f15.length ≤ 1048576 ∧ x.f16.length ≤ 1048576) (hD : D.length ≤ 1048576) : T (fun k => laws_eqSynCouncil.f k V R Sk W D V R Sk W D) (· = true) := by
  simp only [laws_eqSynCouncil.f]
  refine T.bind_eq (eqSynVoterS_same V (by omega) (fun x h => by have := hV2 x h; omega)) (T.pos rfl ?_)
  refine T.bind (eqIntS_T R R (by omega)) (fun r hr => T.pos (hr.2 rfl) ?_)
  refine T.bind_eq (eqSynSeekerS_same Sk (by omega) (fun x h => by have := hS2 x h; omega)) (T.pos rfl ?_)
  refine T.bind_eq (eqWordS_same W (by omega) (fun x h => by have := hW2 x h; omega)) (T.pos rfl ?_)
  exact T.bind_eq (eqPpS_same D (by omega)) (T.pos rfl (T.ret rfl))
/-- A council's size is taken off what is left; what is left says that its lists are short. -/
theorem szCouncil_T (V : List S123) (R : List Int) (Sk : List S129) (W : List S134) (D : List S127) (hV : V.length ≤ 9223372036854775807) (hV2 : ∀ x ∈ V, x.f1.length ≤ 9223372036854775807) (hR : R.length ≤ 9223372036854775807) (hS : Sk.length ≤ 9223372036854775807) (hS2 : ∀ x ∈ Sk, x.f5.length ≤ 9223372036854775807) (hW : W.length ≤ 9223372036854775807) (hW2 : ∀ x ∈ W, x.f15.length ≤ 9223372036854775807 ∧ x.f16.length ≤ 9223372036854775807) (hD : D.length ≤ 9223372036854775807) : T (fun k => laws_szSynCouncil.f k V R Sk W D 1048576) (fun r => r < 0 ∨ ((V.length ≤ 1048576 ∧ ∀ x ∈ V, x.f1.length ≤ 1048576) ∧ R.length ≤ 1048576 ∧ (Sk.length ≤ 1048576 ∧ ∀ x ∈ Sk, x.f5.length ≤ 1048576) ∧ (W.length ≤ 1048576 ∧ ∀ x ∈ W, x.f15.length ≤ 1048576 ∧ x.f16.length ≤ 1048576) ∧ D.length ≤ 1048576)) := by
  simp only [laws_szSynCouncil.f]
  refine T.bind (szSynVoterS_T V hV hV2 1048576 (by omega) (by omega)) (fun r hr => T.ite (fun h => T.ret (.inl (by omega))) (fun h => ?_))
  obtain hr | ⟨hr0, hr1, hr2⟩ := hr
  · exact absurd hr h
  obtain ⟨q, hq, hq2⟩ := sz1 (n := R.length) hr0 hr1 hR
  simp only [laws_szIntS.f, hq, Option.bind_some]
  refine T.ite (fun h => T.ret (.inl (by omega))) (fun h => ?_)
  obtain hq2 | ⟨hq0, hq1, hq2⟩ := hq2
  · exact absurd hq2 h
  refine T.bind (szSynSeekerS_T Sk hS hS2 q hq0 (by omega)) (fun s hs => T.ite (fun h => T.ret (.inl (by omega))) (fun h => ?_))
  obtain hs | ⟨hs0, hs1, hs2⟩ := hs
  · exact absurd hs h
  refine T.bind (szWordS_T W hW hW2 s hs0 (by omega)) (fun u hu => T.ite (fun h => T.ret (.inl (by omega))) (fun h => ?_))
  obtain hu | ⟨hu0, hu1, hu2⟩ := hu
  · exact absurd hu h
  obtain ⟨v, hv, hv2⟩ := sz1 (n := D.length) hu0 (by omega) hD
  simp only [laws_szSynPaperS.f, hv, Option.bind_some]
  refine T.ite (fun h => T.ret (.inl (by omega))) (fun h => T.ret ?_)
  obtain hv2 | ⟨hv0, hv1, hv2⟩ := hv2
  · exact absurd hv2 h
  · exact .inr ⟨hr2, hq2, hs2, hu2, hv2⟩
end Go.Proofs.YtncohokalilnbaaX
