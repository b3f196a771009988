-- printed by pprint.py (this session's program over the kit's printer) out of the translation. Lean checks it.
import Derived.Test.YtdcdaclmicmiaaaPx0
import Derived.Test.YtdcdaclmicmiaaaPx3
import Derived.Test.YtdcdaclmicmiaaaPx15
import Derived.Test.YtdcdaclmicmiaaaPx16
namespace Go.Proofs.Ytdcdaclmicmiaaa.P
open Go.RowKit Go.Proofs.YtdcdaclmicmiaaaX Go.Proofs.YtdcdaclmicmiaaaW.PrintWords Go.Proofs.YtdcdaclmicmiaaaW.PrintLast Go.Proofs.YtdcdaclmicmiaaaW.PrintMore
attribute [local go_sem] max2_int min2_int max_two min_two max_three min_three max_four min_four   -- for this text's walks alone
set_option linter.unusedVariables false
set_option linter.unusedSimpArgs false

/-! ### spec_BlkMark: function 28 -/
mutual
def spec_BlkMark.j0 : Nat → List (S59) → Int → Int → List (S59) → Bool → Option ((List (S59)))
 | 0, _, _, _, _, _ => none
 | k + 1, x0, x1, x2, x7, x29 => if x29 = true then (if x7.length + x0.length < 8796093022208 then (some (x7 ++ x0)) else (none)) else (spec_BlkMark.l0 k x0 x1 x2 x7 0)
def spec_BlkMark.l0 : Nat → List (S59) → Int → Int → List (S59) → Int → Option ((List (S59)))
 | 0, _, _, _, _, _ => none
 | k + 1, x0, x1, x2, x7, x8 => if x8 < 4 then ((spec_BlkCall.f k x0 x8).bind fun t234 => (if x8 = x1 then (if x2 > 0 then (if x7.length < 8796093022208 then (spec_BlkMark.l0 k x0 x1 x2 (x7 ++ [(⟨x8, x2⟩ : S59)]) (wrap64 (x8 + 1))) else (none)) else (spec_BlkMark.l0 k x0 x1 x2 x7 (wrap64 (x8 + 1)))) else (if t234 > 0 then (if x7.length < 8796093022208 then (spec_BlkMark.l0 k x0 x1 x2 (x7 ++ [(⟨x8, t234⟩ : S59)]) (wrap64 (x8 + 1))) else (none)) else (spec_BlkMark.l0 k x0 x1 x2 x7 (wrap64 (x8 + 1)))))) else (some x7)
end
def spec_BlkMark.f (k : Nat) (l0 : List (S59)) (a1 : Int) (a2 : Int) : Option ((List (S59))) := (some (([] : List (S59)) : List (S59))).bind fun y224 => ((spec_l3LastOk.f k l0).bind fun t227 => (if t227 = true then ((spec_l6In.f a1 0 3).bind fun t228 => (if t228 = true then ((spec_l6In.f a2 1 99999).bind fun t229 => (if t229 = true then ((spec_BlkCall.f k l0 a1).bind fun t230 => (spec_BlkMark.j0 k l0 a1 a2 y224 (decide (t230 ≥ a2)))) else (spec_BlkMark.j0 k l0 a1 a2 y224 true))) else (spec_BlkMark.j0 k l0 a1 a2 y224 true))) else (some y224)))
theorem spec_BlkMark.mono_l : ∀ k, (∀ y0 y1 y2 y3 y4, LeO (spec_BlkMark.j0 k y0 y1 y2 y3 y4) (spec_BlkMark.j0 (k + 1) y0 y1 y2 y3 y4)) ∧ (∀ y0 y1 y2 y3 y4, LeO (spec_BlkMark.l0 k y0 y1 y2 y3 y4) (spec_BlkMark.l0 (k + 1) y0 y1 y2 y3 y4))
 | 0 => ⟨fun _ _ _ _ _ r h => by simp [spec_BlkMark.j0] at h, fun _ _ _ _ _ r h => by simp [spec_BlkMark.l0] at h⟩
 | k + 1 => by
  obtain ⟨ih0, ih1⟩ := spec_BlkMark.mono_l k
  refine ⟨?_, ?_⟩
  ·intro y0 y1 y2 y3 y4
   unfold spec_BlkMark.j0
   repeat' first
   | (with_reducible exact ih0 _ _ _ _ _)
   | (with_reducible exact ih1 _ _ _ _ _)
   | (with_reducible exact spec_BlkCall.mono _ _ _)
   | (with_reducible exact spec_l3LastOk.mono _ _)
   | (with_reducible exact LeO.refl _)
   | (with_reducible exact LeO.none _)
   | (with_reducible refine LeO.ite ?_ ?_)
   | (with_reducible refine LeO.bind ?_ (fun _ => ?_))
   | exact ih0 _ _ _ _ _
   | exact ih1 _ _ _ _ _
   | exact spec_BlkCall.mono _ _ _
   | exact spec_l3LastOk.mono _ _
   | exact LeO.none _
   | refine LeO.ite ?_ ?_
   | refine LeO.bind ?_ (fun _ => ?_)
  ·intro y0 y1 y2 y3 y4
   unfold spec_BlkMark.l0
   repeat' first
   | (with_reducible exact ih0 _ _ _ _ _)
   | (with_reducible exact ih1 _ _ _ _ _)
   | (with_reducible exact spec_BlkCall.mono _ _ _)
   | (with_reducible exact spec_l3LastOk.mono _ _)
   | (with_reducible exact LeO.refl _)
   | (with_reducible exact LeO.none _)
   | (with_reducible refine LeO.ite ?_ ?_)
   | (with_reducible refine LeO.bind ?_ (fun _ => ?_))
   | exact ih0 _ _ _ _ _
   | exact ih1 _ _ _ _ _
   | exact spec_BlkCall.mono _ _ _
   | exact spec_l3LastOk.mono _ _
   | exact LeO.none _
   | refine LeO.ite ?_ ?_
   | refine LeO.bind ?_ (fun _ => ?_)
theorem spec_BlkMark.mono : ∀ a0 a1 a2 k, LeO (spec_BlkMark.f k a0 a1 a2) (spec_BlkMark.f (k + 1) a0 a1 a2) := by
 intro a0 a1 a2 k
 obtain ⟨ih0, ih1⟩ := spec_BlkMark.mono_l k
 unfold spec_BlkMark.f
 repeat' first
   | (with_reducible exact ih0 _ _ _ _ _)
   | (with_reducible exact ih1 _ _ _ _ _)
   | (with_reducible exact spec_BlkCall.mono _ _ _)
   | (with_reducible exact spec_l3LastOk.mono _ _)
   | (with_reducible exact LeO.refl _)
   | (with_reducible exact LeO.none _)
   | (with_reducible refine LeO.ite ?_ ?_)
   | (with_reducible refine LeO.bind ?_ (fun _ => ?_))
   | exact ih0 _ _ _ _ _
   | exact ih1 _ _ _ _ _
   | exact spec_BlkCall.mono _ _ _
   | exact spec_l3LastOk.mono _ _
   | exact LeO.none _
   | refine LeO.ite ?_ ?_
   | refine LeO.bind ?_ (fun _ => ?_)
set_option maxHeartbeats 8000000 in
set_option maxRecDepth 100000 in
theorem spec_BlkMark.calls (k : Nat) (A0 : Option Addr) (c0 : Nat) (l0 : List (S59)) (a1 : Int) (a2 : Int) (r : List (S59)) (w : World) (hr0 : Kd.C k59 w A0 l0.length l0) (hc0 : l0.length ≤ c0) (h : spec_BlkMark.f k l0 a1 a2 = some r) :
  Calls Try.prog 28 #[.slice A0 l0.length c0, .int .i64 a1, .int .i64 a2] w fun e w' => ∃ v0_ : Value, e = .returned (v0_) ∧ Kd.R k59 59 w' w.heap.size (fun _ => True) v0_ r ∧ Below w.heap.size w w' := by
 have hu59 := Try.underlying59
 have HR0 := Aside0.mk hr0
 have HC0 := Aside0.mk hc0
 clear hr0 hc0
 have HB := Aside0.mk (Below.refl w.heap.size w)
 have H : ((some (([] : List (S59)) : List (S59))).bind fun y224 => ((spec_l3LastOk.f k l0).bind fun t227 => (if t227 = true then ((spec_l6In.f a1 0 3).bind fun t228 => (if t228 = true then ((spec_l6In.f a2 1 99999).bind fun t229 => (if t229 = true then ((spec_BlkCall.f k l0 a1).bind fun t230 => (spec_BlkMark.j0 k l0 a1 a2 y224 (decide (t230 ≥ a2)))) else (spec_BlkMark.j0 k l0 a1 a2 y224 true))) else (spec_BlkMark.j0 k l0 a1 a2 y224 true))) else (some y224)))) = some r := h
 clear h
 obtain ⟨y224, hy224⟩ : ∃ y_ : List (S59), y_ = (([] : List (S59))) := ⟨_, rfl⟩
 replace H : ((spec_l3LastOk.f k l0).bind fun t227 => (if t227 = true then ((spec_l6In.f a1 0 3).bind fun t228 => (if t228 = true then ((spec_l6In.f a2 1 99999).bind fun t229 => (if t229 = true then ((spec_BlkCall.f k l0 a1).bind fun t230 => (spec_BlkMark.j0 k l0 a1 a2 y224 (decide (t230 ≥ a2)))) else (spec_BlkMark.j0 k l0 a1 a2 y224 true))) else (spec_BlkMark.j0 k l0 a1 a2 y224 true))) else (some y224))) = some r := by first | (rw [hy224]; with_reducible exact H) | (have H2_ := (Option.bind_some _ _).symm.trans H; rw [hy224]; with_reducible exact H2_) | (have H2_ := (Option.bind_some _ _).symm.trans H; with_reducible exact H2_) | with_reducible exact H | (rw [hy224]; exact H) | exact H
 have Ny224 := Aside0.mk hy224
 clear hy224
 replace H := Option.bind_eq_some_iff.mp H
 obtain ⟨t227, A40, H⟩ := H
 replace H : (if t227 = true then ((spec_l6In.f a1 0 3).bind fun t228 => (if t228 = true then ((spec_l6In.f a2 1 99999).bind fun t229 => (if t229 = true then ((spec_BlkCall.f k l0 a1).bind fun t230 => (spec_BlkMark.j0 k l0 a1 a2 y224 (decide (t230 ≥ a2)))) else (spec_BlkMark.j0 k l0 a1 a2 y224 true))) else (spec_BlkMark.j0 k l0 a1 a2 y224 true))) else (some y224)) = some r := H
 have A4 := Aside0.mk A40
 clear A40
 by_cases c5 : t227 = true
 ·subst c5
  have H1 : ((spec_l6In.f a1 0 3).bind fun t228 => (if t228 = true then ((spec_l6In.f a2 1 99999).bind fun t229 => (if t229 = true then ((spec_BlkCall.f k l0 a1).bind fun t230 => (spec_BlkMark.j0 k l0 a1 a2 y224 (decide (t230 ≥ a2)))) else (spec_BlkMark.j0 k l0 a1 a2 y224 true))) else (spec_BlkMark.j0 k l0 a1 a2 y224 true))) = some r := by rw [if_pos rfl] at H; exact H
  clear H
  have H := H1
  clear H1
  have HC6 := Aside0.mk H
  clear H
  go_enter Try.func28, Try.ntmps28
  go_upto_region 4 with (first | ((with_reducible refine gate_dst (N := 10) rfl ?_); refine Kd.R_lit k59 _ 59 ?hg (N := 10) ?hd (xs := ([] : List (S59))) (inner := []) (ok := fun _ => True) (okp := fun _ => True) ?hr ?hp (fun _ hk => hk) trivial (Below.refl _ _) (Nat.le_refl _) (by simp) ?_; (case hd => rfl); (case hg => rfl); (case hr => first | (go_simp; done) | (go_simp; rfl)); (case hp => exact (Reps.none _ _)); intro v225 w7 ho8 hb hg_ hnew_; clear hg_ hnew_; (first | rw [← Ny224.out] at ho8 | (simp only [Int.reduceToNat] at ho8; rw [← Ny224.out] at ho8)); have n0_ := Aside0.mk (Kd.R_lower ho8 (below_size (pB HB.out))); have n1_ := Aside0.mk (below_step (pB HB.out) hb); clear HB; have HO226 := n0_; have HB := n1_; clear n0_ n1_; clear hb ho8) | ((with_reducible refine gate_callee (f := 42) rfl ?_); refine goesL_ (some 12) rfl rfl Try.func42 (by kernel_rfl) rfl #[.slice A0 l0.length c0] rfl bM ?_; (with_reducible refine (spec_l3LastOk.calls k _ _ l0 true _ ?side1 ?side2 A4.out).mono ?_); (case side1 => repeat (first | exact (Kd.C_below HR0.out HB.out) | (with_reducible refine Kd.C_alloc ?_ _) | (with_reducible refine Kd.C_drewN ?_ _) | (with_reducible refine Kd.C_drew ?_))); (case side2 => exact HC0.out); rintro e w9 ⟨rfl, hb⟩; refine ⟨_, rfl, ?_⟩; have n0_ := Aside0.mk (Kd.R_below (pR HO226.out) hb); have n1_ := Aside0.mk (below_step (pB HB.out) hb); clear HO226; clear HB; have HO226 := n0_; have HB := n1_; clear n0_ n1_; (try clear hb); (try clear hb2); (try clear hk); (try clear hi)))
  (try simp only [Act.put, List.setIfInBounds_toArray, List.set_cons_zero, List.set_cons_succ])
  go_cut [29] (fun v29 wc => ∃ (kq : Nat) (x29_5 : Bool), v29 = .bool x29_5 ∧ Aside0 (spec_BlkMark.j0 kq l0 a1 a2 y224 x29_5 = some r) ∧ Aside0 (kq ≤ k) ∧ Aside0 (Kd.R k59 59 wc w.heap.size (fun _ => True) v225 y224) ∧ Aside0 (Below w.heap.size w wc))
  case first =>
   have H := HC6.out
   clear HC6
   replace H := Option.bind_eq_some_iff.mp H
   obtain ⟨t228, A100, H⟩ := H
   replace H : (if t228 = true then ((spec_l6In.f a2 1 99999).bind fun t229 => (if t229 = true then ((spec_BlkCall.f k l0 a1).bind fun t230 => (spec_BlkMark.j0 k l0 a1 a2 y224 (decide (t230 ≥ a2)))) else (spec_BlkMark.j0 k l0 a1 a2 y224 true))) else (spec_BlkMark.j0 k l0 a1 a2 y224 true)) = some r := H
   have A10 := Aside0.mk A100
   clear A100
   by_cases c11 : t228 = true
   ·subst c11
    have H1 : ((spec_l6In.f a2 1 99999).bind fun t229 => (if t229 = true then ((spec_BlkCall.f k l0 a1).bind fun t230 => (spec_BlkMark.j0 k l0 a1 a2 y224 (decide (t230 ≥ a2)))) else (spec_BlkMark.j0 k l0 a1 a2 y224 true))) = some r := by rw [if_pos rfl] at H; exact H
    clear H
    have H := H1
    clear H1
    replace H := Option.bind_eq_some_iff.mp H
    obtain ⟨t229, A120, H⟩ := H
    replace H : (if t229 = true then ((spec_BlkCall.f k l0 a1).bind fun t230 => (spec_BlkMark.j0 k l0 a1 a2 y224 (decide (t230 ≥ a2)))) else (spec_BlkMark.j0 k l0 a1 a2 y224 true)) = some r := H
    have A12 := Aside0.mk A120
    clear A120
    by_cases c13 : t229 = true
    ·subst c13
     have H1 : ((spec_BlkCall.f k l0 a1).bind fun t230 => (spec_BlkMark.j0 k l0 a1 a2 y224 (decide (t230 ≥ a2)))) = some r := by rw [if_pos rfl] at H; exact H
     clear H
     have H := H1
     clear H1
     replace H := Option.bind_eq_some_iff.mp H
     obtain ⟨t230, A140, H⟩ := H
     replace H : (spec_BlkMark.j0 k l0 a1 a2 y224 (decide (t230 ≥ a2))) = some r := H
     have A14 := Aside0.mk A140
     clear A140
     have H' := Aside0.mk H
     clear H
     go_wp2_with (first | ((with_reducible refine gate_callee (f := 46) rfl ?_); refine goesL_ (some 16) rfl rfl Try.func46 (by kernel_rfl) rfl #[.int .i64 a1, .int .i64 0, .int .i64 3] rfl bM ?_; (with_reducible refine (spec_l6In.calls a1 0 3 true _ A10.out).mono ?_); rintro e w' ⟨rfl, ⟨nd, rfl⟩⟩; refine ⟨_, rfl, ?_⟩) | (go_at_call 46; (with_reducible refine (spec_l6In.calls a2 1 99999 true _ A12.out).mono ?_); rintro e w' ⟨rfl, ⟨nd, rfl⟩⟩) | (go_at_call 16; (with_reducible refine (spec_BlkCall.calls k _ _ l0 a1 t230 _ ?side1 ?side2 A14.out).mono ?_); (case side1 => repeat (first | exact (Kd.C_below HR0.out (pB HB.out)) | (with_reducible refine Kd.C_alloc ?_ _) | (with_reducible refine Kd.C_drewN ?_ _) | (with_reducible refine Kd.C_drew ?_))); (case side2 => exact HC0.out); rintro e w15 ⟨rfl, hb⟩; have n0_ := Aside0.mk (Kd.R_below (pR HO226.out) hb); have n1_ := Aside0.mk (below_step (pB HB.out) hb); clear HO226; clear HB; have HO226 := n0_; have HB := n1_; clear n0_ n1_; (try clear hb); (try clear hb2); (try clear hk); (try clear hi)))
     go_meet
     case rel => exact ⟨_, (decide (t230 ≥ a2)), (by first | rfl | (simp; done) | (simp [*]; done)), H', ⟨by first | omega | exact Nat.le_refl _⟩, ⟨pR HO226.out⟩, ⟨pB HB.out⟩⟩
    ·replace c13 := Bool.eq_false_iff.mpr c13
     subst c13
     have H1 : (spec_BlkMark.j0 k l0 a1 a2 y224 true) = some r := by rw [if_neg (show ¬ (false = true) by decide)] at H; exact H
     clear H
     have H := H1
     clear H1
     have H' := Aside0.mk H
     clear H
     go_wp2_with (first | ((with_reducible refine gate_callee (f := 46) rfl ?_); refine goesL_ (some 16) rfl rfl Try.func46 (by kernel_rfl) rfl #[.int .i64 a1, .int .i64 0, .int .i64 3] rfl bM ?_; (with_reducible refine (spec_l6In.calls a1 0 3 true _ A10.out).mono ?_); rintro e w' ⟨rfl, ⟨nd, rfl⟩⟩; refine ⟨_, rfl, ?_⟩) | (go_at_call 46; (with_reducible refine (spec_l6In.calls a2 1 99999 false _ A12.out).mono ?_); rintro e w' ⟨rfl, ⟨nd, rfl⟩⟩))
     go_meet
     case rel => exact ⟨_, (true), (by first | rfl | (simp; done) | (simp [*]; done)), H', ⟨by first | omega | exact Nat.le_refl _⟩, ⟨pR HO226.out⟩, ⟨pB HB.out⟩⟩
   ·replace c11 := Bool.eq_false_iff.mpr c11
    subst c11
    have H1 : (spec_BlkMark.j0 k l0 a1 a2 y224 true) = some r := by rw [if_neg (show ¬ (false = true) by decide)] at H; exact H
    clear H
    have H := H1
    clear H1
    have H' := Aside0.mk H
    clear H
    go_wp2_with (first | ((with_reducible refine gate_callee (f := 46) rfl ?_); refine goesL_ (some 16) rfl rfl Try.func46 (by kernel_rfl) rfl #[.int .i64 a1, .int .i64 0, .int .i64 3] rfl bM ?_; (with_reducible refine (spec_l6In.calls a1 0 3 false _ A10.out).mono ?_); rintro e w' ⟨rfl, ⟨nd, rfl⟩⟩; refine ⟨_, rfl, ?_⟩))
    go_meet
    case rel => exact ⟨_, (true), (by first | rfl | (simp; done) | (simp [*]; done)), H', ⟨by first | omega | exact Nat.le_refl _⟩, ⟨pR HO226.out⟩, ⟨pB HB.out⟩⟩
  case rest =>
   clear HC6
   try clear c1
   try clear c2
   try clear p2
   try clear c4
   try clear c5
   try clear c11
   try clear c13
   obtain ⟨kq, x29_5, rfl, HA, HJ5, HO_7, HB⟩ := hcut
   cases kq with
   | zero => exact absurd HA.out (by simp [spec_BlkMark.j0])
   | succ kj5 =>
    have H := HA.out
    clear HA
    simp only [spec_BlkMark.j0] at H
    by_cases c16 : x29_5 = true
    ·subst c16
     have H1 : (if y224.length + l0.length < 8796093022208 then (some (y224 ++ l0)) else (none)) = some r := by rw [if_pos rfl] at H; exact H
     clear H
     have H := H1
     clear H1
     by_cases c17 : y224.length + l0.length < 8796093022208
     ·rw [if_pos c17] at H
      have LMc17 := Aside0.mk c17
      clear c17
      obtain ⟨y231, hy231⟩ : ∃ y_ : List (S59), y_ = (y224 ++ l0) := ⟨_, rfl⟩
      replace H : (some y231) = some r := by first | (rw [hy231]; with_reducible exact H) | (have H2_ := (Option.bind_some _ _).symm.trans H; rw [hy231]; with_reducible exact H2_) | (have H2_ := (Option.bind_some _ _).symm.trans H; with_reducible exact H2_) | with_reducible exact H | (rw [hy231]; exact H) | exact H
      have Ny231 := Aside0.mk hy231
      clear hy231
      obtain rfl := Option.some.inj H
      go_wp2_with (first | ((with_reducible refine gate_builtin (b := .append) (xs := #[.tmp 30, .tmp 31]) rfl ?_); at_builtin; refine Kd.R_append_rows k59 (w0 := w) w.heap.size rfl (.tmp 30) (.tmp 31) 25 59 (.agg #[(.int .i64 0), (.int .i64 0)]) 16 rfl Try.underlying25 info59 rfl (by decide) (by omega) v225 y224 l0 _ _ _ (fun _ => True) (fun _ => False) rfl rfl ?aO ?aR (fun _ _ h => h) (fun _ h => h.elim) ?aF ?aB ?aS ?aL ?_; (case aR => repeat (first | exact (Kd.C_below HR0.out HB.out) | (with_reducible refine Kd.C_alloc ?_ _) | (with_reducible refine Kd.C_drewN ?_ _) | (with_reducible refine Kd.C_drew ?_))); (case aB => exact (pB HB.out)); (case aF => exact (fun _ _ => trivial)); (case aO => exact (pR HO_7.out)); (case aS => exact (below_size (pB HB.out))); (case aL => have := LMc17.out; omega); intro v232 w18 ho hb hg hat; rw [← Ny231.out] at ho; have n0_ := Aside0.mk (hb); have n1_ := Aside0.mk (ho); clear HB; clear HO_7; have HB := n0_; have HO233 := n1_; clear n0_ n1_; clear ho hb hg hat))
      go_ret
      exact ⟨_, by first | rfl | (simp [errW_none, errW_some] <;> rfl) | (simp [*, errW_none, errW_some] <;> rfl), pR HO233.out, pB HB.out⟩
     ·rw [if_neg c17] at H
      exact absurd H (by simp)
    ·replace c16 := Bool.eq_false_iff.mpr c16
     subst c16
     have H1 : (spec_BlkMark.l0 kj5 l0 a1 a2 y224 0) = some r := by rw [if_neg (show ¬ (false = true) by decide)] at H; exact H
     clear H
     have H := H1
     clear H1
     have H' := Aside0.mk H
     clear H
     go_wp2
     go_loopg [7, 8] kj5 (fun kq v7 v8 w' => ∃ (x7_2 : List (S59)) (x8_2 : Int), v8 = .int .i64 x8_2 ∧ Aside0 (spec_BlkMark.l0 kq l0 a1 a2 x7_2 x8_2 = some r) ∧ Aside0 (kq ≤ kj5) ∧ Aside0 (Kd.R k59 59 w' w.heap.size (fun _ => True) v7 x7_2) ∧ Aside0 (Below w.heap.size w w'))
     case atStart => exact ⟨(y224), (0), (by first | rfl | (simp; done) | (simp [*]; done)), H', ⟨Nat.le_refl _⟩, ⟨pR HO_7.out⟩, ⟨pB HB.out⟩⟩
     case round =>
      clear H'
      try clear c1
      try clear c2
      try clear p2
      try clear c4
      try clear c5
      try clear c11
      try clear c13
      try clear c16
      try clear c17
      try clear p2
      obtain ⟨x7_2, x8_2, rfl, HA, HK2, HO_7, HB⟩ := hrel
      cases gk with
      | zero => exact absurd HA.out (by simp [spec_BlkMark.l0])
      | succ k2 =>
       have H := HA.out
       clear HA
       simp only [spec_BlkMark.l0] at H
       by_cases c19 : x8_2 < 4
       ·rw [if_pos c19] at H
        have c19b0 : decide (x8_2 < 4) = true := decide_eq_true c19
        clear c19
        replace H := Option.bind_eq_some_iff.mp H
        obtain ⟨t234, A200, H⟩ := H
        replace H : (if x8_2 = a1 then (if a2 > 0 then (if x7_2.length < 8796093022208 then (spec_BlkMark.l0 k2 l0 a1 a2 (x7_2 ++ [(⟨x8_2, a2⟩ : S59)]) (wrap64 (x8_2 + 1))) else (none)) else (spec_BlkMark.l0 k2 l0 a1 a2 x7_2 (wrap64 (x8_2 + 1)))) else (if t234 > 0 then (if x7_2.length < 8796093022208 then (spec_BlkMark.l0 k2 l0 a1 a2 (x7_2 ++ [(⟨x8_2, t234⟩ : S59)]) (wrap64 (x8_2 + 1))) else (none)) else (spec_BlkMark.l0 k2 l0 a1 a2 x7_2 (wrap64 (x8_2 + 1))))) = some r := H
        have A20 := Aside0.mk A200
        clear A200
        by_cases c21 : x8_2 = a1
        ·rw [if_pos c21] at H
         have c21b0 : (x8_2 == a1) = true := beq_iff_eq.mpr c21
         have c21b1 : (x8_2 != a1) = false := bne_eq_false_iff_eq.mpr c21
         clear c21
         by_cases c22 : a2 > 0
         ·rw [if_pos c22] at H
          have c22b0 : decide (0 < a2) = true := decide_eq_true c22
          clear c22
          by_cases c23 : x7_2.length < 8796093022208
          ·rw [if_pos c23] at H
           have LMc23 := Aside0.mk c23
           clear c23
           obtain ⟨y235, hy235⟩ : ∃ y_ : List (S59), y_ = (x7_2 ++ [(⟨x8_2, a2⟩ : S59)]) := ⟨_, rfl⟩
           replace H : (spec_BlkMark.l0 k2 l0 a1 a2 y235 (wrap64 (x8_2 + 1))) = some r := by first | (rw [hy235]; with_reducible exact H) | (have H2_ := (Option.bind_some _ _).symm.trans H; rw [hy235]; with_reducible exact H2_) | (have H2_ := (Option.bind_some _ _).symm.trans H; with_reducible exact H2_) | with_reducible exact H | (rw [hy235]; exact H) | exact H
           have Ny235 := Aside0.mk hy235
           clear hy235
           have H' := Aside0.mk H
           clear H
           go_wp2_with (first | ((with_reducible refine gate_callee (f := 16) rfl ?_); refine goesL_ (some 39) rfl rfl Try.func16 (by kernel_rfl) rfl #[.slice A0 l0.length c0, .int .i64 x8_2] rfl bM ?_; (with_reducible refine (spec_BlkCall.calls k2 _ _ l0 x8_2 t234 _ ?side1 ?side2 A20.out).mono ?_); (case side1 => repeat (first | exact (Kd.C_below HR0.out HB.out) | (with_reducible refine Kd.C_alloc ?_ _) | (with_reducible refine Kd.C_drewN ?_ _) | (with_reducible refine Kd.C_drew ?_))); (case side2 => exact HC0.out); rintro e w24 ⟨rfl, hb⟩; refine ⟨_, rfl, ?_⟩; have n0_ := Aside0.mk (Kd.R_below (pR HO_7.out) hb); have n1_ := Aside0.mk (below_step (pB HB.out) hb); clear HO_7; clear HB; have HO_7 := n0_; have HB := n1_; clear n0_ n1_; (try clear hb); (try clear hb2); (try clear hk); (try clear hi)) | ((with_reducible refine gate_builtin (b := .append) (xs := #[.tmp 46, .tmp 50]) rfl ?_); at_builtin; refine Kd.R_append k59 (w0 := w) w.heap.size rfl (.tmp 46) (.tmp 50) 25 59 (.agg #[(.int .i64 0), (.int .i64 0)]) 16 rfl Try.underlying25 info59 rfl (by decide) (by omega) u7 x7_2 (⟨x8_2, a2⟩ : S59) [.int .i64 x8_2, .int .i64 a2] (fun _ => True) (fun _ => False) rfl rfl ?aP (fun _ hk => hk.elim) ?aF ?aO ?aB ?aS ?aL ?_; (case aP => exact k59_mkM _ _ _ (⟨x8_2, a2⟩ : S59)); (case aB => exact (pB HB.out)); (case aF => exact (fun _ _ => trivial)); (case aO => exact (pR HO_7.out)); (case aS => exact (below_size (pB HB.out))); (case aL => have := LMc23.out; omega); intro v236 w25 ho hb hg hat; rw [← Ny235.out] at ho; have n0_ := Aside0.mk (hb); have n1_ := Aside0.mk (ho); clear HB; clear HO_7; have HB := n0_; have HO237 := n1_; clear n0_ n1_; clear ho hb hg hat))
           go_roundg k2
           case measure => have := HJ5.out; have := HK2.out; omega
           case rel => exact ⟨(y235), (wrap64 (x8_2 + 1)), (by first | rfl | (simp; done) | (simp [*]; done)), H', ⟨by have := HJ5.out; have := HK2.out; omega⟩, ⟨pR HO237.out⟩, ⟨pB HB.out⟩⟩
          ·rw [if_neg c23] at H
           exact absurd H (by simp)
         ·rw [if_neg c22] at H
          have c22b0 : decide (0 < a2) = false := decide_eq_false c22
          clear c22
          have H' := Aside0.mk H
          clear H
          go_wp2_with (first | ((with_reducible refine gate_callee (f := 16) rfl ?_); refine goesL_ (some 39) rfl rfl Try.func16 (by kernel_rfl) rfl #[.slice A0 l0.length c0, .int .i64 x8_2] rfl bM ?_; (with_reducible refine (spec_BlkCall.calls k2 _ _ l0 x8_2 t234 _ ?side1 ?side2 A20.out).mono ?_); (case side1 => repeat (first | exact (Kd.C_below HR0.out HB.out) | (with_reducible refine Kd.C_alloc ?_ _) | (with_reducible refine Kd.C_drewN ?_ _) | (with_reducible refine Kd.C_drew ?_))); (case side2 => exact HC0.out); rintro e w26 ⟨rfl, hb⟩; refine ⟨_, rfl, ?_⟩; have n0_ := Aside0.mk (Kd.R_below (pR HO_7.out) hb); have n1_ := Aside0.mk (below_step (pB HB.out) hb); clear HO_7; clear HB; have HO_7 := n0_; have HB := n1_; clear n0_ n1_; (try clear hb); (try clear hb2); (try clear hk); (try clear hi)))
          go_roundg k2
          case measure => have := HJ5.out; have := HK2.out; omega
          case rel => exact ⟨(x7_2), (wrap64 (x8_2 + 1)), (by first | rfl | (simp; done) | (simp [*]; done)), H', ⟨by have := HJ5.out; have := HK2.out; omega⟩, ⟨pR HO_7.out⟩, ⟨pB HB.out⟩⟩
        ·rw [if_neg c21] at H
         have c21b0 : (x8_2 == a1) = false := beq_eq_false_iff_ne.mpr c21
         have c21b1 : (x8_2 != a1) = true := bne_iff_ne.mpr c21
         by_cases c27 : t234 > 0
         ·rw [if_pos c27] at H
          have c27b0 : decide (0 < t234) = true := decide_eq_true c27
          clear c27
          by_cases c28 : x7_2.length < 8796093022208
          ·rw [if_pos c28] at H
           have LMc28 := Aside0.mk c28
           clear c28
           obtain ⟨y238, hy238⟩ : ∃ y_ : List (S59), y_ = (x7_2 ++ [(⟨x8_2, t234⟩ : S59)]) := ⟨_, rfl⟩
           replace H : (spec_BlkMark.l0 k2 l0 a1 a2 y238 (wrap64 (x8_2 + 1))) = some r := by first | (rw [hy238]; with_reducible exact H) | (have H2_ := (Option.bind_some _ _).symm.trans H; rw [hy238]; with_reducible exact H2_) | (have H2_ := (Option.bind_some _ _).symm.trans H; with_reducible exact H2_) | with_reducible exact H | (rw [hy238]; exact H) | exact H
           have Ny238 := Aside0.mk hy238
           clear hy238
           have H' := Aside0.mk H
           clear H
           go_wp2_with (first | ((with_reducible refine gate_callee (f := 16) rfl ?_); refine goesL_ (some 39) rfl rfl Try.func16 (by kernel_rfl) rfl #[.slice A0 l0.length c0, .int .i64 x8_2] rfl bM ?_; (with_reducible refine (spec_BlkCall.calls k2 _ _ l0 x8_2 t234 _ ?side1 ?side2 A20.out).mono ?_); (case side1 => repeat (first | exact (Kd.C_below HR0.out HB.out) | (with_reducible refine Kd.C_alloc ?_ _) | (with_reducible refine Kd.C_drewN ?_ _) | (with_reducible refine Kd.C_drew ?_))); (case side2 => exact HC0.out); rintro e w29 ⟨rfl, hb⟩; refine ⟨_, rfl, ?_⟩; have n0_ := Aside0.mk (Kd.R_below (pR HO_7.out) hb); have n1_ := Aside0.mk (below_step (pB HB.out) hb); clear HO_7; clear HB; have HO_7 := n0_; have HB := n1_; clear n0_ n1_; (try clear hb); (try clear hb2); (try clear hk); (try clear hi)) | ((with_reducible refine gate_builtin (b := .append) (xs := #[.tmp 46, .tmp 50]) rfl ?_); at_builtin; refine Kd.R_append k59 (w0 := w) w.heap.size rfl (.tmp 46) (.tmp 50) 25 59 (.agg #[(.int .i64 0), (.int .i64 0)]) 16 rfl Try.underlying25 info59 rfl (by decide) (by omega) u7 x7_2 (⟨x8_2, t234⟩ : S59) [.int .i64 x8_2, .int .i64 t234] (fun _ => True) (fun _ => False) rfl rfl ?aP (fun _ hk => hk.elim) ?aF ?aO ?aB ?aS ?aL ?_; (case aP => exact k59_mkM _ _ _ (⟨x8_2, t234⟩ : S59)); (case aB => exact (pB HB.out)); (case aF => exact (fun _ _ => trivial)); (case aO => exact (pR HO_7.out)); (case aS => exact (below_size (pB HB.out))); (case aL => have := LMc28.out; omega); intro v239 w30 ho hb hg hat; rw [← Ny238.out] at ho; have n0_ := Aside0.mk (hb); have n1_ := Aside0.mk (ho); clear HB; clear HO_7; have HB := n0_; have HO240 := n1_; clear n0_ n1_; clear ho hb hg hat))
           go_roundg k2
           case measure => have := HJ5.out; have := HK2.out; omega
           case rel => exact ⟨(y238), (wrap64 (x8_2 + 1)), (by first | rfl | (simp; done) | (simp [*]; done)), H', ⟨by have := HJ5.out; have := HK2.out; omega⟩, ⟨pR HO240.out⟩, ⟨pB HB.out⟩⟩
          ·rw [if_neg c28] at H
           exact absurd H (by simp)
         ·rw [if_neg c27] at H
          have c27b0 : decide (0 < t234) = false := decide_eq_false c27
          clear c27
          have H' := Aside0.mk H
          clear H
          go_wp2_with (first | ((with_reducible refine gate_callee (f := 16) rfl ?_); refine goesL_ (some 39) rfl rfl Try.func16 (by kernel_rfl) rfl #[.slice A0 l0.length c0, .int .i64 x8_2] rfl bM ?_; (with_reducible refine (spec_BlkCall.calls k2 _ _ l0 x8_2 t234 _ ?side1 ?side2 A20.out).mono ?_); (case side1 => repeat (first | exact (Kd.C_below HR0.out HB.out) | (with_reducible refine Kd.C_alloc ?_ _) | (with_reducible refine Kd.C_drewN ?_ _) | (with_reducible refine Kd.C_drew ?_))); (case side2 => exact HC0.out); rintro e w31 ⟨rfl, hb⟩; refine ⟨_, rfl, ?_⟩; have n0_ := Aside0.mk (Kd.R_below (pR HO_7.out) hb); have n1_ := Aside0.mk (below_step (pB HB.out) hb); clear HO_7; clear HB; have HO_7 := n0_; have HB := n1_; clear n0_ n1_; (try clear hb); (try clear hb2); (try clear hk); (try clear hi)))
          go_roundg k2
          case measure => have := HJ5.out; have := HK2.out; omega
          case rel => exact ⟨(x7_2), (wrap64 (x8_2 + 1)), (by first | rfl | (simp; done) | (simp [*]; done)), H', ⟨by have := HJ5.out; have := HK2.out; omega⟩, ⟨pR HO_7.out⟩, ⟨pB HB.out⟩⟩
       ·rw [if_neg c19] at H
        have c19b0 : decide (x8_2 < 4) = false := decide_eq_false c19
        clear c19
        obtain rfl := Option.some.inj H
        go_wp2
        go_ret
        exact ⟨_, by first | rfl | (simp [errW_none, errW_some] <;> rfl) | (simp [*, errW_none, errW_some] <;> rfl), pR HO_7.out, pB HB.out⟩
 ·replace c5 := Bool.eq_false_iff.mpr c5
  subst c5
  have H1 : (some y224) = some r := by rw [if_neg (show ¬ (false = true) by decide)] at H; exact H
  clear H
  have H := H1
  clear H1
  obtain rfl := Option.some.inj H
  go_enter Try.func28, Try.ntmps28
  go_wp2_with (first | ((with_reducible refine gate_dst (N := 10) rfl ?_); refine Kd.R_lit k59 _ 59 ?hg (N := 10) ?hd (xs := ([] : List (S59))) (inner := []) (ok := fun _ => True) (okp := fun _ => True) ?hr ?hp (fun _ hk => hk) trivial (Below.refl _ _) (Nat.le_refl _) (by simp) ?_; (case hd => rfl); (case hg => rfl); (case hr => first | (go_simp; done) | (go_simp; rfl)); (case hp => exact (Reps.none _ _)); intro v225 w32 ho33 hb hg_ hnew_; clear hg_ hnew_; (first | rw [← Ny224.out] at ho33 | (simp only [Int.reduceToNat] at ho33; rw [← Ny224.out] at ho33)); have n0_ := Aside0.mk (Kd.R_lower ho33 (below_size (pB HB.out))); have n1_ := Aside0.mk (below_step (pB HB.out) hb); clear HB; have HO226 := n0_; have HB := n1_; clear n0_ n1_; clear hb ho33) | ((with_reducible refine gate_callee (f := 42) rfl ?_); refine goesL_ (some 12) rfl rfl Try.func42 (by kernel_rfl) rfl #[.slice A0 l0.length c0] rfl bM ?_; (with_reducible refine (spec_l3LastOk.calls k _ _ l0 false _ ?side1 ?side2 A4.out).mono ?_); (case side1 => repeat (first | exact (Kd.C_below HR0.out HB.out) | (with_reducible refine Kd.C_alloc ?_ _) | (with_reducible refine Kd.C_drewN ?_ _) | (with_reducible refine Kd.C_drew ?_))); (case side2 => exact HC0.out); rintro e w34 ⟨rfl, hb⟩; refine ⟨_, rfl, ?_⟩; have n0_ := Aside0.mk (Kd.R_below (pR HO226.out) hb); have n1_ := Aside0.mk (below_step (pB HB.out) hb); clear HO226; clear HB; have HO226 := n0_; have HB := n1_; clear n0_ n1_; (try clear hb); (try clear hb2); (try clear hk); (try clear hi)))
  go_ret
  exact ⟨_, by first | rfl | (simp [errW_none, errW_some] <;> rfl) | (simp [*, errW_none, errW_some] <;> rfl), pR HO226.out, pB HB.out⟩

/-! ### impl_copied_BlkLast: function 55 -/
def impl_copied_BlkLast.f (l0 : List S59) : Option (List S59) := if l0.length ≤ 17592186044416 then some l0 else none
set_option maxHeartbeats 8000000 in
set_option maxRecDepth 100000 in
theorem impl_copied_BlkLast.calls (A0 : Option Addr) (c0 : Nat) (l0 : List S59) (r : List S59) (w : World) (hr0 : Kd.C k59 w A0 l0.length l0) (hc0 : l0.length ≤ c0) (h : impl_copied_BlkLast.f l0 = some r) :
    Calls Try.prog 55 #[.slice A0 l0.length c0] w fun e w' => ∃ v0_ : Value, e = .returned (v0_) ∧ Kd.R k59 59 w' w.heap.size (fun _ => True) v0_ r ∧ Below w.heap.size w w' := by
  unfold impl_copied_BlkLast.f at h
  by_cases hz : l0.length ≤ 17592186044416
  · rw [if_pos hz] at h
    obtain rfl := Option.some.inj h
    have HR := Aside0.mk hr0
    have HZ := Aside0.mk hz
    clear hr0 hc0 h hz
    by_cases h0 : l0.length = 0
    · obtain rfl := List.eq_nil_of_length_eq_zero h0
      clear h0
      go_enter Try.func55, Try.ntmps55
      go_wp2
      go_ret
      exact ⟨_, rfl, Kd.R_nil _ _ _ _ _, Below.refl _ _⟩
    · have c0b : ((l0.length : Int) == 0) = false := beq_eq_false_iff_ne.mpr (by omega)
      have c0c : ((l0.length : Int) != 0) = true := bne_iff_ne.mpr (by omega)
      have c0d : ¬ (l0 = []) := fun h_ => h0 (by rw [h_]; rfl)
      clear h0
      have HB := Aside0.mk (Below.refl w.heap.size w)
      go_enter Try.func55, Try.ntmps55
      go_wp2_with (first
        | (refine Kd.R_make k59 _ 59 rfl (N := 9) rfl 25 _ _ rfl (l0.length : Int) rfl rfl Try.underlying25 (.agg #[(.int .i64 0), (.int .i64 0)]) 16 info59 rfl (by decide) (by omega) z59 (ok := fun _ => True) (okp := fun _ => True) (k59_mkM _ _ _ z59) (fun _ hk => hk) trivial (Int.natCast_nonneg _) (by have hz := HZ.out; rw [Int.toNat_natCast]; omega) HB.out (Nat.le_refl _) ?_
           intro v1 w1 hR1 hB1 hg1 hn1
           rw [Int.toNat_natCast] at hR1
           have HR1 := Aside0.mk hR1
           have HB1 := Aside0.mk hB1
           have HC1 := Aside0.mk (Kd.C_below HR.out (below_of_grown hg1))
           clear hR1 hB1 hg1 hn1)
        | (refine R_copy k59 flat59 w.heap.size rfl _ _ 25 25 59 rfl Try.underlying25 (by rw [show (Try.prog.info? 59).map (·.size) = ((Try.prog.info? 59).map (fun i => (i.zero, i.size, i.bytes))).map (fun x => x.2.1) from by rw [Option.map_map]; rfl, info59]; rfl) _ _ _ _ _ l0 (fun _ => True) rfl rfl rfl (by simp) HR1.out HC1.out HB1.out ?_
           intro w2 hR2 hB2 _
           have HR2 := Aside0.mk hR2
           have HB2 := Aside0.mk hB2
           clear hR2 hB2))
      go_ret
      exact ⟨_, rfl, HR2.out, HB2.out⟩
  · rw [if_neg hz] at h; cases h

/-! ### impl_BlkMark: function 29 -/
mutual
def impl_BlkMark.j0 : Nat → List (S59) → Int → Int → Bool → Option ((List (S59)))
 | 0, _, _, _, _ => none
 | k + 1, x0, x1, x2, x28 => if x28 = true then ((impl_copied_BlkLast.f x0).bind fun t282 => (some t282)) else (impl_BlkMark.l0 k x1 x2 ([] : List (S59)) false x0 (x0.length : Int) 0)
def impl_BlkMark.l0 : Nat → Int → Int → List (S59) → Bool → List (S59) → Int → Int → Option ((List (S59)))
 | 0, _, _, _, _, _, _, _ => none
 | k + 1, x1, x2, x7, x8, x31, x32, x33 => if x33 < x32 then (if 0 ≤ x33 then (if x33 < (x31.length : Int) then (if x8 = true then (impl_BlkMark.j2 k x1 x2 x7 x8 x31 x32 x33 false ((rd_T59 x31 x33).f0) ((rd_T59 x31 x33).f1)) else (impl_BlkMark.j2 k x1 x2 x7 x8 x31 x32 x33 (decide (((rd_T59 x31 x33).f0) ≥ x1)) ((rd_T59 x31 x33).f0) ((rd_T59 x31 x33).f1))) else (none)) else (none)) else (if x8 = true then ((impl_copied_BlkLast.f x7).bind fun t285 => (some t285)) else (if x7.length < 8796093022208 then ((impl_copied_BlkLast.f (x7 ++ [(⟨x1, x2⟩ : S59)])).bind fun t291 => (some t291)) else (none)))
def impl_BlkMark.j2 : Nat → Int → Int → List (S59) → Bool → List (S59) → Int → Int → Bool → Int → Int → Option ((List (S59)))
 | 0, _, _, _, _, _, _, _, _, _, _ => none
 | k + 1, x1, x2, x7, x8, x31, x32, x33, x44, x296000, x296001 => if x44 = true then (if x7.length < 8796093022208 then ((some (x7 ++ [(⟨x1, x2⟩ : S59)] : List (S59))).bind fun y296 => (if x296000 = x1 then (impl_BlkMark.l0 k x1 x2 y296 true x31 x32 (wrap64 (x33 + 1))) else (if y296.length < 8796093022208 then (impl_BlkMark.l0 k x1 x2 (y296 ++ [(⟨x296000, x296001⟩ : S59)]) true x31 x32 (wrap64 (x33 + 1))) else (none)))) else (none)) else (if x296000 = x1 then (impl_BlkMark.l0 k x1 x2 x7 x8 x31 x32 (wrap64 (x33 + 1))) else (if x7.length < 8796093022208 then (impl_BlkMark.l0 k x1 x2 (x7 ++ [(⟨x296000, x296001⟩ : S59)]) x8 x31 x32 (wrap64 (x33 + 1))) else (none)))
end
def impl_BlkMark.f (k : Nat) (l0 : List (S59)) (a1 : Int) (a2 : Int) : Option ((List (S59))) := (impl_lastOk.f k l0).bind fun t278 => (if t278 = true then ((impl_in.f a1 0 3).bind fun t279 => (if t279 = true then ((impl_in.f a2 1 99999).bind fun t280 => (if t280 = true then ((impl_BlkCall.f k l0 a1).bind fun t281 => (impl_BlkMark.j0 k l0 a1 a2 (decide (t281 ≥ a2)))) else (impl_BlkMark.j0 k l0 a1 a2 true))) else (impl_BlkMark.j0 k l0 a1 a2 true))) else (some ([] : List (S59))))
theorem impl_BlkMark.mono_l : ∀ k, (∀ y0 y1 y2 y3, LeO (impl_BlkMark.j0 k y0 y1 y2 y3) (impl_BlkMark.j0 (k + 1) y0 y1 y2 y3)) ∧ (∀ y0 y1 y2 y3 y4 y5 y6, LeO (impl_BlkMark.l0 k y0 y1 y2 y3 y4 y5 y6) (impl_BlkMark.l0 (k + 1) y0 y1 y2 y3 y4 y5 y6)) ∧ (∀ y0 y1 y2 y3 y4 y5 y6 y7 y8 y9, LeO (impl_BlkMark.j2 k y0 y1 y2 y3 y4 y5 y6 y7 y8 y9) (impl_BlkMark.j2 (k + 1) y0 y1 y2 y3 y4 y5 y6 y7 y8 y9))
 | 0 => ⟨fun _ _ _ _ r h => by simp [impl_BlkMark.j0] at h, fun _ _ _ _ _ _ _ r h => by simp [impl_BlkMark.l0] at h, fun _ _ _ _ _ _ _ _ _ _ r h => by simp [impl_BlkMark.j2] at h⟩
 | k + 1 => by
  obtain ⟨ih0, ih1, ih2⟩ := impl_BlkMark.mono_l k
  refine ⟨?_, ?_, ?_⟩
  ·intro y0 y1 y2 y3
   unfold impl_BlkMark.j0
   repeat' first
   | (with_reducible exact ih0 _ _ _ _)
   | (with_reducible exact ih1 _ _ _ _ _ _ _)
   | (with_reducible exact ih2 _ _ _ _ _ _ _ _ _ _)
   | (with_reducible exact impl_BlkCall.mono _ _ _)
   | (with_reducible exact impl_lastOk.mono _ _)
   | (with_reducible exact LeO.refl _)
   | (with_reducible exact LeO.none _)
   | (with_reducible refine LeO.ite ?_ ?_)
   | (with_reducible refine LeO.bind ?_ (fun _ => ?_))
   | exact ih0 _ _ _ _
   | exact ih1 _ _ _ _ _ _ _
   | exact ih2 _ _ _ _ _ _ _ _ _ _
   | exact impl_BlkCall.mono _ _ _
   | exact impl_lastOk.mono _ _
   | exact LeO.none _
   | refine LeO.ite ?_ ?_
   | refine LeO.bind ?_ (fun _ => ?_)
  ·intro y0 y1 y2 y3 y4 y5 y6
   unfold impl_BlkMark.l0
   repeat' first
   | (with_reducible exact ih0 _ _ _ _)
   | (with_reducible exact ih1 _ _ _ _ _ _ _)
   | (with_reducible exact ih2 _ _ _ _ _ _ _ _ _ _)
   | (with_reducible exact impl_BlkCall.mono _ _ _)
   | (with_reducible exact impl_lastOk.mono _ _)
   | (with_reducible exact LeO.refl _)
   | (with_reducible exact LeO.none _)
   | (with_reducible refine LeO.ite ?_ ?_)
   | (with_reducible refine LeO.bind ?_ (fun _ => ?_))
   | exact ih0 _ _ _ _
   | exact ih1 _ _ _ _ _ _ _
   | exact ih2 _ _ _ _ _ _ _ _ _ _
   | exact impl_BlkCall.mono _ _ _
   | exact impl_lastOk.mono _ _
   | exact LeO.none _
   | refine LeO.ite ?_ ?_
   | refine LeO.bind ?_ (fun _ => ?_)
  ·intro y0 y1 y2 y3 y4 y5 y6 y7 y8 y9
   unfold impl_BlkMark.j2
   repeat' first
   | (with_reducible exact ih0 _ _ _ _)
   | (with_reducible exact ih1 _ _ _ _ _ _ _)
   | (with_reducible exact ih2 _ _ _ _ _ _ _ _ _ _)
   | (with_reducible exact impl_BlkCall.mono _ _ _)
   | (with_reducible exact impl_lastOk.mono _ _)
   | (with_reducible exact LeO.refl _)
   | (with_reducible exact LeO.none _)
   | (with_reducible refine LeO.ite ?_ ?_)
   | (with_reducible refine LeO.bind ?_ (fun _ => ?_))
   | exact ih0 _ _ _ _
   | exact ih1 _ _ _ _ _ _ _
   | exact ih2 _ _ _ _ _ _ _ _ _ _
   | exact impl_BlkCall.mono _ _ _
   | exact impl_lastOk.mono _ _
   | exact LeO.none _
   | refine LeO.ite ?_ ?_
   | refine LeO.bind ?_ (fun _ => ?_)
theorem impl_BlkMark.mono : ∀ a0 a1 a2 k, LeO (impl_BlkMark.f k a0 a1 a2) (impl_BlkMark.f (k + 1) a0 a1 a2) := by
 intro a0 a1 a2 k
 obtain ⟨ih0, ih1, ih2⟩ := impl_BlkMark.mono_l k
 unfold impl_BlkMark.f
 repeat' first
   | (with_reducible exact ih0 _ _ _ _)
   | (with_reducible exact ih1 _ _ _ _ _ _ _)
   | (with_reducible exact ih2 _ _ _ _ _ _ _ _ _ _)
   | (with_reducible exact impl_BlkCall.mono _ _ _)
   | (with_reducible exact impl_lastOk.mono _ _)
   | (with_reducible exact LeO.refl _)
   | (with_reducible exact LeO.none _)
   | (with_reducible refine LeO.ite ?_ ?_)
   | (with_reducible refine LeO.bind ?_ (fun _ => ?_))
   | exact ih0 _ _ _ _
   | exact ih1 _ _ _ _ _ _ _
   | exact ih2 _ _ _ _ _ _ _ _ _ _
   | exact impl_BlkCall.mono _ _ _
   | exact impl_lastOk.mono _ _
   | exact LeO.none _
   | refine LeO.ite ?_ ?_
   | refine LeO.bind ?_ (fun _ => ?_)
set_option maxHeartbeats 8000000 in
set_option maxRecDepth 100000 in
theorem impl_BlkMark.calls (k : Nat) (A0 : Option Addr) (c0 : Nat) (l0 : List (S59)) (a1 : Int) (a2 : Int) (r : List (S59)) (w : World) (hr0 : Kd.C k59 w A0 l0.length l0) (hc0 : l0.length ≤ c0) (h : impl_BlkMark.f k l0 a1 a2 = some r) :
  Calls Try.prog 29 #[.slice A0 l0.length c0, .int .i64 a1, .int .i64 a2] w fun e w' => ∃ v0_ : Value, e = .returned (v0_) ∧ Kd.R k59 59 w' w.heap.size (fun _ => True) v0_ r ∧ Below w.heap.size w w' := by
 have hu59 := Try.underlying59
 have HR0 := Aside0.mk hr0
 have HC0 := Aside0.mk hc0
 clear hr0 hc0
 have HB := Aside0.mk (Below.refl w.heap.size w)
 have H : ((impl_lastOk.f k l0).bind fun t278 => (if t278 = true then ((impl_in.f a1 0 3).bind fun t279 => (if t279 = true then ((impl_in.f a2 1 99999).bind fun t280 => (if t280 = true then ((impl_BlkCall.f k l0 a1).bind fun t281 => (impl_BlkMark.j0 k l0 a1 a2 (decide (t281 ≥ a2)))) else (impl_BlkMark.j0 k l0 a1 a2 true))) else (impl_BlkMark.j0 k l0 a1 a2 true))) else (some ([] : List (S59))))) = some r := h
 clear h
 replace H := Option.bind_eq_some_iff.mp H
 obtain ⟨t278, A40, H⟩ := H
 replace H : (if t278 = true then ((impl_in.f a1 0 3).bind fun t279 => (if t279 = true then ((impl_in.f a2 1 99999).bind fun t280 => (if t280 = true then ((impl_BlkCall.f k l0 a1).bind fun t281 => (impl_BlkMark.j0 k l0 a1 a2 (decide (t281 ≥ a2)))) else (impl_BlkMark.j0 k l0 a1 a2 true))) else (impl_BlkMark.j0 k l0 a1 a2 true))) else (some ([] : List (S59)))) = some r := H
 have A4 := Aside0.mk A40
 clear A40
 by_cases c5 : t278 = true
 ·subst c5
  have H1 : ((impl_in.f a1 0 3).bind fun t279 => (if t279 = true then ((impl_in.f a2 1 99999).bind fun t280 => (if t280 = true then ((impl_BlkCall.f k l0 a1).bind fun t281 => (impl_BlkMark.j0 k l0 a1 a2 (decide (t281 ≥ a2)))) else (impl_BlkMark.j0 k l0 a1 a2 true))) else (impl_BlkMark.j0 k l0 a1 a2 true))) = some r := by rw [if_pos rfl] at H; exact H
  clear H
  have H := H1
  clear H1
  have HC6 := Aside0.mk H
  clear H
  go_enter Try.func29, Try.ntmps29
  go_upto_region 3 with (first | ((with_reducible refine gate_callee (f := 44) rfl ?_); refine goesL_ (some 12) rfl rfl Try.func44 (by kernel_rfl) rfl #[.slice A0 l0.length c0] rfl bM ?_; (with_reducible refine (impl_lastOk.calls k _ _ l0 true _ ?side1 ?side2 A4.out).mono ?_); (case side1 => exact pC HR0.out); (case side2 => exact HC0.out); rintro e w7 ⟨rfl, hb⟩; refine ⟨_, rfl, ?_⟩; have n0_ := Aside0.mk (below_step (pB HB.out) hb); clear HB; have HB := n0_; clear n0_; (try clear hb); (try clear hb2); (try clear hk); (try clear hi)))
  (try simp only [Act.put, List.setIfInBounds_toArray, List.set_cons_zero, List.set_cons_succ])
  go_cut [28] (fun v28 wc => ∃ (kq : Nat) (x28_5 : Bool), v28 = .bool x28_5 ∧ Aside0 (impl_BlkMark.j0 kq l0 a1 a2 x28_5 = some r) ∧ Aside0 (kq ≤ k) ∧ Aside0 (Below w.heap.size w wc))
  case first =>
   have H := HC6.out
   clear HC6
   replace H := Option.bind_eq_some_iff.mp H
   obtain ⟨t279, A80, H⟩ := H
   replace H : (if t279 = true then ((impl_in.f a2 1 99999).bind fun t280 => (if t280 = true then ((impl_BlkCall.f k l0 a1).bind fun t281 => (impl_BlkMark.j0 k l0 a1 a2 (decide (t281 ≥ a2)))) else (impl_BlkMark.j0 k l0 a1 a2 true))) else (impl_BlkMark.j0 k l0 a1 a2 true)) = some r := H
   have A8 := Aside0.mk A80
   clear A80
   by_cases c9 : t279 = true
   ·subst c9
    have H1 : ((impl_in.f a2 1 99999).bind fun t280 => (if t280 = true then ((impl_BlkCall.f k l0 a1).bind fun t281 => (impl_BlkMark.j0 k l0 a1 a2 (decide (t281 ≥ a2)))) else (impl_BlkMark.j0 k l0 a1 a2 true))) = some r := by rw [if_pos rfl] at H; exact H
    clear H
    have H := H1
    clear H1
    replace H := Option.bind_eq_some_iff.mp H
    obtain ⟨t280, A100, H⟩ := H
    replace H : (if t280 = true then ((impl_BlkCall.f k l0 a1).bind fun t281 => (impl_BlkMark.j0 k l0 a1 a2 (decide (t281 ≥ a2)))) else (impl_BlkMark.j0 k l0 a1 a2 true)) = some r := H
    have A10 := Aside0.mk A100
    clear A100
    by_cases c11 : t280 = true
    ·subst c11
     have H1 : ((impl_BlkCall.f k l0 a1).bind fun t281 => (impl_BlkMark.j0 k l0 a1 a2 (decide (t281 ≥ a2)))) = some r := by rw [if_pos rfl] at H; exact H
     clear H
     have H := H1
     clear H1
     replace H := Option.bind_eq_some_iff.mp H
     obtain ⟨t281, A120, H⟩ := H
     replace H : (impl_BlkMark.j0 k l0 a1 a2 (decide (t281 ≥ a2))) = some r := H
     have A12 := Aside0.mk A120
     clear A120
     have H' := Aside0.mk H
     clear H
     go_wp2_with (first | ((with_reducible refine gate_callee (f := 49) rfl ?_); refine goesL_ (some 15) rfl rfl Try.func49 (by kernel_rfl) rfl #[.int .i64 a1, .int .i64 0, .int .i64 3] rfl bM ?_; (with_reducible refine (impl_in.calls a1 0 3 true _ A8.out).mono ?_); rintro e w' ⟨rfl, ⟨nd, rfl⟩⟩; refine ⟨_, rfl, ?_⟩) | (go_at_call 49; (with_reducible refine (impl_in.calls a2 1 99999 true _ A10.out).mono ?_); rintro e w' ⟨rfl, ⟨nd, rfl⟩⟩) | (go_at_call 18; (with_reducible refine (impl_BlkCall.calls k _ _ l0 a1 t281 _ ?side1 ?side2 A12.out).mono ?_); (case side1 => repeat (first | exact (Kd.C_below HR0.out (pB HB.out)) | (with_reducible refine Kd.C_alloc ?_ _) | (with_reducible refine Kd.C_drewN ?_ _) | (with_reducible refine Kd.C_drew ?_))); (case side2 => exact HC0.out); rintro e w13 ⟨rfl, hb⟩; have n0_ := Aside0.mk (below_step (pB HB.out) hb); clear HB; have HB := n0_; clear n0_; (try clear hb); (try clear hb2); (try clear hk); (try clear hi)))
     go_meet
     case rel => exact ⟨_, (decide (t281 ≥ a2)), (by first | rfl | (simp; done) | (simp [*]; done)), H', ⟨by first | omega | exact Nat.le_refl _⟩, ⟨pB HB.out⟩⟩
    ·replace c11 := Bool.eq_false_iff.mpr c11
     subst c11
     have H1 : (impl_BlkMark.j0 k l0 a1 a2 true) = some r := by rw [if_neg (show ¬ (false = true) by decide)] at H; exact H
     clear H
     have H := H1
     clear H1
     have H' := Aside0.mk H
     clear H
     go_wp2_with (first | ((with_reducible refine gate_callee (f := 49) rfl ?_); refine goesL_ (some 15) rfl rfl Try.func49 (by kernel_rfl) rfl #[.int .i64 a1, .int .i64 0, .int .i64 3] rfl bM ?_; (with_reducible refine (impl_in.calls a1 0 3 true _ A8.out).mono ?_); rintro e w' ⟨rfl, ⟨nd, rfl⟩⟩; refine ⟨_, rfl, ?_⟩) | (go_at_call 49; (with_reducible refine (impl_in.calls a2 1 99999 false _ A10.out).mono ?_); rintro e w' ⟨rfl, ⟨nd, rfl⟩⟩))
     go_meet
     case rel => exact ⟨_, (true), (by first | rfl | (simp; done) | (simp [*]; done)), H', ⟨by first | omega | exact Nat.le_refl _⟩, ⟨pB HB.out⟩⟩
   ·replace c9 := Bool.eq_false_iff.mpr c9
    subst c9
    have H1 : (impl_BlkMark.j0 k l0 a1 a2 true) = some r := by rw [if_neg (show ¬ (false = true) by decide)] at H; exact H
    clear H
    have H := H1
    clear H1
    have H' := Aside0.mk H
    clear H
    go_wp2_with (first | ((with_reducible refine gate_callee (f := 49) rfl ?_); refine goesL_ (some 15) rfl rfl Try.func49 (by kernel_rfl) rfl #[.int .i64 a1, .int .i64 0, .int .i64 3] rfl bM ?_; (with_reducible refine (impl_in.calls a1 0 3 false _ A8.out).mono ?_); rintro e w' ⟨rfl, ⟨nd, rfl⟩⟩; refine ⟨_, rfl, ?_⟩))
    go_meet
    case rel => exact ⟨_, (true), (by first | rfl | (simp; done) | (simp [*]; done)), H', ⟨by first | omega | exact Nat.le_refl _⟩, ⟨pB HB.out⟩⟩
  case rest =>
   clear HC6
   try clear c1
   try clear c2
   try clear p2
   try clear c4
   try clear c5
   try clear c9
   try clear c11
   obtain ⟨kq, x28_5, rfl, HA, HJ5, HB⟩ := hcut
   cases kq with
   | zero => exact absurd HA.out (by simp [impl_BlkMark.j0])
   | succ kj5 =>
    have H := HA.out
    clear HA
    simp only [impl_BlkMark.j0] at H
    by_cases c14 : x28_5 = true
    ·subst c14
     have H1 : ((impl_copied_BlkLast.f l0).bind fun t282 => (some t282)) = some r := by rw [if_pos rfl] at H; exact H
     clear H
     have H := H1
     clear H1
     replace H := Option.bind_eq_some_iff.mp H
     obtain ⟨t282, A150, H⟩ := H
     replace H : (some t282) = some r := H
     have A15 := Aside0.mk A150
     clear A150
     obtain rfl := Option.some.inj H
     go_wp2_with (first | ((with_reducible refine gate_callee (f := 55) rfl ?_); refine goesL_ (some 30) rfl rfl Try.func55 (by kernel_rfl) rfl #[.slice A0 l0.length c0] rfl bM ?_; (with_reducible refine (impl_copied_BlkLast.calls _ _ l0 t282 _ ?side1 ?side2 A15.out).mono ?_); (case side1 => repeat (first | exact (Kd.C_below HR0.out HB.out) | (with_reducible refine Kd.C_alloc ?_ _) | (with_reducible refine Kd.C_drewN ?_ _) | (with_reducible refine Kd.C_drew ?_))); (case side2 => exact HC0.out); rintro e w16 ⟨v283, rfl, ho0, hb⟩; refine ⟨_, rfl, ?_⟩; have n0_ := Aside0.mk (Kd.R_lower ho0 (below_size (pB HB.out))); have n1_ := Aside0.mk (below_step (pB HB.out) hb); clear HB; have HO284 := n0_; have HB := n1_; clear n0_ n1_; (try clear hb); (try clear hb2); (try clear hk); (try clear hi); (try clear ho0)))
     go_ret
     exact ⟨_, by first | rfl | (simp [errW_none, errW_some] <;> rfl) | (simp [*, errW_none, errW_some] <;> rfl), pR HO284.out, pB HB.out⟩
    ·replace c14 := Bool.eq_false_iff.mpr c14
     subst c14
     have H1 : (impl_BlkMark.l0 kj5 a1 a2 ([] : List (S59)) false l0 (l0.length : Int) 0) = some r := by rw [if_neg (show ¬ (false = true) by decide)] at H; exact H
     clear H
     have H := H1
     clear H1
     have H' := Aside0.mk H
     clear H
     go_wp2
     go_loopg [7, 8, 33] kj5 (fun kq v7 v8 v33 w' => ∃ (x7_2 : List (S59)) (x8_2 : Bool) (x33_2 : Int), v8 = .bool x8_2 ∧ v33 = .int .i64 x33_2 ∧ Aside0 (impl_BlkMark.l0 kq a1 a2 x7_2 x8_2 l0 (l0.length : Int) x33_2 = some r) ∧ Aside0 (kq ≤ kj5) ∧ Aside0 (Kd.R k59 59 w' w.heap.size (fun _ => True) v7 x7_2) ∧ Aside0 (Below w.heap.size w w'))
     case atStart => exact ⟨(([] : List (S59))), (false), (0), (by first | rfl | (simp; done) | (simp [*]; done)), (by first | rfl | (simp; done) | (simp [*]; done)), H', ⟨Nat.le_refl _⟩, ⟨by first | exact Kd.R_nil _ _ _ _ _ | exact Kd.N_nil _ _ _ _ _ | exact Kd.V_nil _ _ _ _ _ | exact Kd.Q_nil _ _ _ _ _ | exact Kd.S_nil _ _ _ _ _⟩, ⟨pB HB.out⟩⟩
     case round =>
      clear H'
      try clear c1
      try clear c2
      try clear p2
      try clear c4
      try clear c5
      try clear c9
      try clear c11
      try clear c14
      try clear p2
      obtain ⟨x7_2, x8_2, x33_2, rfl, rfl, HA, HK2, HO_7, HB⟩ := hrel
      cases gk with
      | zero => exact absurd HA.out (by simp [impl_BlkMark.l0])
      | succ k2 =>
       have H := HA.out
       clear HA
       simp only [impl_BlkMark.l0] at H
       by_cases c17 : x33_2 < (l0.length : Int)
       ·rw [if_pos c17] at H
        have c17b0 : decide (x33_2 < (l0.length : Int)) = true := decide_eq_true c17
        clear c17
        by_cases c18 : 0 ≤ x33_2
        ·rw [if_pos c18] at H
         have c18b0 : decide (0 ≤ x33_2) = true := decide_eq_true c18
         clear c18
         by_cases c19 : x33_2 < (l0.length : Int)
         ·rw [if_pos c19] at H
          have c19b0 : decide (x33_2 < (l0.length : Int)) = true := decide_eq_true c19
          clear c19
          have HC20 := Aside0.mk H
          clear H
          have p294 : 0 ≤ (x33_2 : Int) := of_decide_eq_true bA
          have q294 : x33_2 < (l0.length : Int) := of_decide_eq_true bA
          obtain ⟨ad294, e294, hx294_0, hx294_1⟩ := at_T59 HR0.out x33_2 p294 q294
          cases e294
          replace hx294_0 := (HB.out.cell (World.block_lt_of_cell? w _ hx294_0)).trans hx294_0
          replace hx294_1 := (HB.out.cell (World.block_lt_of_cell? w _ hx294_1)).trans hx294_1
          replace p294 := eq_true p294
          replace q294 := eq_true q294
          go_upto_region 10 with (first | ((with_reducible refine gate_dst (N := 10) rfl ?_); refine box_event ?hg (N := 10) ?hd (cs := #[.int .i64 0, .int .i64 0]) (t := 59) ?hr ?_; (case hd => rfl); (case hg => rfl); (case hr => first | (go_simp; done) | (go_simp; rfl)); intro gb295 hg w21 hbox hb; have n0_ := Aside0.mk (Kd.R_below (Kd.R_elderB (pR HO_7.out) gb295 (Nat.le_of_eq hg.symm)) hb); have n1_ := Aside0.mk (below_step (pB HB.out) hb); have n2_ := Aside0.mk (hbox); have n3_ := Aside0.mk ((by rw [hg]; exact (below_size (pB HB.out)) : w.heap.size ≤ gb295)); have n4_ := Aside0.mk ((by rw [hg]; exact (below_size (pB HB.out)) : w.heap.size ≤ gb295)); clear HO_7; clear HB; have HO_7 := n0_; have HB := n1_; have BK295 := n2_; have GW295 := n3_; have GE295 := n4_; clear n0_ n1_ n2_ n3_ n4_; clear hb hbox hg; have hcz22_0 : w21.cell? ⟨gb295, 0, none⟩ = some (.int .i64 0) := (blk_cell BK295.out 0).trans rfl; have hcz22_1 : w21.cell? ⟨gb295, 1, none⟩ = some (.int .i64 0) := (blk_cell BK295.out 1).trans rfl; have hfz22_0 := blk_frozen BK295.out 0; have hfz22_1 := blk_frozen BK295.out 1))
          (try simp only [Act.put, List.setIfInBounds_toArray, List.set_cons_zero, List.set_cons_succ])
          go_cut [44] (fun v44 wc => ∃ (kq : Nat) (x44_19 : Bool), v44 = .bool x44_19 ∧ Aside0 (impl_BlkMark.j2 kq a1 a2 x7_2 x8_2 l0 (l0.length : Int) x33_2 x44_19 ((rd_T59 l0 x33_2).f0) ((rd_T59 l0 x33_2).f1) = some r) ∧ Aside0 (kq ≤ k2) ∧ Aside0 (Kd.R k59 59 wc w.heap.size (fun k_ => k_ ≠ gb295) u7 x7_2) ∧ Aside0 (wc.heap[gb295]? = some (.cells #[.int .i64 ((rd_T59 l0 x33_2).f0), .int .i64 ((rd_T59 l0 x33_2).f1)] 59 (0, 0))) ∧ Aside0 (Below w.heap.size w wc))
          case first =>
           have H := HC20.out
           clear HC20
           by_cases c23 : x8_2 = true
           ·subst c23
            have H1 : (impl_BlkMark.j2 k2 a1 a2 x7_2 true l0 (l0.length : Int) x33_2 false ((rd_T59 l0 x33_2).f0) ((rd_T59 l0 x33_2).f1)) = some r := by rw [if_pos rfl] at H; exact H
            clear H
            have H := H1
            clear H1
            have H' := Aside0.mk H
            clear H
            go_wp2
            go_meet
            case rel => exact ⟨_, (false), (by first | rfl | (simp; done) | (simp [*]; done)), H', ⟨by have := HJ5.out; have := HK2.out; first | omega | exact Nat.le_refl _⟩, ⟨pR (Kd.R_mono (Kd.R_far (p := ⟨gb295, 1, none⟩) (Kd.R_far (p := ⟨gb295, 0, none⟩) (Kd.R_mono HO_7.out (fun k_ hk => (⟨hk, hk.2⟩ : _ ∧ k_ ≠ gb295))) (fun _ hk => hk.2) (.int .i64 ((rd_T59 l0 x33_2).f0))) (fun _ hk => hk.2) (.int .i64 ((rd_T59 l0 x33_2).f1))) (fun _ hk => hk.1.2))⟩, ⟨by (with_reducible repeat (first | refine blk_drewN ?_ _ | refine blk_drew ?_ | refine blk_alloc ?_ _)); refine blk_put (cs := #[.int .i64 ((rd_T59 l0 x33_2).f0), .int .i64 0]) ?_ 1 _ rfl; (with_reducible repeat (first | refine blk_drewN ?_ _ | refine blk_drew ?_ | refine blk_alloc ?_ _)); refine blk_put (cs := #[.int .i64 0, .int .i64 0]) ?_ 0 _ rfl; (with_reducible repeat (first | refine blk_drewN ?_ _ | refine blk_drew ?_ | refine blk_alloc ?_ _)); exact BK295.out⟩, ⟨by repeat (first | (with_reducible first | exact HB.out | apply below_alloc | apply pw_below_drewN | apply below_drew1 | refine below_set ?_ GE295.out) | exact HB.out)⟩⟩
           ·replace c23 := Bool.eq_false_iff.mpr c23
            subst c23
            have H1 : (impl_BlkMark.j2 k2 a1 a2 x7_2 false l0 (l0.length : Int) x33_2 (decide (((rd_T59 l0 x33_2).f0) ≥ a1)) ((rd_T59 l0 x33_2).f0) ((rd_T59 l0 x33_2).f1)) = some r := by rw [if_neg (show ¬ (false = true) by decide)] at H; exact H
            clear H
            have H := H1
            clear H1
            have H' := Aside0.mk H
            clear H
            have hcz24_0 : w21.cell? ⟨gb295, 0, none⟩ = some (.int .i64 0) := (blk_cell BK295.out 0).trans rfl
            have hcz24_1 : w21.cell? ⟨gb295, 1, none⟩ = some (.int .i64 0) := (blk_cell BK295.out 1).trans rfl
            have hfz24_0 := blk_frozen BK295.out 0
            have hfz24_1 := blk_frozen BK295.out 1
            go_wp2
            go_meet
            case rel => exact ⟨_, (decide (((rd_T59 l0 x33_2).f0) ≥ a1)), (by first | rfl | (simp; done) | (simp [*]; done)), H', ⟨by have := HJ5.out; have := HK2.out; first | omega | exact Nat.le_refl _⟩, ⟨pR (Kd.R_mono (Kd.R_far (p := ⟨gb295, 1, none⟩) (Kd.R_far (p := ⟨gb295, 0, none⟩) (Kd.R_mono HO_7.out (fun k_ hk => (⟨hk, hk.2⟩ : _ ∧ k_ ≠ gb295))) (fun _ hk => hk.2) (.int .i64 ((rd_T59 l0 x33_2).f0))) (fun _ hk => hk.2) (.int .i64 ((rd_T59 l0 x33_2).f1))) (fun _ hk => hk.1.2))⟩, ⟨by (with_reducible repeat (first | refine blk_drewN ?_ _ | refine blk_drew ?_ | refine blk_alloc ?_ _)); refine blk_put (cs := #[.int .i64 ((rd_T59 l0 x33_2).f0), .int .i64 0]) ?_ 1 _ rfl; (with_reducible repeat (first | refine blk_drewN ?_ _ | refine blk_drew ?_ | refine blk_alloc ?_ _)); refine blk_put (cs := #[.int .i64 0, .int .i64 0]) ?_ 0 _ rfl; (with_reducible repeat (first | refine blk_drewN ?_ _ | refine blk_drew ?_ | refine blk_alloc ?_ _)); exact BK295.out⟩, ⟨by repeat (first | (with_reducible first | exact HB.out | apply below_alloc | apply pw_below_drewN | apply below_drew1 | refine below_set ?_ GE295.out) | exact HB.out)⟩⟩
          case rest =>
           clear HC20
           try clear c1
           try clear c2
           try clear p2
           try clear q2
           try clear hx2
           try clear c4
           try clear c5
           try clear c9
           try clear c11
           try clear c14
           try clear c17
           try clear c17b0
           try clear c18
           try clear c18b0
           try clear c19
           try clear c19b0
           try clear c23
           try clear hcz22_0
           try clear hcz22_1
           try clear hcz24_0
           try clear hcz24_1
           try clear hfz22_0
           try clear hfz22_1
           try clear hfz24_0
           try clear hfz24_1
           try clear hx294_0
           try clear hx294_1
           try clear p2
           try clear p294
           try clear q294
           obtain ⟨kq, x44_19, rfl, HA, HJ19, HO_7, BK295, HB⟩ := hcut
           cases kq with
           | zero => exact absurd HA.out (by simp [impl_BlkMark.j2])
           | succ kj19 =>
            have H := HA.out
            clear HA
            simp only [impl_BlkMark.j2] at H
            by_cases c25 : x44_19 = true
            ·subst c25
             have H1 : (if x7_2.length < 8796093022208 then ((some (x7_2 ++ [(⟨a1, a2⟩ : S59)] : List (S59))).bind fun y296 => (if ((rd_T59 l0 x33_2).f0) = a1 then (impl_BlkMark.l0 kj19 a1 a2 y296 true l0 (l0.length : Int) (wrap64 (x33_2 + 1))) else (if y296.length < 8796093022208 then (impl_BlkMark.l0 kj19 a1 a2 (y296 ++ [(⟨((rd_T59 l0 x33_2).f0), ((rd_T59 l0 x33_2).f1)⟩ : S59)]) true l0 (l0.length : Int) (wrap64 (x33_2 + 1))) else (none)))) else (none)) = some r := by rw [if_pos rfl] at H; exact H
             clear H
             have H := H1
             clear H1
             by_cases c26 : x7_2.length < 8796093022208
             ·rw [if_pos c26] at H
              have LMc26 := Aside0.mk c26
              clear c26
              obtain ⟨y296, hy296⟩ : ∃ y_ : List (S59), y_ = (x7_2 ++ [(⟨a1, a2⟩ : S59)]) := ⟨_, rfl⟩
              replace H : (if ((rd_T59 l0 x33_2).f0) = a1 then (impl_BlkMark.l0 kj19 a1 a2 y296 true l0 (l0.length : Int) (wrap64 (x33_2 + 1))) else (if y296.length < 8796093022208 then (impl_BlkMark.l0 kj19 a1 a2 (y296 ++ [(⟨((rd_T59 l0 x33_2).f0), ((rd_T59 l0 x33_2).f1)⟩ : S59)]) true l0 (l0.length : Int) (wrap64 (x33_2 + 1))) else (none))) = some r := by first | (rw [hy296]; with_reducible exact H) | (have H2_ := (Option.bind_some _ _).symm.trans H; rw [hy296]; with_reducible exact H2_) | (have H2_ := (Option.bind_some _ _).symm.trans H; with_reducible exact H2_) | with_reducible exact H | (rw [hy296]; exact H) | exact H
              have Ny296 := Aside0.mk hy296
              clear hy296
              by_cases c27 : ((rd_T59 l0 x33_2).f0) = a1
              ·rw [if_pos c27] at H
               have c27b0 : (((rd_T59 l0 x33_2).f0) == a1) = true := beq_iff_eq.mpr c27
               have c27b1 : (((rd_T59 l0 x33_2).f0) != a1) = false := bne_eq_false_iff_eq.mpr c27
               clear c27
               have H' := Aside0.mk H
               clear H
               go_wp2_with (first | ((with_reducible refine gate_builtin (b := .append) (xs := #[.tmp 45, .tmp 49]) rfl ?_); at_builtin; refine Kd.R_append k59 (w0 := w) w.heap.size rfl (.tmp 45) (.tmp 49) 25 59 (.agg #[(.int .i64 0), (.int .i64 0)]) 16 rfl Try.underlying25 info59 rfl (by decide) (by omega) u7 x7_2 (⟨a1, a2⟩ : S59) [.int .i64 a1, .int .i64 a2] (fun k_ => k_ ≠ gb295) (fun _ => False) rfl rfl ?aP (fun _ hk => hk.elim) ?aF ?aO ?aB ?aS ?aL ?_; (case aP => exact k59_mkM _ _ _ (⟨a1, a2⟩ : S59)); (case aB => exact (by repeat (first | (with_reducible first | exact HB.out | apply below_alloc | apply pw_below_drewN | apply below_drew1 | refine below_set ?_ GE295.out) | exact HB.out))); (case aF => exact (fun k_ hk => Kd.freshB (g := gb295) (o := .cells #[.int .i64 ((rd_T59 l0 x33_2).f0), .int .i64 ((rd_T59 l0 x33_2).f1)] 59 (0, 0)) (pK BK295.out) k_ hk)); (case aO => exact (pR HO_7.out)); (case aS => exact (below_size (by repeat (first | (with_reducible first | exact HB.out | apply below_alloc | apply pw_below_drewN | apply below_drew1 | refine below_set ?_ GE295.out) | exact HB.out)))); (case aL => have := LMc26.out; omega); intro v297 w28 ho hb hg hat; rw [← Ny296.out] at ho; have n0_ := Aside0.mk (blk_grown (g := gb295) (o := .cells #[.int .i64 ((rd_T59 l0 x33_2).f0), .int .i64 ((rd_T59 l0 x33_2).f1)] 59 (0, 0)) (pK BK295.out) hg (Kd.R_away HO_7.out (fun _ hk => hk))); have n1_ := Aside0.mk (hb); have n2_ := Aside0.mk (ho); clear BK295; clear HB; clear HO_7; have BK295 := n0_; have HB := n1_; have HO298 := n2_; clear n0_ n1_ n2_; clear ho hb hg hat; have hcz29_0 : w28.cell? ⟨gb295, 0, none⟩ = some (.int .i64 ((rd_T59 l0 x33_2).f0)) := (blk_cell BK295.out 0).trans rfl; have hcz29_1 : w28.cell? ⟨gb295, 1, none⟩ = some (.int .i64 ((rd_T59 l0 x33_2).f1)) := (blk_cell BK295.out 1).trans rfl; have hfz29_0 := blk_frozen BK295.out 0; have hfz29_1 := blk_frozen BK295.out 1))
               go_roundg kj19
               case measure => have := HJ5.out; have := HK2.out; have := HJ19.out; omega
               case rel => exact ⟨(y296), (true), (wrap64 (x33_2 + 1)), (by first | rfl | (simp; done) | (simp [*]; done)), (by first | rfl | (simp; done) | (simp [*]; done)), H', ⟨by have := HJ5.out; have := HK2.out; have := HJ19.out; omega⟩, ⟨pR (Kd.R_mono HO298.out (fun _ hk => trivial))⟩, ⟨by repeat (first | (with_reducible first | exact HB.out | apply below_alloc | apply pw_below_drewN | apply below_drew1 | refine below_set ?_ GE295.out) | exact HB.out)⟩⟩
              ·rw [if_neg c27] at H
               have c27b0 : (((rd_T59 l0 x33_2).f0) == a1) = false := beq_eq_false_iff_ne.mpr c27
               have c27b1 : (((rd_T59 l0 x33_2).f0) != a1) = true := bne_iff_ne.mpr c27
               by_cases c30 : y296.length < 8796093022208
               ·rw [if_pos c30] at H
                have LMc30 := Aside0.mk c30
                clear c30
                obtain ⟨y299, hy299⟩ : ∃ y_ : List (S59), y_ = (y296 ++ [(⟨((rd_T59 l0 x33_2).f0), ((rd_T59 l0 x33_2).f1)⟩ : S59)]) := ⟨_, rfl⟩
                replace H : (impl_BlkMark.l0 kj19 a1 a2 y299 true l0 (l0.length : Int) (wrap64 (x33_2 + 1))) = some r := by first | (rw [hy299]; with_reducible exact H) | (have H2_ := (Option.bind_some _ _).symm.trans H; rw [hy299]; with_reducible exact H2_) | (have H2_ := (Option.bind_some _ _).symm.trans H; with_reducible exact H2_) | with_reducible exact H | (rw [hy299]; exact H) | exact H
                have Ny299 := Aside0.mk hy299
                clear hy299
                have H' := Aside0.mk H
                clear H
                go_wp2_with (first | ((with_reducible refine gate_builtin (b := .append) (xs := #[.tmp 45, .tmp 49]) rfl ?_); at_builtin; refine Kd.R_append k59 (w0 := w) w.heap.size rfl (.tmp 45) (.tmp 49) 25 59 (.agg #[(.int .i64 0), (.int .i64 0)]) 16 rfl Try.underlying25 info59 rfl (by decide) (by omega) u7 x7_2 (⟨a1, a2⟩ : S59) [.int .i64 a1, .int .i64 a2] (fun k_ => k_ ≠ gb295) (fun _ => False) rfl rfl ?aP (fun _ hk => hk.elim) ?aF ?aO ?aB ?aS ?aL ?_; (case aP => exact k59_mkM _ _ _ (⟨a1, a2⟩ : S59)); (case aB => exact (by repeat (first | (with_reducible first | exact HB.out | apply below_alloc | apply pw_below_drewN | apply below_drew1 | refine below_set ?_ GE295.out) | exact HB.out))); (case aF => exact (fun k_ hk => Kd.freshB (g := gb295) (o := .cells #[.int .i64 ((rd_T59 l0 x33_2).f0), .int .i64 ((rd_T59 l0 x33_2).f1)] 59 (0, 0)) (pK BK295.out) k_ hk)); (case aO => exact (pR HO_7.out)); (case aS => exact (below_size (by repeat (first | (with_reducible first | exact HB.out | apply below_alloc | apply pw_below_drewN | apply below_drew1 | refine below_set ?_ GE295.out) | exact HB.out)))); (case aL => have := LMc26.out; omega); intro v297 w31 ho hb hg hat; rw [← Ny296.out] at ho; have n0_ := Aside0.mk (blk_grown (g := gb295) (o := .cells #[.int .i64 ((rd_T59 l0 x33_2).f0), .int .i64 ((rd_T59 l0 x33_2).f1)] 59 (0, 0)) (pK BK295.out) hg (Kd.R_away HO_7.out (fun _ hk => hk))); have n1_ := Aside0.mk (hb); have n2_ := Aside0.mk (ho); clear BK295; clear HB; clear HO_7; have BK295 := n0_; have HB := n1_; have HO298 := n2_; clear n0_ n1_ n2_; clear ho hb hg hat; have hcz32_0 : w31.cell? ⟨gb295, 0, none⟩ = some (.int .i64 ((rd_T59 l0 x33_2).f0)) := (blk_cell BK295.out 0).trans rfl; have hcz32_1 : w31.cell? ⟨gb295, 1, none⟩ = some (.int .i64 ((rd_T59 l0 x33_2).f1)) := (blk_cell BK295.out 1).trans rfl; have hfz32_0 := blk_frozen BK295.out 0; have hfz32_1 := blk_frozen BK295.out 1) | ((with_reducible refine gate_builtin (b := .append) (xs := #[.tmp 55, .tmp 57]) rfl ?_); at_builtin; refine Kd.R_append k59 (w0 := w) w.heap.size rfl (.tmp 55) (.tmp 57) 25 59 (.agg #[(.int .i64 0), (.int .i64 0)]) 16 rfl Try.underlying25 info59 rfl (by decide) (by omega) v297 y296 (⟨((rd_T59 l0 x33_2).f0), ((rd_T59 l0 x33_2).f1)⟩ : S59) [.int .i64 ((rd_T59 l0 x33_2).f0), .int .i64 ((rd_T59 l0 x33_2).f1)] (fun k_ => k_ ≠ gb295) (fun _ => False) rfl rfl ?aP (fun _ hk => hk.elim) ?aF ?aO ?aB ?aS ?aL ?_; (case aP => exact k59_mkM _ _ _ (⟨((rd_T59 l0 x33_2).f0), ((rd_T59 l0 x33_2).f1)⟩ : S59)); (case aB => exact (by repeat (first | (with_reducible first | exact HB.out | apply below_alloc | apply pw_below_drewN | apply below_drew1 | refine below_set ?_ GE295.out) | exact HB.out))); (case aF => exact (fun k_ hk => Kd.freshB (g := gb295) (o := .cells #[.int .i64 ((rd_T59 l0 x33_2).f0), .int .i64 ((rd_T59 l0 x33_2).f1)] 59 (0, 0)) (pK BK295.out) k_ hk)); (case aO => exact (pR HO298.out)); (case aS => exact (below_size (by repeat (first | (with_reducible first | exact HB.out | apply below_alloc | apply pw_below_drewN | apply below_drew1 | refine below_set ?_ GE295.out) | exact HB.out)))); (case aL => have := LMc30.out; omega); intro v300 w33 ho hb hg hat; rw [← Ny299.out] at ho; have n0_ := Aside0.mk (blk_grown (g := gb295) (o := .cells #[.int .i64 ((rd_T59 l0 x33_2).f0), .int .i64 ((rd_T59 l0 x33_2).f1)] 59 (0, 0)) (pK BK295.out) hg (Kd.R_away HO298.out (fun _ hk => hk))); have n1_ := Aside0.mk (hb); have n2_ := Aside0.mk (ho); clear BK295; clear HB; clear HO298; have BK295 := n0_; have HB := n1_; have HO301 := n2_; clear n0_ n1_ n2_; clear ho hb hg hat))
                go_roundg kj19
                case measure => have := HJ5.out; have := HK2.out; have := HJ19.out; omega
                case rel => exact ⟨(y299), (true), (wrap64 (x33_2 + 1)), (by first | rfl | (simp; done) | (simp [*]; done)), (by first | rfl | (simp; done) | (simp [*]; done)), H', ⟨by have := HJ5.out; have := HK2.out; have := HJ19.out; omega⟩, ⟨pR (Kd.R_mono HO301.out (fun _ hk => trivial))⟩, ⟨by repeat (first | (with_reducible first | exact HB.out | apply below_alloc | apply pw_below_drewN | apply below_drew1 | refine below_set ?_ GE295.out) | exact HB.out)⟩⟩
               ·rw [if_neg c30] at H
                exact absurd H (by simp)
             ·rw [if_neg c26] at H
              exact absurd H (by simp)
            ·replace c25 := Bool.eq_false_iff.mpr c25
             subst c25
             have H1 : (if ((rd_T59 l0 x33_2).f0) = a1 then (impl_BlkMark.l0 kj19 a1 a2 x7_2 x8_2 l0 (l0.length : Int) (wrap64 (x33_2 + 1))) else (if x7_2.length < 8796093022208 then (impl_BlkMark.l0 kj19 a1 a2 (x7_2 ++ [(⟨((rd_T59 l0 x33_2).f0), ((rd_T59 l0 x33_2).f1)⟩ : S59)]) x8_2 l0 (l0.length : Int) (wrap64 (x33_2 + 1))) else (none))) = some r := by rw [if_neg (show ¬ (false = true) by decide)] at H; exact H
             clear H
             have H := H1
             clear H1
             by_cases c34 : ((rd_T59 l0 x33_2).f0) = a1
             ·rw [if_pos c34] at H
              have c34b0 : (((rd_T59 l0 x33_2).f0) == a1) = true := beq_iff_eq.mpr c34
              have c34b1 : (((rd_T59 l0 x33_2).f0) != a1) = false := bne_eq_false_iff_eq.mpr c34
              clear c34
              have H' := Aside0.mk H
              clear H
              have hcz35_0 : wc.cell? ⟨gb295, 0, none⟩ = some (.int .i64 ((rd_T59 l0 x33_2).f0)) := (blk_cell BK295.out 0).trans rfl
              have hcz35_1 : wc.cell? ⟨gb295, 1, none⟩ = some (.int .i64 ((rd_T59 l0 x33_2).f1)) := (blk_cell BK295.out 1).trans rfl
              have hfz35_0 := blk_frozen BK295.out 0
              have hfz35_1 := blk_frozen BK295.out 1
              go_wp2
              go_roundg kj19
              case measure => have := HJ5.out; have := HK2.out; have := HJ19.out; omega
              case rel => exact ⟨(x7_2), (x8_2), (wrap64 (x33_2 + 1)), (by first | rfl | (simp; done) | (simp [*]; done)), (by first | rfl | (simp; done) | (simp [*]; done)), H', ⟨by have := HJ5.out; have := HK2.out; have := HJ19.out; omega⟩, ⟨pR (Kd.R_mono HO_7.out (fun _ hk => trivial))⟩, ⟨by repeat (first | (with_reducible first | exact HB.out | apply below_alloc | apply pw_below_drewN | apply below_drew1 | refine below_set ?_ GE295.out) | exact HB.out)⟩⟩
             ·rw [if_neg c34] at H
              have c34b0 : (((rd_T59 l0 x33_2).f0) == a1) = false := beq_eq_false_iff_ne.mpr c34
              have c34b1 : (((rd_T59 l0 x33_2).f0) != a1) = true := bne_iff_ne.mpr c34
              by_cases c36 : x7_2.length < 8796093022208
              ·rw [if_pos c36] at H
               have LMc36 := Aside0.mk c36
               clear c36
               obtain ⟨y302, hy302⟩ : ∃ y_ : List (S59), y_ = (x7_2 ++ [(⟨((rd_T59 l0 x33_2).f0), ((rd_T59 l0 x33_2).f1)⟩ : S59)]) := ⟨_, rfl⟩
               replace H : (impl_BlkMark.l0 kj19 a1 a2 y302 x8_2 l0 (l0.length : Int) (wrap64 (x33_2 + 1))) = some r := by first | (rw [hy302]; with_reducible exact H) | (have H2_ := (Option.bind_some _ _).symm.trans H; rw [hy302]; with_reducible exact H2_) | (have H2_ := (Option.bind_some _ _).symm.trans H; with_reducible exact H2_) | with_reducible exact H | (rw [hy302]; exact H) | exact H
               have Ny302 := Aside0.mk hy302
               clear hy302
               have H' := Aside0.mk H
               clear H
               have hcz37_0 : wc.cell? ⟨gb295, 0, none⟩ = some (.int .i64 ((rd_T59 l0 x33_2).f0)) := (blk_cell BK295.out 0).trans rfl
               have hcz37_1 : wc.cell? ⟨gb295, 1, none⟩ = some (.int .i64 ((rd_T59 l0 x33_2).f1)) := (blk_cell BK295.out 1).trans rfl
               have hfz37_0 := blk_frozen BK295.out 0
               have hfz37_1 := blk_frozen BK295.out 1
               go_wp2_with (first | ((with_reducible refine gate_builtin (b := .append) (xs := #[.tmp 55, .tmp 57]) rfl ?_); at_builtin; refine Kd.R_append k59 (w0 := w) w.heap.size rfl (.tmp 55) (.tmp 57) 25 59 (.agg #[(.int .i64 0), (.int .i64 0)]) 16 rfl Try.underlying25 info59 rfl (by decide) (by omega) u7 x7_2 (⟨((rd_T59 l0 x33_2).f0), ((rd_T59 l0 x33_2).f1)⟩ : S59) [.int .i64 ((rd_T59 l0 x33_2).f0), .int .i64 ((rd_T59 l0 x33_2).f1)] (fun k_ => k_ ≠ gb295) (fun _ => False) rfl rfl ?aP (fun _ hk => hk.elim) ?aF ?aO ?aB ?aS ?aL ?_; (case aP => exact k59_mkM _ _ _ (⟨((rd_T59 l0 x33_2).f0), ((rd_T59 l0 x33_2).f1)⟩ : S59)); (case aB => exact (by repeat (first | (with_reducible first | exact HB.out | apply below_alloc | apply pw_below_drewN | apply below_drew1 | refine below_set ?_ GE295.out) | exact HB.out))); (case aF => exact (fun k_ hk => Kd.freshB (g := gb295) (o := .cells #[.int .i64 ((rd_T59 l0 x33_2).f0), .int .i64 ((rd_T59 l0 x33_2).f1)] 59 (0, 0)) (pK BK295.out) k_ hk)); (case aO => exact (pR HO_7.out)); (case aS => exact (below_size (by repeat (first | (with_reducible first | exact HB.out | apply below_alloc | apply pw_below_drewN | apply below_drew1 | refine below_set ?_ GE295.out) | exact HB.out)))); (case aL => have := LMc36.out; omega); intro v303 w38 ho hb hg hat; rw [← Ny302.out] at ho; have n0_ := Aside0.mk (blk_grown (g := gb295) (o := .cells #[.int .i64 ((rd_T59 l0 x33_2).f0), .int .i64 ((rd_T59 l0 x33_2).f1)] 59 (0, 0)) (pK BK295.out) hg (Kd.R_away HO_7.out (fun _ hk => hk))); have n1_ := Aside0.mk (hb); have n2_ := Aside0.mk (ho); clear BK295; clear HB; clear HO_7; have BK295 := n0_; have HB := n1_; have HO304 := n2_; clear n0_ n1_ n2_; clear ho hb hg hat))
               go_roundg kj19
               case measure => have := HJ5.out; have := HK2.out; have := HJ19.out; omega
               case rel => exact ⟨(y302), (x8_2), (wrap64 (x33_2 + 1)), (by first | rfl | (simp; done) | (simp [*]; done)), (by first | rfl | (simp; done) | (simp [*]; done)), H', ⟨by have := HJ5.out; have := HK2.out; have := HJ19.out; omega⟩, ⟨pR (Kd.R_mono HO304.out (fun _ hk => trivial))⟩, ⟨by repeat (first | (with_reducible first | exact HB.out | apply below_alloc | apply pw_below_drewN | apply below_drew1 | refine below_set ?_ GE295.out) | exact HB.out)⟩⟩
              ·rw [if_neg c36] at H
               exact absurd H (by simp)
         ·rw [if_neg c19] at H
          exact absurd H (by simp)
        ·rw [if_neg c18] at H
         exact absurd H (by simp)
       ·rw [if_neg c17] at H
        have c17b0 : decide (x33_2 < (l0.length : Int)) = false := decide_eq_false c17
        clear c17
        by_cases c39 : x8_2 = true
        ·subst c39
         have H1 : ((impl_copied_BlkLast.f x7_2).bind fun t285 => (some t285)) = some r := by rw [if_pos rfl] at H; exact H
         clear H
         have H := H1
         clear H1
         replace H := Option.bind_eq_some_iff.mp H
         obtain ⟨t285, A400, H⟩ := H
         replace H : (some t285) = some r := H
         have A40 := Aside0.mk A400
         clear A400
         obtain rfl := Option.some.inj H
         obtain ⟨Ao41, co41, eo41⟩ := Kd.R_slice HO_7.out
         subst eo41
         go_wp2_with (first | ((with_reducible refine gate_callee (f := 55) rfl ?_); refine goesL_ (some 69) rfl rfl Try.func55 (by kernel_rfl) rfl #[.slice Ao41 x7_2.length co41] rfl bM ?_; (with_reducible refine (impl_copied_BlkLast.calls _ _ x7_2 t285 _ ?side1 ?side2 A40.out).mono ?_); (case side1 => exact pC (Kd.R_reads' HO_7.out).2.2); (case side2 => exact (Kd.R_reads' HO_7.out).2.1); rintro e w42 ⟨v286, rfl, ho0, hb⟩; refine ⟨_, rfl, ?_⟩; have n0_ := Aside0.mk (Kd.R_elder' (pR HO_7.out) (Kd.R_base ho0) hb); have n1_ := Aside0.mk (Kd.R_lower (Kd.R_new' ho0 (Kd.R_lt (pR HO_7.out))) (below_size (pB HB.out))); have n2_ := Aside0.mk (below_step (pB HB.out) hb); clear HO_7; clear HB; have HO_7 := n0_; have HO287 := n1_; have HB := n2_; clear n0_ n1_ n2_; (try clear hb); (try clear hb2); (try clear hk); (try clear hi); (try clear ho0)))
         go_ret
         exact ⟨_, by first | rfl | (simp [errW_none, errW_some] <;> rfl) | (simp [*, errW_none, errW_some] <;> rfl), pR (Kd.R_mono HO287.out (fun _ hk => trivial)), pB HB.out⟩
        ·replace c39 := Bool.eq_false_iff.mpr c39
         subst c39
         have H1 : (if x7_2.length < 8796093022208 then ((impl_copied_BlkLast.f (x7_2 ++ [(⟨a1, a2⟩ : S59)])).bind fun t291 => (some t291)) else (none)) = some r := by rw [if_neg (show ¬ (false = true) by decide)] at H; exact H
         clear H
         have H := H1
         clear H1
         by_cases c43 : x7_2.length < 8796093022208
         ·rw [if_pos c43] at H
          have LMc43 := Aside0.mk c43
          clear c43
          obtain ⟨y288, hy288⟩ : ∃ y_ : List (S59), y_ = (x7_2 ++ [(⟨a1, a2⟩ : S59)]) := ⟨_, rfl⟩
          replace H : ((impl_copied_BlkLast.f y288).bind fun t291 => (some t291)) = some r := by first | (rw [hy288]; with_reducible exact H) | (have H2_ := (Option.bind_some _ _).symm.trans H; rw [hy288]; with_reducible exact H2_) | (have H2_ := (Option.bind_some _ _).symm.trans H; with_reducible exact H2_) | with_reducible exact H | (rw [hy288]; exact H) | exact H
          have Ny288 := Aside0.mk hy288
          clear hy288
          replace H := Option.bind_eq_some_iff.mp H
          obtain ⟨t291, A440, H⟩ := H
          replace H : (some t291) = some r := H
          have A44 := Aside0.mk A440
          clear A440
          obtain rfl := Option.some.inj H
          go_wp2_with (first | ((with_reducible refine gate_builtin (b := .append) (xs := #[.tmp 62, .tmp 66]) rfl ?_); at_builtin; refine Kd.R_append k59 (w0 := w) w.heap.size rfl (.tmp 62) (.tmp 66) 25 59 (.agg #[(.int .i64 0), (.int .i64 0)]) 16 rfl Try.underlying25 info59 rfl (by decide) (by omega) u7 x7_2 (⟨a1, a2⟩ : S59) [.int .i64 a1, .int .i64 a2] (fun _ => True) (fun _ => False) rfl rfl ?aP (fun _ hk => hk.elim) ?aF ?aO ?aB ?aS ?aL ?_; (case aP => exact k59_mkM _ _ _ (⟨a1, a2⟩ : S59)); (case aB => exact (pB HB.out)); (case aF => exact (fun _ _ => trivial)); (case aO => exact (pR HO_7.out)); (case aS => exact (below_size (pB HB.out))); (case aL => have := LMc43.out; omega); intro v289 w45 ho hb hg hat; rw [← Ny288.out] at ho; have n0_ := Aside0.mk (hb); have n1_ := Aside0.mk (ho); clear HB; clear HO_7; have HB := n0_; have HO290 := n1_; clear n0_ n1_; clear ho hb hg hat; obtain ⟨Ao46, co46, eo46⟩ := Kd.R_slice HO290.out; subst eo46) | ((with_reducible refine gate_callee (f := 55) rfl ?_); refine goesL_ (some 69) rfl rfl Try.func55 (by kernel_rfl) rfl #[.slice Ao46 y288.length co46] rfl bM ?_; (with_reducible refine (impl_copied_BlkLast.calls _ _ y288 t291 _ ?side1 ?side2 A44.out).mono ?_); (case side1 => exact pC (Kd.R_reads' HO290.out).2.2); (case side2 => exact (Kd.R_reads' HO290.out).2.1); rintro e w47 ⟨v292, rfl, ho0, hb⟩; refine ⟨_, rfl, ?_⟩; have n0_ := Aside0.mk (Kd.R_elder' (pR HO290.out) (Kd.R_base ho0) hb); have n1_ := Aside0.mk (Kd.R_lower (Kd.R_new' ho0 (Kd.R_lt (pR HO290.out))) (below_size (pB HB.out))); have n2_ := Aside0.mk (below_step (pB HB.out) hb); clear HO290; clear HB; have HO290 := n0_; have HO293 := n1_; have HB := n2_; clear n0_ n1_ n2_; (try clear hb); (try clear hb2); (try clear hk); (try clear hi); (try clear ho0)))
          go_ret
          exact ⟨_, by first | rfl | (simp [errW_none, errW_some] <;> rfl) | (simp [*, errW_none, errW_some] <;> rfl), pR (Kd.R_mono HO293.out (fun _ hk => trivial)), pB HB.out⟩
         ·rw [if_neg c43] at H
          exact absurd H (by simp)
 ·replace c5 := Bool.eq_false_iff.mpr c5
  subst c5
  have H1 : (some ([] : List (S59))) = some r := by rw [if_neg (show ¬ (false = true) by decide)] at H; exact H
  clear H
  have H := H1
  clear H1
  obtain rfl := Option.some.inj H
  go_enter Try.func29, Try.ntmps29
  go_wp2_with (first | ((with_reducible refine gate_callee (f := 44) rfl ?_); refine goesL_ (some 12) rfl rfl Try.func44 (by kernel_rfl) rfl #[.slice A0 l0.length c0] rfl bM ?_; (with_reducible refine (impl_lastOk.calls k _ _ l0 false _ ?side1 ?side2 A4.out).mono ?_); (case side1 => exact pC HR0.out); (case side2 => exact HC0.out); rintro e w48 ⟨rfl, hb⟩; refine ⟨_, rfl, ?_⟩; have n0_ := Aside0.mk (below_step (pB HB.out) hb); clear HB; have HB := n0_; clear n0_; (try clear hb); (try clear hb2); (try clear hk); (try clear hi)))
  go_ret
  exact ⟨_, by first | rfl | (simp [errW_none, errW_some] <;> rfl) | (simp [*, errW_none, errW_some] <;> rfl), by first | exact Kd.R_nil _ _ _ _ _ | exact Kd.N_nil _ _ _ _ _ | exact Kd.V_nil _ _ _ _ _ | exact Kd.Q_nil _ _ _ _ _ | exact Kd.S_nil _ _ _ _ _, pB HB.out⟩

end Go.Proofs.Ytdcdaclmicmiaaa.P
