-- printed by pprint.py (this session's program over the kit's printer) out of the translation. Lean checks it.
import Derived.Test.YthkdhcaojhbfoaaPx0
import Derived.Test.YthkdhcaojhbfoaaPx10
import Derived.Test.YthkdhcaojhbfoaaPx13
import Derived.Test.YthkdhcaojhbfoaaPx15
import Derived.Test.YthkdhcaojhbfoaaPx16
import Derived.Test.YthkdhcaojhbfoaaPx19
namespace Go.Proofs.Ythkdhcaojhbfoaa.P
open Go.RowKit Go.Proofs.YthkdhcaojhbfoaaX Go.Proofs.YthkdhcaojhbfoaaW.PrintWords Go.Proofs.YthkdhcaojhbfoaaW.PrintLast Go.Proofs.YthkdhcaojhbfoaaW.PrintMore
attribute [local go_sem] max2_int min2_int max_two min_two max_three min_three max_four min_four   -- for this text's walks alone
set_option linter.unusedVariables false
set_option linter.unusedSimpArgs false

/-! ### laws_FnSecSwap: function 8 -/
mutual
def laws_FnSecSwap.j0 : Nat → List Int → List Int → Bool → Option (Bool)
 | 0, _, _, _ => none
 | k + 1, x0, x1, x26 => if x26 = true then (some true) else ((spec_DrawSecPut.f k x0).bind fun bt516 => ((spec_DrawSecPut.f k x1).bind fun bt525 => ((spec_SecPut.f k bt516.1 bt516.2.1 bt516.2.2.1 bt516.2.2.2).bind fun bt534 => ((impl_SecPut.f k bt516.1 bt516.2.1 bt516.2.2.1 bt516.2.2.2).bind fun bt542 => (if (bt542.2.2 != bt534.2.2) = true then (laws_FnSecSwap.j1 k bt516.2.2.1 bt516.2.2.2 bt525.2.2.1 bt525.2.2.2 bt534.2.2 bt542.2.2 true bt516.1 bt516.2.1 bt534.1 bt534.2.1 bt542.1 bt542.2.1) else ((laws_lpSec.f k bt542.1 bt542.2.1 bt534.1 bt534.2.1).bind fun t550 => (if t550 = true then (laws_FnSecSwap.j1 k bt516.2.2.1 bt516.2.2.2 bt525.2.2.1 bt525.2.2.2 bt534.2.2 bt542.2.2 (bt516.2.2.1 == bt525.2.2.1) bt516.1 bt516.2.1 bt534.1 bt534.2.1 bt542.1 bt542.2.1) else (laws_FnSecSwap.j1 k bt516.2.2.1 bt516.2.2.2 bt525.2.2.1 bt525.2.2.2 bt534.2.2 bt542.2.2 true bt516.1 bt516.2.1 bt534.1 bt534.2.1 bt542.1 bt542.2.1))))))))
def laws_FnSecSwap.j1 : Nat → Int → ByteArray → Int → ByteArray → Bool → Bool → Bool → List ByteArray → List (S54) → List ByteArray → List (S54) → List ByteArray → List (S54) → Option (Bool)
 | 0, _, _, _, _, _, _, _, _, _, _, _, _, _ => none
 | k + 1, x6, x7, x9, x10, x12, x14, x66, x525000, x525001, x542000, x542001, x550000, x550001 => if x66 = true then (if (x14 == x12) = true then ((laws_lpSec.f k x550000 x550001 x542000 x542001).bind fun t551 => (some t551)) else (some false)) else ((impl_SecPut.f k x550000 x550001 x9 x10).bind fun bt552 => ((impl_SecPut.f k x525000 x525001 x9 x10).bind fun bt559 => ((impl_SecPut.f k bt559.1 bt559.2.1 x6 x7).bind fun bt567 => (if x14 = true then (if bt552.2.2 = true then (if bt559.2.2 = true then (laws_FnSecSwap.j2 k (!bt567.2.2) bt552.1 bt552.2.1 bt567.1 bt567.2.1) else (laws_FnSecSwap.j2 k true bt552.1 bt552.2.1 bt567.1 bt567.2.1)) else (laws_FnSecSwap.j2 k true bt552.1 bt552.2.1 bt567.1 bt567.2.1)) else (laws_FnSecSwap.j2 k true bt552.1 bt552.2.1 bt567.1 bt567.2.1)))))
def laws_FnSecSwap.j2 : Nat → Bool → List ByteArray → List (S54) → List ByteArray → List (S54) → Option (Bool)
 | 0, _, _, _, _, _ => none
 | k + 1, x109, x550000, x550001, x567000, x567001 => if x109 = true then (some true) else ((impl_SecFlush.f k x550000 x550001).bind fun bt574 => ((impl_SecFlush.f k x567000 x567001).bind fun bt580 => ((laws_lpSec.f k bt574.1 bt574.2 bt580.1 bt580.2).bind fun t586 => (some t586))))
end
def laws_FnSecSwap.f (k : Nat) (l0 : List Int) (l1 : List Int) : Option (Bool) := if (l0.length : Int) > 1048576 then (laws_FnSecSwap.j0 k l0 l1 true) else (laws_FnSecSwap.j0 k l0 l1 (decide ((l1.length : Int) > 1048576)))
theorem laws_FnSecSwap.mono_l : ∀ k, (∀ y0 y1 y2, LeO (laws_FnSecSwap.j0 k y0 y1 y2) (laws_FnSecSwap.j0 (k + 1) y0 y1 y2)) ∧ (∀ y0 y1 y2 y3 y4 y5 y6 y7 y8 y9 y10 y11 y12, LeO (laws_FnSecSwap.j1 k y0 y1 y2 y3 y4 y5 y6 y7 y8 y9 y10 y11 y12) (laws_FnSecSwap.j1 (k + 1) y0 y1 y2 y3 y4 y5 y6 y7 y8 y9 y10 y11 y12)) ∧ (∀ y0 y1 y2 y3 y4, LeO (laws_FnSecSwap.j2 k y0 y1 y2 y3 y4) (laws_FnSecSwap.j2 (k + 1) y0 y1 y2 y3 y4))
 | 0 => ⟨fun _ _ _ r h => by simp [laws_FnSecSwap.j0] at h, fun _ _ _ _ _ _ _ _ _ _ _ _ _ r h => by simp [laws_FnSecSwap.j1] at h, fun _ _ _ _ _ r h => by simp [laws_FnSecSwap.j2] at h⟩
 | k + 1 => by
  obtain ⟨ih0, ih1, ih2⟩ := laws_FnSecSwap.mono_l k
  refine ⟨?_, ?_, ?_⟩
  ·intro y0 y1 y2
   unfold laws_FnSecSwap.j0
   repeat' first
   | (with_reducible exact ih0 _ _ _)
   | (with_reducible exact ih1 _ _ _ _ _ _ _ _ _ _ _ _ _)
   | (with_reducible exact ih2 _ _ _ _ _)
   | (with_reducible exact impl_SecFlush.mono _ _ _)
   | (with_reducible exact impl_SecPut.mono _ _ _ _ _)
   | (with_reducible exact laws_lpSec.mono _ _ _ _ _)
   | (with_reducible exact spec_DrawSecPut.mono _ _)
   | (with_reducible exact spec_SecPut.mono _ _ _ _ _)
   | (with_reducible exact LeO.refl _)
   | (with_reducible exact LeO.none _)
   | (with_reducible refine LeO.ite ?_ ?_)
   | (with_reducible refine LeO.bind ?_ (fun _ => ?_))
   | exact ih0 _ _ _
   | exact ih1 _ _ _ _ _ _ _ _ _ _ _ _ _
   | exact ih2 _ _ _ _ _
   | exact impl_SecFlush.mono _ _ _
   | exact impl_SecPut.mono _ _ _ _ _
   | exact laws_lpSec.mono _ _ _ _ _
   | exact spec_DrawSecPut.mono _ _
   | exact spec_SecPut.mono _ _ _ _ _
   | exact LeO.none _
   | refine LeO.ite ?_ ?_
   | refine LeO.bind ?_ (fun _ => ?_)
  ·intro y0 y1 y2 y3 y4 y5 y6 y7 y8 y9 y10 y11 y12
   unfold laws_FnSecSwap.j1
   repeat' first
   | (with_reducible exact ih0 _ _ _)
   | (with_reducible exact ih1 _ _ _ _ _ _ _ _ _ _ _ _ _)
   | (with_reducible exact ih2 _ _ _ _ _)
   | (with_reducible exact impl_SecFlush.mono _ _ _)
   | (with_reducible exact impl_SecPut.mono _ _ _ _ _)
   | (with_reducible exact laws_lpSec.mono _ _ _ _ _)
   | (with_reducible exact spec_DrawSecPut.mono _ _)
   | (with_reducible exact spec_SecPut.mono _ _ _ _ _)
   | (with_reducible exact LeO.refl _)
   | (with_reducible exact LeO.none _)
   | (with_reducible refine LeO.ite ?_ ?_)
   | (with_reducible refine LeO.bind ?_ (fun _ => ?_))
   | exact ih0 _ _ _
   | exact ih1 _ _ _ _ _ _ _ _ _ _ _ _ _
   | exact ih2 _ _ _ _ _
   | exact impl_SecFlush.mono _ _ _
   | exact impl_SecPut.mono _ _ _ _ _
   | exact laws_lpSec.mono _ _ _ _ _
   | exact spec_DrawSecPut.mono _ _
   | exact spec_SecPut.mono _ _ _ _ _
   | exact LeO.none _
   | refine LeO.ite ?_ ?_
   | refine LeO.bind ?_ (fun _ => ?_)
  ·intro y0 y1 y2 y3 y4
   unfold laws_FnSecSwap.j2
   repeat' first
   | (with_reducible exact ih0 _ _ _)
   | (with_reducible exact ih1 _ _ _ _ _ _ _ _ _ _ _ _ _)
   | (with_reducible exact ih2 _ _ _ _ _)
   | (with_reducible exact impl_SecFlush.mono _ _ _)
   | (with_reducible exact impl_SecPut.mono _ _ _ _ _)
   | (with_reducible exact laws_lpSec.mono _ _ _ _ _)
   | (with_reducible exact spec_DrawSecPut.mono _ _)
   | (with_reducible exact spec_SecPut.mono _ _ _ _ _)
   | (with_reducible exact LeO.refl _)
   | (with_reducible exact LeO.none _)
   | (with_reducible refine LeO.ite ?_ ?_)
   | (with_reducible refine LeO.bind ?_ (fun _ => ?_))
   | exact ih0 _ _ _
   | exact ih1 _ _ _ _ _ _ _ _ _ _ _ _ _
   | exact ih2 _ _ _ _ _
   | exact impl_SecFlush.mono _ _ _
   | exact impl_SecPut.mono _ _ _ _ _
   | exact laws_lpSec.mono _ _ _ _ _
   | exact spec_DrawSecPut.mono _ _
   | exact spec_SecPut.mono _ _ _ _ _
   | exact LeO.none _
   | refine LeO.ite ?_ ?_
   | refine LeO.bind ?_ (fun _ => ?_)
theorem laws_FnSecSwap.mono : ∀ a0 a1 k, LeO (laws_FnSecSwap.f k a0 a1) (laws_FnSecSwap.f (k + 1) a0 a1) := by
 intro a0 a1 k
 obtain ⟨ih0, ih1, ih2⟩ := laws_FnSecSwap.mono_l k
 unfold laws_FnSecSwap.f
 repeat' first
   | (with_reducible exact ih0 _ _ _)
   | (with_reducible exact ih1 _ _ _ _ _ _ _ _ _ _ _ _ _)
   | (with_reducible exact ih2 _ _ _ _ _)
   | (with_reducible exact impl_SecFlush.mono _ _ _)
   | (with_reducible exact impl_SecPut.mono _ _ _ _ _)
   | (with_reducible exact laws_lpSec.mono _ _ _ _ _)
   | (with_reducible exact spec_DrawSecPut.mono _ _)
   | (with_reducible exact spec_SecPut.mono _ _ _ _ _)
   | (with_reducible exact LeO.refl _)
   | (with_reducible exact LeO.none _)
   | (with_reducible refine LeO.ite ?_ ?_)
   | (with_reducible refine LeO.bind ?_ (fun _ => ?_))
   | exact ih0 _ _ _
   | exact ih1 _ _ _ _ _ _ _ _ _ _ _ _ _
   | exact ih2 _ _ _ _ _
   | exact impl_SecFlush.mono _ _ _
   | exact impl_SecPut.mono _ _ _ _ _
   | exact laws_lpSec.mono _ _ _ _ _
   | exact spec_DrawSecPut.mono _ _
   | exact spec_SecPut.mono _ _ _ _ _
   | exact LeO.none _
   | refine LeO.ite ?_ ?_
   | refine LeO.bind ?_ (fun _ => ?_)
set_option maxHeartbeats 8000000 in
set_option maxRecDepth 100000 in
theorem laws_FnSecSwap.calls (k : Nat) (A0 : Option Addr) (c0 : Nat) (l0 : List Int) (A1 : Option Addr) (c1 : Nat) (l1 : List Int) (r : Bool) (w : World) (hr0 : Kd.C (Kd.int .u8) w A0 l0.length l0) (hc0 : l0.length ≤ c0) (hr1 : Kd.C (Kd.int .u8) w A1 l1.length l1) (hc1 : l1.length ≤ c1) (h : laws_FnSecSwap.f k l0 l1 = some r) :
  Calls Try.prog 8 #[.slice A0 l0.length c0, .slice A1 l1.length c1] w fun e w' => e = .returned (.bool r) ∧ Below w.heap.size w w' := by
 have hu26 := Try.underlying26
 have HR0 := Aside0.mk hr0
 have HC0 := Aside0.mk hc0
 clear hr0 hc0
 have HR1 := Aside0.mk hr1
 have HC1 := Aside0.mk hc1
 clear hr1 hc1
 have HB := Aside0.mk (Below.refl w.heap.size w)
 have H : (if (l0.length : Int) > 1048576 then (laws_FnSecSwap.j0 k l0 l1 true) else (laws_FnSecSwap.j0 k l0 l1 (decide ((l1.length : Int) > 1048576)))) = some r := h
 clear h
 have HC3 := Aside0.mk H
 clear H
 go_enter Try.func8, Try.ntmps8
 go_upto_region 1 with (fail)
 go_cut [26] (fun v26 wc => ∃ (kq : Nat) (x26_2 : Bool), v26 = .bool x26_2 ∧ Aside0 (laws_FnSecSwap.j0 kq l0 l1 x26_2 = some r) ∧ Aside0 (kq ≤ k) ∧ Aside0 (Below w.heap.size w wc))
 case first =>
  have H := HC3.out
  clear HC3
  by_cases c4 : (l0.length : Int) > 1048576
  ·rw [if_pos c4] at H
   have c4b0 : decide (1048576 < (l0.length : Int)) = true := decide_eq_true c4
   have c4b1 : decide (1048576 < l0.length) = true := decide_eq_true (by omega)
   clear c4
   (first | rw [c4b0] | (simp only [i64_w, i32_w]; rw [c4b0]) | skip)
   have H' := Aside0.mk H
   clear H
   go_wp2
   go_meet
   case rel => exact ⟨_, (true), (by first | rfl | (simp; done) | (simp [*]; done)), H', ⟨by first | omega | exact Nat.le_refl _⟩, ⟨pB HB.out⟩⟩
  ·rw [if_neg c4] at H
   have c4b0 : decide (1048576 < (l0.length : Int)) = false := decide_eq_false c4
   have c4b1 : decide (1048576 < l0.length) = false := decide_eq_false (by omega)
   clear c4
   (first | rw [c4b0] | (simp only [i64_w, i32_w]; rw [c4b0]) | skip)
   have H' := Aside0.mk H
   clear H
   go_wp2
   go_meet
   case rel => exact ⟨_, (decide ((l1.length : Int) > 1048576)), (by first | rfl | (simp; done) | (simp [*]; done)), H', ⟨by first | omega | exact Nat.le_refl _⟩, ⟨pB HB.out⟩⟩
 case rest =>
  clear HC3
  try clear c1
  try clear p2
  try clear c4
  try clear c4b0
  try clear c4b1
  obtain ⟨kq, x26_2, rfl, HA, HJ2, HB⟩ := hcut
  cases kq with
  | zero => exact absurd HA.out (by simp [laws_FnSecSwap.j0])
  | succ kj2 =>
   have H := HA.out
   clear HA
   simp only [laws_FnSecSwap.j0] at H
   by_cases c5 : x26_2 = true
   ·subst c5
    have H1 : (some true) = some r := by rw [if_pos rfl] at H; exact H
    clear H
    have H := H1
    clear H1
    obtain rfl := Option.some.inj H
    go_wp2
    go_ret
    exact ⟨by first | rfl | (simp [errW_none, errW_some] <;> rfl) | (simp [*, errW_none, errW_some] <;> rfl), pB HB.out⟩
   ·replace c5 := Bool.eq_false_iff.mpr c5
    subst c5
    have H1 : ((spec_DrawSecPut.f kj2 l0).bind fun bt516 => ((spec_DrawSecPut.f kj2 l1).bind fun bt525 => ((spec_SecPut.f kj2 bt516.1 bt516.2.1 bt516.2.2.1 bt516.2.2.2).bind fun bt534 => ((impl_SecPut.f kj2 bt516.1 bt516.2.1 bt516.2.2.1 bt516.2.2.2).bind fun bt542 => (if (bt542.2.2 != bt534.2.2) = true then (laws_FnSecSwap.j1 kj2 bt516.2.2.1 bt516.2.2.2 bt525.2.2.1 bt525.2.2.2 bt534.2.2 bt542.2.2 true bt516.1 bt516.2.1 bt534.1 bt534.2.1 bt542.1 bt542.2.1) else ((laws_lpSec.f kj2 bt542.1 bt542.2.1 bt534.1 bt534.2.1).bind fun t550 => (if t550 = true then (laws_FnSecSwap.j1 kj2 bt516.2.2.1 bt516.2.2.2 bt525.2.2.1 bt525.2.2.2 bt534.2.2 bt542.2.2 (bt516.2.2.1 == bt525.2.2.1) bt516.1 bt516.2.1 bt534.1 bt534.2.1 bt542.1 bt542.2.1) else (laws_FnSecSwap.j1 kj2 bt516.2.2.1 bt516.2.2.2 bt525.2.2.1 bt525.2.2.2 bt534.2.2 bt542.2.2 true bt516.1 bt516.2.1 bt534.1 bt534.2.1 bt542.1 bt542.2.1)))))))) = some r := by rw [if_neg (show ¬ (false = true) by decide)] at H; exact H
    clear H
    have H := H1
    clear H1
    replace H := Option.bind_eq_some_iff.mp H
    obtain ⟨⟨t516, t519, t522, t523⟩, A60, H⟩ := H
    replace H : ((spec_DrawSecPut.f kj2 l1).bind fun bt525 => ((spec_SecPut.f kj2 t516 t519 t522 t523).bind fun bt534 => ((impl_SecPut.f kj2 t516 t519 t522 t523).bind fun bt542 => (if (bt542.2.2 != bt534.2.2) = true then (laws_FnSecSwap.j1 kj2 t522 t523 bt525.2.2.1 bt525.2.2.2 bt534.2.2 bt542.2.2 true t516 t519 bt534.1 bt534.2.1 bt542.1 bt542.2.1) else ((laws_lpSec.f kj2 bt542.1 bt542.2.1 bt534.1 bt534.2.1).bind fun t550 => (if t550 = true then (laws_FnSecSwap.j1 kj2 t522 t523 bt525.2.2.1 bt525.2.2.2 bt534.2.2 bt542.2.2 (t522 == bt525.2.2.1) t516 t519 bt534.1 bt534.2.1 bt542.1 bt542.2.1) else (laws_FnSecSwap.j1 kj2 t522 t523 bt525.2.2.1 bt525.2.2.2 bt534.2.2 bt542.2.2 true t516 t519 bt534.1 bt534.2.1 bt542.1 bt542.2.1))))))) = some r := H
    have A6 := Aside0.mk A60
    clear A60
    replace H := Option.bind_eq_some_iff.mp H
    obtain ⟨⟨t525, t528, t531, t532⟩, A70, H⟩ := H
    replace H : ((spec_SecPut.f kj2 t516 t519 t522 t523).bind fun bt534 => ((impl_SecPut.f kj2 t516 t519 t522 t523).bind fun bt542 => (if (bt542.2.2 != bt534.2.2) = true then (laws_FnSecSwap.j1 kj2 t522 t523 t531 t532 bt534.2.2 bt542.2.2 true t516 t519 bt534.1 bt534.2.1 bt542.1 bt542.2.1) else ((laws_lpSec.f kj2 bt542.1 bt542.2.1 bt534.1 bt534.2.1).bind fun t550 => (if t550 = true then (laws_FnSecSwap.j1 kj2 t522 t523 t531 t532 bt534.2.2 bt542.2.2 (t522 == t531) t516 t519 bt534.1 bt534.2.1 bt542.1 bt542.2.1) else (laws_FnSecSwap.j1 kj2 t522 t523 t531 t532 bt534.2.2 bt542.2.2 true t516 t519 bt534.1 bt534.2.1 bt542.1 bt542.2.1)))))) = some r := H
    have A7 := Aside0.mk A70
    clear A70
    replace H := Option.bind_eq_some_iff.mp H
    obtain ⟨⟨t534, t537, t540⟩, A80, H⟩ := H
    replace H : ((impl_SecPut.f kj2 t516 t519 t522 t523).bind fun bt542 => (if (bt542.2.2 != t540) = true then (laws_FnSecSwap.j1 kj2 t522 t523 t531 t532 t540 bt542.2.2 true t516 t519 t534 t537 bt542.1 bt542.2.1) else ((laws_lpSec.f kj2 bt542.1 bt542.2.1 t534 t537).bind fun t550 => (if t550 = true then (laws_FnSecSwap.j1 kj2 t522 t523 t531 t532 t540 bt542.2.2 (t522 == t531) t516 t519 t534 t537 bt542.1 bt542.2.1) else (laws_FnSecSwap.j1 kj2 t522 t523 t531 t532 t540 bt542.2.2 true t516 t519 t534 t537 bt542.1 bt542.2.1))))) = some r := H
    have A8 := Aside0.mk A80
    clear A80
    replace H := Option.bind_eq_some_iff.mp H
    obtain ⟨⟨t542, t545, t548⟩, A90, H⟩ := H
    replace H : (if (t548 != t540) = true then (laws_FnSecSwap.j1 kj2 t522 t523 t531 t532 t540 t548 true t516 t519 t534 t537 t542 t545) else ((laws_lpSec.f kj2 t542 t545 t534 t537).bind fun t550 => (if t550 = true then (laws_FnSecSwap.j1 kj2 t522 t523 t531 t532 t540 t548 (t522 == t531) t516 t519 t534 t537 t542 t545) else (laws_FnSecSwap.j1 kj2 t522 t523 t531 t532 t540 t548 true t516 t519 t534 t537 t542 t545)))) = some r := H
    have A9 := Aside0.mk A90
    clear A90
    have HC10 := Aside0.mk H
    clear H
    go_upto_region 7 with (first | ((with_reducible refine gate_callee (f := 28) rfl ?_); refine goesL_ (some 29) rfl rfl Try.func28 (by kernel_rfl) rfl #[.slice A0 l0.length c0] rfl bM ?_; (with_reducible refine (spec_DrawSecPut.calls kj2 _ _ l0 t516 t519 t522 t523 _ ?side1 ?side2 A6.out).mono ?_); (case side1 => repeat (first | exact (Kd.C_below HR0.out HB.out) | (with_reducible refine Kd.C_alloc ?_ _) | (with_reducible refine Kd.C_drewN ?_ _) | (with_reducible refine Kd.C_drew ?_))); (case side2 => exact HC0.out); rintro e w11 ⟨v517, v520, rfl, ho0, ho1, hb⟩; refine ⟨_, rfl, ?_⟩; have n0_ := Aside0.mk (Kd.R_lower ho0 (below_size (pB HB.out))); have n1_ := Aside0.mk (Kd.R_lower ho1 (below_size (pB HB.out))); have n2_ := Aside0.mk (below_step (pB HB.out) hb); clear HB; have HO518 := n0_; have HO521 := n1_; have HB := n2_; clear n0_ n1_ n2_; (try clear hb); (try clear hb2); (try clear hk); (try clear hi); (try clear ho0); (try clear ho1)) | ((with_reducible refine gate_dst (N := 5) rfl ?_); (try (refine gate_guard (by rfl) ?_; dsimp only)); refine box_event ?hg (N := 5) ?hd (cs := #[.slice none 0 0, .slice none 0 0]) (t := 26) ?hr ?_; (case hd => rfl); (case hg => rfl); (case hr => first | (go_simp; done) | (go_simp; rfl)); intro gb524 hg w12 hbox hb; have n0_ := Aside0.mk (Kd.R_below (pR HO518.out) hb); have n1_ := Aside0.mk (Kd.R_below (pR HO521.out) hb); have n2_ := Aside0.mk (below_step (pB HB.out) hb); have n3_ := Aside0.mk (hbox); have n4_ := Aside0.mk ((by rw [hg]; exact (below_size (pB HB.out)) : w.heap.size ≤ gb524)); have n5_ := Aside0.mk ((by rw [hg]; exact (below_size (pB HB.out)) : w.heap.size ≤ gb524)); clear HO518; clear HO521; clear HB; have HO518 := n0_; have HO521 := n1_; have HB := n2_; have BK524 := n3_; have GW524 := n4_; have GE524 := n5_; clear n0_ n1_ n2_ n3_ n4_ n5_; clear hb hbox hg; obtain ⟨Ao13, co13, eo13⟩ := Kd.R_slice HO518.out; subst eo13; have hcz14_0 : w12.cell? ⟨gb524, 0, none⟩ = some (.slice none 0 0) := (blk_cell BK524.out 0).trans rfl; have hcz14_1 : w12.cell? ⟨gb524, 1, none⟩ = some (.slice none 0 0) := (blk_cell BK524.out 1).trans rfl; have hfz14_0 := blk_frozen BK524.out 0; have hfz14_1 := blk_frozen BK524.out 1; obtain ⟨Ao15, co15, eo15⟩ := Kd.R_slice HO521.out; subst eo15) | ((with_reducible refine gate_callee (f := 28) rfl ?_); refine goesL_ (some 35) rfl rfl Try.func28 (by kernel_rfl) rfl #[.slice A1 l1.length c1] rfl bM ?_; (with_reducible refine (spec_DrawSecPut.calls kj2 _ _ l1 t525 t528 t531 t532 _ ?side1 ?side2 A7.out).mono ?_); (case side1 => exact Kd.C_below HR1.out (by repeat (first | (with_reducible first | exact HB.out | apply below_alloc | apply pw_below_drewN | apply below_drew1 | refine below_set ?_ GE524.out) | exact HB.out))); (case side2 => exact HC1.out); rintro e w16 ⟨v526, v529, rfl, ho0, ho1, hb⟩; refine ⟨_, rfl, ?_⟩; have n0_ := Aside0.mk (Kd.R_elder' (pR (Kd.R_mono (Kd.R_far (p := ⟨gb524, 1, none⟩) (Kd.R_far (p := ⟨gb524, 0, none⟩) (Kd.R_types HO518.out BK524.out (by decide)) (fun _ hk => hk.2) (.slice Ao13 t516.length co13)) (fun _ hk => hk.2) (.slice Ao15 t519.length co15)) (fun _ h_ => h_.1))) (Kd.R_base ho0) hb); have n1_ := Aside0.mk (Kd.R_elder' (pR (Kd.R_mono (Kd.R_far (p := ⟨gb524, 1, none⟩) (Kd.R_far (p := ⟨gb524, 0, none⟩) (Kd.R_types HO521.out BK524.out (by decide)) (fun _ hk => hk.2) (.slice Ao13 t516.length co13)) (fun _ hk => hk.2) (.slice Ao15 t519.length co15)) (fun _ h_ => h_.1))) (Kd.R_base ho1) hb); have n2_ := Aside0.mk (Kd.R_lower (Kd.R_new' ho0 (Kd.R_lt (pR (Kd.R_mono (Kd.R_far (p := ⟨gb524, 1, none⟩) (Kd.R_far (p := ⟨gb524, 0, none⟩) (Kd.R_types HO518.out BK524.out (by decide)) (fun _ hk => hk.2) (.slice Ao13 t516.length co13)) (fun _ hk => hk.2) (.slice Ao15 t519.length co15)) (fun _ h_ => h_.1))))) (below_size (by repeat (first | (with_reducible first | exact HB.out | apply below_alloc | apply pw_below_drewN | apply below_drew1 | refine below_set ?_ GE524.out) | exact HB.out)))); have n3_ := Aside0.mk (Kd.R_lower (Kd.R_new' ho1 (Kd.R_lt (pR (Kd.R_mono (Kd.R_far (p := ⟨gb524, 1, none⟩) (Kd.R_far (p := ⟨gb524, 0, none⟩) (Kd.R_types HO521.out BK524.out (by decide)) (fun _ hk => hk.2) (.slice Ao13 t516.length co13)) (fun _ hk => hk.2) (.slice Ao15 t519.length co15)) (fun _ h_ => h_.1))))) (below_size (by repeat (first | (with_reducible first | exact HB.out | apply below_alloc | apply pw_below_drewN | apply below_drew1 | refine below_set ?_ GE524.out) | exact HB.out)))); have n4_ := Aside0.mk (blk_below (g := gb524) (o := .cells #[.slice Ao13 t516.length co13, .slice Ao15 t519.length co15] 26 (0, 0)) (by (with_reducible repeat (first | refine blk_drewN ?_ _ | refine blk_drew ?_ | refine blk_alloc ?_ _)); refine blk_put (cs := #[.slice Ao13 t516.length co13, .slice none 0 0]) ?_ 1 _ rfl; (with_reducible repeat (first | refine blk_drewN ?_ _ | refine blk_drew ?_ | refine blk_alloc ?_ _)); refine blk_put (cs := #[.slice none 0 0, .slice none 0 0]) ?_ 0 _ rfl; (with_reducible repeat (first | refine blk_drewN ?_ _ | refine blk_drew ?_ | refine blk_alloc ?_ _)); exact BK524.out) hb); have n5_ := Aside0.mk (below_step (by repeat (first | (with_reducible first | exact HB.out | apply below_alloc | apply pw_below_drewN | apply below_drew1 | refine below_set ?_ GE524.out) | exact HB.out)) hb); clear HO518; clear HO521; clear BK524; clear HB; have HO518 := n0_; have HO521 := n1_; have HO527 := n2_; have HO530 := n3_; have BK524 := n4_; have HB := n5_; clear n0_ n1_ n2_ n3_ n4_ n5_; (try clear hb); (try clear hb2); (try clear hk); (try clear hi); (try clear ho0); (try clear ho1)) | ((with_reducible refine gate_dst (N := 8) rfl ?_); (try (refine gate_guard (by rfl) ?_; dsimp only)); refine box_event ?hg (N := 8) ?hd (cs := #[.slice none 0 0, .slice none 0 0]) (t := 26) ?hr ?_; (case hd => rfl); (case hg => rfl); (case hr => first | (go_simp; done) | (go_simp; rfl)); intro gb533 hg w17 hbox hb; have n0_ := Aside0.mk (Kd.R_below (pR HO518.out) hb); have n1_ := Aside0.mk (Kd.R_below (pR HO521.out) hb); have n2_ := Aside0.mk (Kd.R_below (pR HO527.out) hb); have n3_ := Aside0.mk (Kd.R_below (pR HO530.out) hb); have n4_ := Aside0.mk (blk_below (g := gb524) (o := .cells #[.slice Ao13 t516.length co13, .slice Ao15 t519.length co15] 26 (0, 0)) (pK BK524.out) hb); have n5_ := Aside0.mk (below_step (by repeat (first | (with_reducible first | exact HB.out | apply below_alloc | apply pw_below_drewN | apply below_drew1 | refine below_set ?_ GE524.out) | exact HB.out)) hb); have n6_ := Aside0.mk (hbox); have n7_ := Aside0.mk ((by rw [hg]; exact (below_size (by repeat (first | (with_reducible first | exact HB.out | apply below_alloc | apply pw_below_drewN | apply below_drew1 | refine below_set ?_ GE524.out) | exact HB.out))) : w.heap.size ≤ gb533)); have n8_ := Aside0.mk ((by rw [hg]; exact (below_size (by repeat (first | (with_reducible first | exact HB.out | apply below_alloc | apply pw_below_drewN | apply below_drew1 | refine below_set ?_ GE524.out) | exact HB.out))) : w.heap.size ≤ gb533)); have n9_ := Aside0.mk ((by rw [hg]; exact Nat.ne_of_lt (blk_lt (g := gb524) (o := .cells #[.slice Ao13 t516.length co13, .slice Ao15 t519.length co15] 26 (0, 0)) (pK BK524.out)) : gb524 ≠ gb533)); have n10_ := Aside0.mk ((by rw [hg]; exact Nat.ne_of_gt (blk_lt (g := gb524) (o := .cells #[.slice Ao13 t516.length co13, .slice Ao15 t519.length co15] 26 (0, 0)) (pK BK524.out)) : gb533 ≠ gb524)); clear HO518; clear HO521; clear HO527; clear HO530; clear BK524; clear HB; have HO518 := n0_; have HO521 := n1_; have HO527 := n2_; have HO530 := n3_; have BK524 := n4_; have HB := n5_; have BK533 := n6_; have GW533 := n7_; have GE533 := n8_; have NB524_533 := n9_; have NB533_524 := n10_; clear n0_ n1_ n2_ n3_ n4_ n5_ n6_ n7_ n8_ n9_ n10_; clear hb hbox hg; obtain ⟨Ao18, co18, eo18⟩ := Kd.R_slice HO527.out; subst eo18; have hnb19 := NB533_524.out; have hnc19 := NB524_533.out; have hcz20_0 : w17.cell? ⟨gb533, 0, none⟩ = some (.slice none 0 0) := (blk_cell BK533.out 0).trans rfl; have hcz20_1 : w17.cell? ⟨gb533, 1, none⟩ = some (.slice none 0 0) := (blk_cell BK533.out 1).trans rfl; have hfz20_0 := blk_frozen BK533.out 0; have hfz20_1 := blk_frozen BK533.out 1; obtain ⟨Ao21, co21, eo21⟩ := Kd.R_slice HO530.out; subst eo21; have hcz22_0 : w17.cell? ⟨gb524, 0, none⟩ = some (.slice Ao13 t516.length co13) := (blk_cell BK524.out 0).trans rfl; have hcz22_1 : w17.cell? ⟨gb524, 1, none⟩ = some (.slice Ao15 t519.length co15) := (blk_cell BK524.out 1).trans rfl; have hfz22_0 := blk_frozen BK524.out 0; have hfz22_1 := blk_frozen BK524.out 1) | ((with_reducible refine gate_callee (f := 29) rfl ?_); refine goesL_ (some 43) rfl rfl Try.func29 (by kernel_rfl) rfl #[.agg #[.slice Ao13 t516.length co13, .slice Ao15 t519.length co15], .int .i64 t522, .string t523] rfl bM ?_; (with_reducible refine (spec_SecPut.calls kj2 _ _ t516 _ _ t519 t522 t523 t534 t537 t540 _ ?side1 ?side2 ?side3 ?side4 A8.out).mono ?_); (case side1 => refine (Kd.R_reads' (e := 9) (base := w.heap.size) (ok := fun k_ => (True ∧ some k_ ≠ (.slice Ao18 t525.length co18 : Value).ownBlock)) (n := t516.length) (c := co13) ?_).2.2; exact (pR (Kd.R_mono (Kd.R_far (p := ⟨gb533, 1, none⟩) (Kd.R_far (p := ⟨gb533, 0, none⟩) (Kd.R_types HO518.out BK533.out (by decide)) (fun _ hk => hk.2) (.slice Ao18 t525.length co18)) (fun _ hk => hk.2) (.slice Ao21 t528.length co21)) (fun _ h_ => h_.1)))); (case side2 => exact (Kd.R_reads' HO518.out).2.1); (case side3 => refine (Kd.R_reads' (e := 54) (base := w.heap.size) (ok := fun k_ => (True ∧ some k_ ≠ (.slice Ao21 t528.length co21 : Value).ownBlock)) (n := t519.length) (c := co15) ?_).2.2; exact (pR (Kd.R_mono (Kd.R_far (p := ⟨gb533, 1, none⟩) (Kd.R_far (p := ⟨gb533, 0, none⟩) (Kd.R_types HO521.out BK533.out (by decide)) (fun _ hk => hk.2) (.slice Ao18 t525.length co18)) (fun _ hk => hk.2) (.slice Ao21 t528.length co21)) (fun _ h_ => h_.1)))); (case side4 => exact (Kd.R_reads' HO521.out).2.1); rintro e w23 ⟨v535, v538, rfl, ho0, ho1, hb⟩; refine ⟨_, rfl, ?_⟩; have n0_ := Aside0.mk (Kd.R_elder' (pR (Kd.R_mono (Kd.R_far (p := ⟨gb533, 1, none⟩) (Kd.R_far (p := ⟨gb533, 0, none⟩) (Kd.R_types HO518.out BK533.out (by decide)) (fun _ hk => hk.2) (.slice Ao18 t525.length co18)) (fun _ hk => hk.2) (.slice Ao21 t528.length co21)) (fun _ h_ => h_.1))) (Kd.R_base ho0) hb); have n1_ := Aside0.mk (Kd.R_elder' (pR (Kd.R_mono (Kd.R_far (p := ⟨gb533, 1, none⟩) (Kd.R_far (p := ⟨gb533, 0, none⟩) (Kd.R_types HO521.out BK533.out (by decide)) (fun _ hk => hk.2) (.slice Ao18 t525.length co18)) (fun _ hk => hk.2) (.slice Ao21 t528.length co21)) (fun _ h_ => h_.1))) (Kd.R_base ho1) hb); have n2_ := Aside0.mk (Kd.R_elder' (pR (Kd.R_mono (Kd.R_far (p := ⟨gb533, 1, none⟩) (Kd.R_far (p := ⟨gb533, 0, none⟩) (Kd.R_types HO527.out BK533.out (by decide)) (fun _ hk => hk.2) (.slice Ao18 t525.length co18)) (fun _ hk => hk.2) (.slice Ao21 t528.length co21)) (fun _ h_ => h_.1))) (Kd.R_base ho0) hb); have n3_ := Aside0.mk (Kd.R_elder' (pR (Kd.R_mono (Kd.R_far (p := ⟨gb533, 1, none⟩) (Kd.R_far (p := ⟨gb533, 0, none⟩) (Kd.R_types HO530.out BK533.out (by decide)) (fun _ hk => hk.2) (.slice Ao18 t525.length co18)) (fun _ hk => hk.2) (.slice Ao21 t528.length co21)) (fun _ h_ => h_.1))) (Kd.R_base ho1) hb); have n4_ := Aside0.mk (Kd.R_lower (Kd.R_new' (Kd.R_new' ho0 (Kd.R_lt (pR (Kd.R_mono (Kd.R_far (p := ⟨gb533, 1, none⟩) (Kd.R_far (p := ⟨gb533, 0, none⟩) (Kd.R_types HO518.out BK533.out (by decide)) (fun _ hk => hk.2) (.slice Ao18 t525.length co18)) (fun _ hk => hk.2) (.slice Ao21 t528.length co21)) (fun _ h_ => h_.1))))) (Kd.R_lt (pR (Kd.R_mono (Kd.R_far (p := ⟨gb533, 1, none⟩) (Kd.R_far (p := ⟨gb533, 0, none⟩) (Kd.R_types HO527.out BK533.out (by decide)) (fun _ hk => hk.2) (.slice Ao18 t525.length co18)) (fun _ hk => hk.2) (.slice Ao21 t528.length co21)) (fun _ h_ => h_.1))))) (below_size (by repeat (first | (with_reducible first | exact HB.out | apply below_alloc | apply pw_below_drewN | apply below_drew1 | refine below_set ?_ GE524.out | refine below_set ?_ GE533.out) | exact HB.out)))); have n5_ := Aside0.mk (Kd.R_lower (Kd.R_new' (Kd.R_new' ho1 (Kd.R_lt (pR (Kd.R_mono (Kd.R_far (p := ⟨gb533, 1, none⟩) (Kd.R_far (p := ⟨gb533, 0, none⟩) (Kd.R_types HO521.out BK533.out (by decide)) (fun _ hk => hk.2) (.slice Ao18 t525.length co18)) (fun _ hk => hk.2) (.slice Ao21 t528.length co21)) (fun _ h_ => h_.1))))) (Kd.R_lt (pR (Kd.R_mono (Kd.R_far (p := ⟨gb533, 1, none⟩) (Kd.R_far (p := ⟨gb533, 0, none⟩) (Kd.R_types HO530.out BK533.out (by decide)) (fun _ hk => hk.2) (.slice Ao18 t525.length co18)) (fun _ hk => hk.2) (.slice Ao21 t528.length co21)) (fun _ h_ => h_.1))))) (below_size (by repeat (first | (with_reducible first | exact HB.out | apply below_alloc | apply pw_below_drewN | apply below_drew1 | refine below_set ?_ GE524.out | refine below_set ?_ GE533.out) | exact HB.out)))); have n6_ := Aside0.mk (blk_below (g := gb524) (o := .cells #[.slice Ao13 t516.length co13, .slice Ao15 t519.length co15] 26 (0, 0)) (by (with_reducible repeat (first | refine blk_drewN ?_ _ | refine blk_drew ?_ | refine blk_alloc ?_ _)); refine blk_far ?_ NB524_533.out _; (with_reducible repeat (first | refine blk_drewN ?_ _ | refine blk_drew ?_ | refine blk_alloc ?_ _)); refine blk_far ?_ NB524_533.out _; (with_reducible repeat (first | refine blk_drewN ?_ _ | refine blk_drew ?_ | refine blk_alloc ?_ _)); exact BK524.out) hb); have n7_ := Aside0.mk (blk_below (g := gb533) (o := .cells #[.slice Ao18 t525.length co18, .slice Ao21 t528.length co21] 26 (0, 0)) (by (with_reducible repeat (first | refine blk_drewN ?_ _ | refine blk_drew ?_ | refine blk_alloc ?_ _)); refine blk_put (cs := #[.slice Ao18 t525.length co18, .slice none 0 0]) ?_ 1 _ rfl; (with_reducible repeat (first | refine blk_drewN ?_ _ | refine blk_drew ?_ | refine blk_alloc ?_ _)); refine blk_put (cs := #[.slice none 0 0, .slice none 0 0]) ?_ 0 _ rfl; (with_reducible repeat (first | refine blk_drewN ?_ _ | refine blk_drew ?_ | refine blk_alloc ?_ _)); exact BK533.out) hb); have n8_ := Aside0.mk (below_step (by repeat (first | (with_reducible first | exact HB.out | apply below_alloc | apply pw_below_drewN | apply below_drew1 | refine below_set ?_ GE524.out | refine below_set ?_ GE533.out) | exact HB.out)) hb); clear HO518; clear HO521; clear HO527; clear HO530; clear BK524; clear BK533; clear HB; have HO518 := n0_; have HO521 := n1_; have HO527 := n2_; have HO530 := n3_; have HO536 := n4_; have HO539 := n5_; have BK524 := n6_; have BK533 := n7_; have HB := n8_; clear n0_ n1_ n2_ n3_ n4_ n5_ n6_ n7_ n8_; (try clear hb); (try clear hb2); (try clear hk); (try clear hi); (try clear ho0); (try clear ho1)) | ((with_reducible refine gate_dst (N := 11) rfl ?_); (try (refine gate_guard (by rfl) ?_; dsimp only)); refine box_event ?hg (N := 11) ?hd (cs := #[.slice none 0 0, .slice none 0 0]) (t := 26) ?hr ?_; (case hd => rfl); (case hg => rfl); (case hr => first | (go_simp; done) | (go_simp; rfl)); intro gb541 hg w24 hbox hb; have n0_ := Aside0.mk (Kd.R_below (pR HO518.out) hb); have n1_ := Aside0.mk (Kd.R_below (pR HO521.out) hb); have n2_ := Aside0.mk (Kd.R_below (pR HO527.out) hb); have n3_ := Aside0.mk (Kd.R_below (pR HO530.out) hb); have n4_ := Aside0.mk (Kd.R_below (pR HO536.out) hb); have n5_ := Aside0.mk (Kd.R_below (pR HO539.out) hb); have n6_ := Aside0.mk (blk_below (g := gb524) (o := .cells #[.slice Ao13 t516.length co13, .slice Ao15 t519.length co15] 26 (0, 0)) (pK BK524.out) hb); have n7_ := Aside0.mk (blk_below (g := gb533) (o := .cells #[.slice Ao18 t525.length co18, .slice Ao21 t528.length co21] 26 (0, 0)) (pK BK533.out) hb); have n8_ := Aside0.mk (below_step (by repeat (first | (with_reducible first | exact HB.out | apply below_alloc | apply pw_below_drewN | apply below_drew1 | refine below_set ?_ GE524.out | refine below_set ?_ GE533.out) | exact HB.out)) hb); have n9_ := Aside0.mk (hbox); have n10_ := Aside0.mk ((by rw [hg]; exact (below_size (by repeat (first | (with_reducible first | exact HB.out | apply below_alloc | apply pw_below_drewN | apply below_drew1 | refine below_set ?_ GE524.out | refine below_set ?_ GE533.out) | exact HB.out))) : w.heap.size ≤ gb541)); have n11_ := Aside0.mk ((by rw [hg]; exact (below_size (by repeat (first | (with_reducible first | exact HB.out | apply below_alloc | apply pw_below_drewN | apply below_drew1 | refine below_set ?_ GE524.out | refine below_set ?_ GE533.out) | exact HB.out))) : w.heap.size ≤ gb541)); have n12_ := Aside0.mk ((by rw [hg]; exact Nat.ne_of_lt (blk_lt (g := gb524) (o := .cells #[.slice Ao13 t516.length co13, .slice Ao15 t519.length co15] 26 (0, 0)) (pK BK524.out)) : gb524 ≠ gb541)); have n13_ := Aside0.mk ((by rw [hg]; exact Nat.ne_of_gt (blk_lt (g := gb524) (o := .cells #[.slice Ao13 t516.length co13, .slice Ao15 t519.length co15] 26 (0, 0)) (pK BK524.out)) : gb541 ≠ gb524)); have n14_ := Aside0.mk ((by rw [hg]; exact Nat.ne_of_lt (blk_lt (g := gb533) (o := .cells #[.slice Ao18 t525.length co18, .slice Ao21 t528.length co21] 26 (0, 0)) (pK BK533.out)) : gb533 ≠ gb541)); have n15_ := Aside0.mk ((by rw [hg]; exact Nat.ne_of_gt (blk_lt (g := gb533) (o := .cells #[.slice Ao18 t525.length co18, .slice Ao21 t528.length co21] 26 (0, 0)) (pK BK533.out)) : gb541 ≠ gb533)); clear HO518; clear HO521; clear HO527; clear HO530; clear HO536; clear HO539; clear BK524; clear BK533; clear HB; have HO518 := n0_; have HO521 := n1_; have HO527 := n2_; have HO530 := n3_; have HO536 := n4_; have HO539 := n5_; have BK524 := n6_; have BK533 := n7_; have HB := n8_; have BK541 := n9_; have GW541 := n10_; have GE541 := n11_; have NB524_541 := n12_; have NB541_524 := n13_; have NB533_541 := n14_; have NB541_533 := n15_; clear n0_ n1_ n2_ n3_ n4_ n5_ n6_ n7_ n8_ n9_ n10_ n11_ n12_ n13_ n14_ n15_; clear hb hbox hg; obtain ⟨Ao25, co25, eo25⟩ := Kd.R_slice HO536.out; subst eo25; have hnb26 := NB541_524.out; have hnc26 := NB524_541.out; have hnb27 := NB541_533.out; have hnc27 := NB533_541.out; have hcz28_0 : w24.cell? ⟨gb541, 0, none⟩ = some (.slice none 0 0) := (blk_cell BK541.out 0).trans rfl; have hcz28_1 : w24.cell? ⟨gb541, 1, none⟩ = some (.slice none 0 0) := (blk_cell BK541.out 1).trans rfl; have hfz28_0 := blk_frozen BK541.out 0; have hfz28_1 := blk_frozen BK541.out 1; obtain ⟨Ao29, co29, eo29⟩ := Kd.R_slice HO539.out; subst eo29; have hcz30_0 : w24.cell? ⟨gb524, 0, none⟩ = some (.slice Ao13 t516.length co13) := (blk_cell BK524.out 0).trans rfl; have hcz30_1 : w24.cell? ⟨gb524, 1, none⟩ = some (.slice Ao15 t519.length co15) := (blk_cell BK524.out 1).trans rfl; have hfz30_0 := blk_frozen BK524.out 0; have hfz30_1 := blk_frozen BK524.out 1) | ((with_reducible refine gate_callee (f := 30) rfl ?_); refine goesL_ (some 50) rfl rfl Try.func30 (by kernel_rfl) rfl #[.agg #[.slice Ao13 t516.length co13, .slice Ao15 t519.length co15], .int .i64 t522, .string t523] rfl bM ?_; (with_reducible refine (impl_SecPut.calls kj2 _ _ t516 _ _ t519 t522 t523 t542 t545 t548 _ ?side1 ?side2 ?side3 ?side4 A9.out).mono ?_); (case side1 => refine (Kd.R_reads' (e := 9) (base := w.heap.size) (ok := fun k_ => ((True ∧ some k_ ≠ (.slice Ao18 t525.length co18 : Value).ownBlock) ∧ some k_ ≠ (.slice Ao25 t534.length co25 : Value).ownBlock)) (n := t516.length) (c := co13) ?_).2.2; exact (pR (Kd.R_mono (Kd.R_far (p := ⟨gb541, 1, none⟩) (Kd.R_far (p := ⟨gb541, 0, none⟩) (Kd.R_types HO518.out BK541.out (by decide)) (fun _ hk => hk.2) (.slice Ao25 t534.length co25)) (fun _ hk => hk.2) (.slice Ao29 t537.length co29)) (fun _ h_ => h_.1)))); (case side2 => exact (Kd.R_reads' HO518.out).2.1); (case side3 => refine (Kd.R_reads' (e := 54) (base := w.heap.size) (ok := fun k_ => ((True ∧ some k_ ≠ (.slice Ao21 t528.length co21 : Value).ownBlock) ∧ some k_ ≠ (.slice Ao29 t537.length co29 : Value).ownBlock)) (n := t519.length) (c := co15) ?_).2.2; exact (pR (Kd.R_mono (Kd.R_far (p := ⟨gb541, 1, none⟩) (Kd.R_far (p := ⟨gb541, 0, none⟩) (Kd.R_types HO521.out BK541.out (by decide)) (fun _ hk => hk.2) (.slice Ao25 t534.length co25)) (fun _ hk => hk.2) (.slice Ao29 t537.length co29)) (fun _ h_ => h_.1)))); (case side4 => exact (Kd.R_reads' HO521.out).2.1); rintro e w31 ⟨v543, v546, rfl, ho0, ho1, hb⟩; refine ⟨_, rfl, ?_⟩; have n0_ := Aside0.mk (Kd.R_elder' (pR (Kd.R_mono (Kd.R_far (p := ⟨gb541, 1, none⟩) (Kd.R_far (p := ⟨gb541, 0, none⟩) (Kd.R_types HO518.out BK541.out (by decide)) (fun _ hk => hk.2) (.slice Ao25 t534.length co25)) (fun _ hk => hk.2) (.slice Ao29 t537.length co29)) (fun _ h_ => h_.1))) (Kd.R_base ho0) hb); have n1_ := Aside0.mk (Kd.R_elder' (pR (Kd.R_mono (Kd.R_far (p := ⟨gb541, 1, none⟩) (Kd.R_far (p := ⟨gb541, 0, none⟩) (Kd.R_types HO521.out BK541.out (by decide)) (fun _ hk => hk.2) (.slice Ao25 t534.length co25)) (fun _ hk => hk.2) (.slice Ao29 t537.length co29)) (fun _ h_ => h_.1))) (Kd.R_base ho1) hb); have n2_ := Aside0.mk (Kd.R_elder' (pR (Kd.R_mono (Kd.R_far (p := ⟨gb541, 1, none⟩) (Kd.R_far (p := ⟨gb541, 0, none⟩) (Kd.R_types HO527.out BK541.out (by decide)) (fun _ hk => hk.2) (.slice Ao25 t534.length co25)) (fun _ hk => hk.2) (.slice Ao29 t537.length co29)) (fun _ h_ => h_.1))) (Kd.R_base ho0) hb); have n3_ := Aside0.mk (Kd.R_elder' (pR (Kd.R_mono (Kd.R_far (p := ⟨gb541, 1, none⟩) (Kd.R_far (p := ⟨gb541, 0, none⟩) (Kd.R_types HO530.out BK541.out (by decide)) (fun _ hk => hk.2) (.slice Ao25 t534.length co25)) (fun _ hk => hk.2) (.slice Ao29 t537.length co29)) (fun _ h_ => h_.1))) (Kd.R_base ho1) hb); have n4_ := Aside0.mk (Kd.R_elder' (pR (Kd.R_mono (Kd.R_far (p := ⟨gb541, 1, none⟩) (Kd.R_far (p := ⟨gb541, 0, none⟩) (Kd.R_types HO536.out BK541.out (by decide)) (fun _ hk => hk.2) (.slice Ao25 t534.length co25)) (fun _ hk => hk.2) (.slice Ao29 t537.length co29)) (fun _ h_ => h_.1))) (Kd.R_base ho0) hb); have n5_ := Aside0.mk (Kd.R_elder' (pR (Kd.R_mono (Kd.R_far (p := ⟨gb541, 1, none⟩) (Kd.R_far (p := ⟨gb541, 0, none⟩) (Kd.R_types HO539.out BK541.out (by decide)) (fun _ hk => hk.2) (.slice Ao25 t534.length co25)) (fun _ hk => hk.2) (.slice Ao29 t537.length co29)) (fun _ h_ => h_.1))) (Kd.R_base ho1) hb); have n6_ := Aside0.mk (Kd.R_lower (Kd.R_new' (Kd.R_new' (Kd.R_new' ho0 (Kd.R_lt (pR (Kd.R_mono (Kd.R_far (p := ⟨gb541, 1, none⟩) (Kd.R_far (p := ⟨gb541, 0, none⟩) (Kd.R_types HO518.out BK541.out (by decide)) (fun _ hk => hk.2) (.slice Ao25 t534.length co25)) (fun _ hk => hk.2) (.slice Ao29 t537.length co29)) (fun _ h_ => h_.1))))) (Kd.R_lt (pR (Kd.R_mono (Kd.R_far (p := ⟨gb541, 1, none⟩) (Kd.R_far (p := ⟨gb541, 0, none⟩) (Kd.R_types HO527.out BK541.out (by decide)) (fun _ hk => hk.2) (.slice Ao25 t534.length co25)) (fun _ hk => hk.2) (.slice Ao29 t537.length co29)) (fun _ h_ => h_.1))))) (Kd.R_lt (pR (Kd.R_mono (Kd.R_far (p := ⟨gb541, 1, none⟩) (Kd.R_far (p := ⟨gb541, 0, none⟩) (Kd.R_types HO536.out BK541.out (by decide)) (fun _ hk => hk.2) (.slice Ao25 t534.length co25)) (fun _ hk => hk.2) (.slice Ao29 t537.length co29)) (fun _ h_ => h_.1))))) (below_size (by repeat (first | (with_reducible first | exact HB.out | apply below_alloc | apply pw_below_drewN | apply below_drew1 | refine below_set ?_ GE524.out | refine below_set ?_ GE533.out | refine below_set ?_ GE541.out) | exact HB.out)))); have n7_ := Aside0.mk (Kd.R_lower (Kd.R_new' (Kd.R_new' (Kd.R_new' ho1 (Kd.R_lt (pR (Kd.R_mono (Kd.R_far (p := ⟨gb541, 1, none⟩) (Kd.R_far (p := ⟨gb541, 0, none⟩) (Kd.R_types HO521.out BK541.out (by decide)) (fun _ hk => hk.2) (.slice Ao25 t534.length co25)) (fun _ hk => hk.2) (.slice Ao29 t537.length co29)) (fun _ h_ => h_.1))))) (Kd.R_lt (pR (Kd.R_mono (Kd.R_far (p := ⟨gb541, 1, none⟩) (Kd.R_far (p := ⟨gb541, 0, none⟩) (Kd.R_types HO530.out BK541.out (by decide)) (fun _ hk => hk.2) (.slice Ao25 t534.length co25)) (fun _ hk => hk.2) (.slice Ao29 t537.length co29)) (fun _ h_ => h_.1))))) (Kd.R_lt (pR (Kd.R_mono (Kd.R_far (p := ⟨gb541, 1, none⟩) (Kd.R_far (p := ⟨gb541, 0, none⟩) (Kd.R_types HO539.out BK541.out (by decide)) (fun _ hk => hk.2) (.slice Ao25 t534.length co25)) (fun _ hk => hk.2) (.slice Ao29 t537.length co29)) (fun _ h_ => h_.1))))) (below_size (by repeat (first | (with_reducible first | exact HB.out | apply below_alloc | apply pw_below_drewN | apply below_drew1 | refine below_set ?_ GE524.out | refine below_set ?_ GE533.out | refine below_set ?_ GE541.out) | exact HB.out)))); have n8_ := Aside0.mk (blk_below (g := gb524) (o := .cells #[.slice Ao13 t516.length co13, .slice Ao15 t519.length co15] 26 (0, 0)) (by (with_reducible repeat (first | refine blk_drewN ?_ _ | refine blk_drew ?_ | refine blk_alloc ?_ _)); refine blk_far ?_ NB524_541.out _; (with_reducible repeat (first | refine blk_drewN ?_ _ | refine blk_drew ?_ | refine blk_alloc ?_ _)); refine blk_far ?_ NB524_541.out _; (with_reducible repeat (first | refine blk_drewN ?_ _ | refine blk_drew ?_ | refine blk_alloc ?_ _)); exact BK524.out) hb); have n9_ := Aside0.mk (blk_below (g := gb533) (o := .cells #[.slice Ao18 t525.length co18, .slice Ao21 t528.length co21] 26 (0, 0)) (by (with_reducible repeat (first | refine blk_drewN ?_ _ | refine blk_drew ?_ | refine blk_alloc ?_ _)); refine blk_far ?_ NB533_541.out _; (with_reducible repeat (first | refine blk_drewN ?_ _ | refine blk_drew ?_ | refine blk_alloc ?_ _)); refine blk_far ?_ NB533_541.out _; (with_reducible repeat (first | refine blk_drewN ?_ _ | refine blk_drew ?_ | refine blk_alloc ?_ _)); exact BK533.out) hb); have n10_ := Aside0.mk (blk_below (g := gb541) (o := .cells #[.slice Ao25 t534.length co25, .slice Ao29 t537.length co29] 26 (0, 0)) (by (with_reducible repeat (first | refine blk_drewN ?_ _ | refine blk_drew ?_ | refine blk_alloc ?_ _)); refine blk_put (cs := #[.slice Ao25 t534.length co25, .slice none 0 0]) ?_ 1 _ rfl; (with_reducible repeat (first | refine blk_drewN ?_ _ | refine blk_drew ?_ | refine blk_alloc ?_ _)); refine blk_put (cs := #[.slice none 0 0, .slice none 0 0]) ?_ 0 _ rfl; (with_reducible repeat (first | refine blk_drewN ?_ _ | refine blk_drew ?_ | refine blk_alloc ?_ _)); exact BK541.out) hb); have n11_ := Aside0.mk (below_step (by repeat (first | (with_reducible first | exact HB.out | apply below_alloc | apply pw_below_drewN | apply below_drew1 | refine below_set ?_ GE524.out | refine below_set ?_ GE533.out | refine below_set ?_ GE541.out) | exact HB.out)) hb); clear HO518; clear HO521; clear HO527; clear HO530; clear HO536; clear HO539; clear BK524; clear BK533; clear BK541; clear HB; have HO518 := n0_; have HO521 := n1_; have HO527 := n2_; have HO530 := n3_; have HO536 := n4_; have HO539 := n5_; have HO544 := n6_; have HO547 := n7_; have BK524 := n8_; have BK533 := n9_; have BK541 := n10_; have HB := n11_; clear n0_ n1_ n2_ n3_ n4_ n5_ n6_ n7_ n8_ n9_ n10_ n11_; (try clear hb); (try clear hb2); (try clear hk); (try clear hi); (try clear ho0); (try clear ho1)) | ((with_reducible refine gate_dst (N := 13) rfl ?_); (try (refine gate_guard (by rfl) ?_; dsimp only)); refine box_event ?hg (N := 13) ?hd (cs := #[.slice none 0 0, .slice none 0 0]) (t := 26) ?hr ?_; (case hd => rfl); (case hg => rfl); (case hr => first | (go_simp; done) | (go_simp; rfl)); intro gb549 hg w32 hbox hb; have n0_ := Aside0.mk (Kd.R_below (pR HO518.out) hb); have n1_ := Aside0.mk (Kd.R_below (pR HO521.out) hb); have n2_ := Aside0.mk (Kd.R_below (pR HO527.out) hb); have n3_ := Aside0.mk (Kd.R_below (pR HO530.out) hb); have n4_ := Aside0.mk (Kd.R_below (pR HO536.out) hb); have n5_ := Aside0.mk (Kd.R_below (pR HO539.out) hb); have n6_ := Aside0.mk (Kd.R_below (pR HO544.out) hb); have n7_ := Aside0.mk (Kd.R_below (pR HO547.out) hb); have n8_ := Aside0.mk (blk_below (g := gb524) (o := .cells #[.slice Ao13 t516.length co13, .slice Ao15 t519.length co15] 26 (0, 0)) (pK BK524.out) hb); have n9_ := Aside0.mk (blk_below (g := gb533) (o := .cells #[.slice Ao18 t525.length co18, .slice Ao21 t528.length co21] 26 (0, 0)) (pK BK533.out) hb); have n10_ := Aside0.mk (blk_below (g := gb541) (o := .cells #[.slice Ao25 t534.length co25, .slice Ao29 t537.length co29] 26 (0, 0)) (pK BK541.out) hb); have n11_ := Aside0.mk (below_step (by repeat (first | (with_reducible first | exact HB.out | apply below_alloc | apply pw_below_drewN | apply below_drew1 | refine below_set ?_ GE524.out | refine below_set ?_ GE533.out | refine below_set ?_ GE541.out) | exact HB.out)) hb); have n12_ := Aside0.mk (hbox); have n13_ := Aside0.mk ((by rw [hg]; exact (below_size (by repeat (first | (with_reducible first | exact HB.out | apply below_alloc | apply pw_below_drewN | apply below_drew1 | refine below_set ?_ GE524.out | refine below_set ?_ GE533.out | refine below_set ?_ GE541.out) | exact HB.out))) : w.heap.size ≤ gb549)); have n14_ := Aside0.mk ((by rw [hg]; exact (below_size (by repeat (first | (with_reducible first | exact HB.out | apply below_alloc | apply pw_below_drewN | apply below_drew1 | refine below_set ?_ GE524.out | refine below_set ?_ GE533.out | refine below_set ?_ GE541.out) | exact HB.out))) : w.heap.size ≤ gb549)); have n15_ := Aside0.mk ((by rw [hg]; exact Nat.ne_of_lt (blk_lt (g := gb524) (o := .cells #[.slice Ao13 t516.length co13, .slice Ao15 t519.length co15] 26 (0, 0)) (pK BK524.out)) : gb524 ≠ gb549)); have n16_ := Aside0.mk ((by rw [hg]; exact Nat.ne_of_gt (blk_lt (g := gb524) (o := .cells #[.slice Ao13 t516.length co13, .slice Ao15 t519.length co15] 26 (0, 0)) (pK BK524.out)) : gb549 ≠ gb524)); have n17_ := Aside0.mk ((by rw [hg]; exact Nat.ne_of_lt (blk_lt (g := gb533) (o := .cells #[.slice Ao18 t525.length co18, .slice Ao21 t528.length co21] 26 (0, 0)) (pK BK533.out)) : gb533 ≠ gb549)); have n18_ := Aside0.mk ((by rw [hg]; exact Nat.ne_of_gt (blk_lt (g := gb533) (o := .cells #[.slice Ao18 t525.length co18, .slice Ao21 t528.length co21] 26 (0, 0)) (pK BK533.out)) : gb549 ≠ gb533)); have n19_ := Aside0.mk ((by rw [hg]; exact Nat.ne_of_lt (blk_lt (g := gb541) (o := .cells #[.slice Ao25 t534.length co25, .slice Ao29 t537.length co29] 26 (0, 0)) (pK BK541.out)) : gb541 ≠ gb549)); have n20_ := Aside0.mk ((by rw [hg]; exact Nat.ne_of_gt (blk_lt (g := gb541) (o := .cells #[.slice Ao25 t534.length co25, .slice Ao29 t537.length co29] 26 (0, 0)) (pK BK541.out)) : gb549 ≠ gb541)); clear HO518; clear HO521; clear HO527; clear HO530; clear HO536; clear HO539; clear HO544; clear HO547; clear BK524; clear BK533; clear BK541; clear HB; have HO518 := n0_; have HO521 := n1_; have HO527 := n2_; have HO530 := n3_; have HO536 := n4_; have HO539 := n5_; have HO544 := n6_; have HO547 := n7_; have BK524 := n8_; have BK533 := n9_; have BK541 := n10_; have HB := n11_; have BK549 := n12_; have GW549 := n13_; have GE549 := n14_; have NB524_549 := n15_; have NB549_524 := n16_; have NB533_549 := n17_; have NB549_533 := n18_; have NB541_549 := n19_; have NB549_541 := n20_; clear n0_ n1_ n2_ n3_ n4_ n5_ n6_ n7_ n8_ n9_ n10_ n11_ n12_ n13_ n14_ n15_ n16_ n17_ n18_ n19_ n20_; clear hb hbox hg; obtain ⟨Ao33, co33, eo33⟩ := Kd.R_slice HO544.out; subst eo33; have hnb34 := NB549_524.out; have hnc34 := NB524_549.out; have hnb35 := NB549_533.out; have hnc35 := NB533_549.out; have hnb36 := NB549_541.out; have hnc36 := NB541_549.out; have hcz37_0 : w32.cell? ⟨gb549, 0, none⟩ = some (.slice none 0 0) := (blk_cell BK549.out 0).trans rfl; have hcz37_1 : w32.cell? ⟨gb549, 1, none⟩ = some (.slice none 0 0) := (blk_cell BK549.out 1).trans rfl; have hfz37_0 := blk_frozen BK549.out 0; have hfz37_1 := blk_frozen BK549.out 1; obtain ⟨Ao38, co38, eo38⟩ := Kd.R_slice HO547.out; subst eo38))
    (try simp only [Act.put, List.setIfInBounds_toArray, List.set_cons_zero, List.set_cons_succ])
    go_cut [66] (fun v66 wc => ∃ (kq : Nat) (x66_9 : Bool), v66 = .bool x66_9 ∧ Aside0 (laws_FnSecSwap.j1 kq t522 t523 t531 t532 t540 t548 x66_9 t516 t519 t534 t537 t542 t545 = some r) ∧ Aside0 (kq ≤ kj2) ∧ Aside0 (Kd.R Kd.string 9 wc w.heap.size (fun k_ => some k_ ≠ ((.slice Ao18 t525.length co18) : Value).ownBlock ∧ some k_ ≠ ((.slice Ao25 t534.length co25) : Value).ownBlock ∧ some k_ ≠ ((.slice Ao33 t542.length co33) : Value).ownBlock) (.slice Ao13 t516.length co13) t516) ∧ Aside0 (Kd.R k54 54 wc w.heap.size (fun k_ => some k_ ≠ ((.slice Ao21 t528.length co21) : Value).ownBlock ∧ some k_ ≠ ((.slice Ao29 t537.length co29) : Value).ownBlock ∧ some k_ ≠ ((.slice Ao38 t545.length co38) : Value).ownBlock) (.slice Ao15 t519.length co15) t519) ∧ Aside0 (Kd.R Kd.string 9 wc w.heap.size (fun k_ => some k_ ≠ ((.slice Ao13 t516.length co13) : Value).ownBlock ∧ some k_ ≠ ((.slice Ao25 t534.length co25) : Value).ownBlock ∧ some k_ ≠ ((.slice Ao33 t542.length co33) : Value).ownBlock) (.slice Ao18 t525.length co18) t525) ∧ Aside0 (Kd.R k54 54 wc w.heap.size (fun k_ => some k_ ≠ ((.slice Ao15 t519.length co15) : Value).ownBlock ∧ some k_ ≠ ((.slice Ao29 t537.length co29) : Value).ownBlock ∧ some k_ ≠ ((.slice Ao38 t545.length co38) : Value).ownBlock) (.slice Ao21 t528.length co21) t528) ∧ Aside0 (Kd.R Kd.string 9 wc w.heap.size (fun k_ => some k_ ≠ ((.slice Ao13 t516.length co13) : Value).ownBlock ∧ some k_ ≠ ((.slice Ao18 t525.length co18) : Value).ownBlock ∧ some k_ ≠ ((.slice Ao33 t542.length co33) : Value).ownBlock) (.slice Ao25 t534.length co25) t534) ∧ Aside0 (Kd.R k54 54 wc w.heap.size (fun k_ => some k_ ≠ ((.slice Ao15 t519.length co15) : Value).ownBlock ∧ some k_ ≠ ((.slice Ao21 t528.length co21) : Value).ownBlock ∧ some k_ ≠ ((.slice Ao38 t545.length co38) : Value).ownBlock) (.slice Ao29 t537.length co29) t537) ∧ Aside0 (Kd.R Kd.string 9 wc w.heap.size (fun k_ => some k_ ≠ ((.slice Ao13 t516.length co13) : Value).ownBlock ∧ some k_ ≠ ((.slice Ao18 t525.length co18) : Value).ownBlock ∧ some k_ ≠ ((.slice Ao25 t534.length co25) : Value).ownBlock) (.slice Ao33 t542.length co33) t542) ∧ Aside0 (Kd.R k54 54 wc w.heap.size (fun k_ => some k_ ≠ ((.slice Ao15 t519.length co15) : Value).ownBlock ∧ some k_ ≠ ((.slice Ao21 t528.length co21) : Value).ownBlock ∧ some k_ ≠ ((.slice Ao29 t537.length co29) : Value).ownBlock) (.slice Ao38 t545.length co38) t545) ∧ Aside0 (wc.heap[gb524]? = some (.cells #[(.slice Ao13 t516.length co13), (.slice Ao15 t519.length co15)] 26 (0, 0))) ∧ Aside0 (wc.heap[gb533]? = some (.cells #[(.slice Ao18 t525.length co18), (.slice Ao21 t528.length co21)] 26 (0, 0))) ∧ Aside0 (wc.heap[gb541]? = some (.cells #[(.slice Ao25 t534.length co25), (.slice Ao29 t537.length co29)] 26 (0, 0))) ∧ Aside0 (wc.heap[gb549]? = some (.cells #[(.slice Ao33 t542.length co33), (.slice Ao38 t545.length co38)] 26 (0, 0))) ∧ Aside0 (Below w.heap.size w wc))
    case first =>
     have H := HC10.out
     clear HC10
     by_cases c39 : (t548 != t540) = true
     ·rw [if_pos c39] at H
      have c39b0 : (t548 != t540) = true := c39
      (try (have c39b1 : decide (t548 = t540) = false := by simpa using c39))
      (try (have c39b2 : (t548 == t540) = false := by simpa using c39))
      (try (have c39b3 : ¬ (t548 = t540) := by simpa using c39))
      clear c39
      (first | rw [c39b0] | (simp only [i64_w, i32_w]; rw [c39b0]) | skip)
      have H' := Aside0.mk H
      clear H
      go_wp2
      go_meet
      case rel => exact ⟨_, (true), (by first | rfl | (simp; done) | (simp [*]; done)), H', ⟨by have := HJ2.out; first | omega | exact Nat.le_refl _⟩, ⟨pR (Kd.R_mono (Kd.R_far (p := ⟨gb549, 1, none⟩) (Kd.R_far (p := ⟨gb549, 0, none⟩) (Kd.R_types HO518.out BK549.out (by decide)) (fun _ hk => hk.2) (.slice Ao33 t542.length co33)) (fun _ hk => hk.2) (.slice Ao38 t545.length co38)) (fun _ hk => ⟨hk.1.1.1.2, ⟨hk.1.1.2, hk.1.2⟩⟩))⟩, ⟨pR (Kd.R_mono (Kd.R_far (p := ⟨gb549, 1, none⟩) (Kd.R_far (p := ⟨gb549, 0, none⟩) (Kd.R_types HO521.out BK549.out (by decide)) (fun _ hk => hk.2) (.slice Ao33 t542.length co33)) (fun _ hk => hk.2) (.slice Ao38 t545.length co38)) (fun _ hk => ⟨hk.1.1.1.2, ⟨hk.1.1.2, hk.1.2⟩⟩))⟩, ⟨pR (Kd.R_mono (Kd.R_far (p := ⟨gb549, 1, none⟩) (Kd.R_far (p := ⟨gb549, 0, none⟩) (Kd.R_types HO527.out BK549.out (by decide)) (fun _ hk => hk.2) (.slice Ao33 t542.length co33)) (fun _ hk => hk.2) (.slice Ao38 t545.length co38)) (fun _ hk => ⟨hk.1.1.1.2, ⟨hk.1.1.2, hk.1.2⟩⟩))⟩, ⟨pR (Kd.R_mono (Kd.R_far (p := ⟨gb549, 1, none⟩) (Kd.R_far (p := ⟨gb549, 0, none⟩) (Kd.R_types HO530.out BK549.out (by decide)) (fun _ hk => hk.2) (.slice Ao33 t542.length co33)) (fun _ hk => hk.2) (.slice Ao38 t545.length co38)) (fun _ hk => ⟨hk.1.1.1.2, ⟨hk.1.1.2, hk.1.2⟩⟩))⟩, ⟨pR (Kd.R_mono (Kd.R_far (p := ⟨gb549, 1, none⟩) (Kd.R_far (p := ⟨gb549, 0, none⟩) (Kd.R_types HO536.out BK549.out (by decide)) (fun _ hk => hk.2) (.slice Ao33 t542.length co33)) (fun _ hk => hk.2) (.slice Ao38 t545.length co38)) (fun _ hk => ⟨hk.1.1.1.2, ⟨hk.1.1.2, hk.1.2⟩⟩))⟩, ⟨pR (Kd.R_mono (Kd.R_far (p := ⟨gb549, 1, none⟩) (Kd.R_far (p := ⟨gb549, 0, none⟩) (Kd.R_types HO539.out BK549.out (by decide)) (fun _ hk => hk.2) (.slice Ao33 t542.length co33)) (fun _ hk => hk.2) (.slice Ao38 t545.length co38)) (fun _ hk => ⟨hk.1.1.1.2, ⟨hk.1.1.2, hk.1.2⟩⟩))⟩, ⟨pR (Kd.R_mono (Kd.R_far (p := ⟨gb549, 1, none⟩) (Kd.R_far (p := ⟨gb549, 0, none⟩) (Kd.R_types HO544.out BK549.out (by decide)) (fun _ hk => hk.2) (.slice Ao33 t542.length co33)) (fun _ hk => hk.2) (.slice Ao38 t545.length co38)) (fun _ hk => ⟨hk.1.1.1.2, ⟨hk.1.1.2, hk.1.2⟩⟩))⟩, ⟨pR (Kd.R_mono (Kd.R_far (p := ⟨gb549, 1, none⟩) (Kd.R_far (p := ⟨gb549, 0, none⟩) (Kd.R_types HO547.out BK549.out (by decide)) (fun _ hk => hk.2) (.slice Ao33 t542.length co33)) (fun _ hk => hk.2) (.slice Ao38 t545.length co38)) (fun _ hk => ⟨hk.1.1.1.2, ⟨hk.1.1.2, hk.1.2⟩⟩))⟩, ⟨by (with_reducible repeat (first | refine blk_drewN ?_ _ | refine blk_drew ?_ | refine blk_alloc ?_ _)); refine blk_far ?_ NB524_549.out _; (with_reducible repeat (first | refine blk_drewN ?_ _ | refine blk_drew ?_ | refine blk_alloc ?_ _)); refine blk_far ?_ NB524_549.out _; (with_reducible repeat (first | refine blk_drewN ?_ _ | refine blk_drew ?_ | refine blk_alloc ?_ _)); exact BK524.out⟩, ⟨by (with_reducible repeat (first | refine blk_drewN ?_ _ | refine blk_drew ?_ | refine blk_alloc ?_ _)); refine blk_far ?_ NB533_549.out _; (with_reducible repeat (first | refine blk_drewN ?_ _ | refine blk_drew ?_ | refine blk_alloc ?_ _)); refine blk_far ?_ NB533_549.out _; (with_reducible repeat (first | refine blk_drewN ?_ _ | refine blk_drew ?_ | refine blk_alloc ?_ _)); exact BK533.out⟩, ⟨by (with_reducible repeat (first | refine blk_drewN ?_ _ | refine blk_drew ?_ | refine blk_alloc ?_ _)); refine blk_far ?_ NB541_549.out _; (with_reducible repeat (first | refine blk_drewN ?_ _ | refine blk_drew ?_ | refine blk_alloc ?_ _)); refine blk_far ?_ NB541_549.out _; (with_reducible repeat (first | refine blk_drewN ?_ _ | refine blk_drew ?_ | refine blk_alloc ?_ _)); exact BK541.out⟩, ⟨by (with_reducible repeat (first | refine blk_drewN ?_ _ | refine blk_drew ?_ | refine blk_alloc ?_ _)); refine blk_put (cs := #[.slice Ao33 t542.length co33, .slice none 0 0]) ?_ 1 _ rfl; (with_reducible repeat (first | refine blk_drewN ?_ _ | refine blk_drew ?_ | refine blk_alloc ?_ _)); refine blk_put (cs := #[.slice none 0 0, .slice none 0 0]) ?_ 0 _ rfl; (with_reducible repeat (first | refine blk_drewN ?_ _ | refine blk_drew ?_ | refine blk_alloc ?_ _)); exact BK549.out⟩, ⟨by repeat (first | (with_reducible first | exact HB.out | apply below_alloc | apply pw_below_drewN | apply below_drew1 | refine below_set ?_ GE524.out | refine below_set ?_ GE533.out | refine below_set ?_ GE541.out | refine below_set ?_ GE549.out) | exact HB.out)⟩⟩
     ·rw [if_neg c39] at H
      have c39b0 : (t548 != t540) = false := by simpa using c39
      (try (have c39b1 : decide (t548 = t540) = true := by simpa using c39))
      (try (have c39b2 : (t548 == t540) = true := by simpa using c39))
      clear c39
      (first | rw [c39b0] | (simp only [i64_w, i32_w]; rw [c39b0]) | skip)
      replace H := Option.bind_eq_some_iff.mp H
      obtain ⟨t550, A400, H⟩ := H
      replace H : (if t550 = true then (laws_FnSecSwap.j1 kj2 t522 t523 t531 t532 t540 t548 (t522 == t531) t516 t519 t534 t537 t542 t545) else (laws_FnSecSwap.j1 kj2 t522 t523 t531 t532 t540 t548 true t516 t519 t534 t537 t542 t545)) = some r := H
      have A40 := Aside0.mk A400
      clear A400
      by_cases c41 : t550 = true
      ·subst c41
       have H1 : (laws_FnSecSwap.j1 kj2 t522 t523 t531 t532 t540 t548 (t522 == t531) t516 t519 t534 t537 t542 t545) = some r := by rw [if_pos rfl] at H; exact H
       clear H
       have H := H1
       clear H1
       have H' := Aside0.mk H
       clear H
       have hnb42 := NB549_524.out
       have hnc42 := NB524_549.out
       have hnb43 := NB549_533.out
       have hnc43 := NB533_549.out
       have hnb44 := NB549_541.out
       have hnc44 := NB541_549.out
       have hcz45_0 : w32.cell? ⟨gb549, 0, none⟩ = some (.slice none 0 0) := (blk_cell BK549.out 0).trans rfl
       have hcz45_1 : w32.cell? ⟨gb549, 1, none⟩ = some (.slice none 0 0) := (blk_cell BK549.out 1).trans rfl
       have hfz45_0 := blk_frozen BK549.out 0
       have hfz45_1 := blk_frozen BK549.out 1
       have hnb46 := NB541_524.out
       have hnc46 := NB524_541.out
       have hnb47 := NB541_533.out
       have hnc47 := NB533_541.out
       have hcz48_0 : w32.cell? ⟨gb541, 0, none⟩ = some (.slice Ao25 t534.length co25) := (blk_cell BK541.out 0).trans rfl
       have hcz48_1 : w32.cell? ⟨gb541, 1, none⟩ = some (.slice Ao29 t537.length co29) := (blk_cell BK541.out 1).trans rfl
       have hfz48_0 := blk_frozen BK541.out 0
       have hfz48_1 := blk_frozen BK541.out 1
       go_wp2_with (first | (go_at_call 31; (with_reducible refine (laws_lpSec.calls kj2 _ _ t542 _ _ t545 _ _ t534 _ _ t537 true _ ?side1 ?side2 ?side3 ?side4 ?side5 ?side6 ?side7 ?side8 A40.out).mono ?_); (case side1 => refine (Kd.R_reads' (e := 9) (base := w.heap.size) (ok := fun k_ => (((True ∧ some k_ ≠ (.slice Ao13 t516.length co13 : Value).ownBlock) ∧ some k_ ≠ (.slice Ao18 t525.length co18 : Value).ownBlock) ∧ some k_ ≠ (.slice Ao25 t534.length co25 : Value).ownBlock)) (n := t542.length) (c := co33) ?_).2.2; exact (pR (Kd.R_mono (Kd.R_far (p := ⟨gb549, 1, none⟩) (Kd.R_far (p := ⟨gb549, 0, none⟩) (Kd.R_types HO544.out BK549.out (by decide)) (fun _ hk => hk.2) (.slice Ao33 t542.length co33)) (fun _ hk => hk.2) (.slice Ao38 t545.length co38)) (fun _ h_ => h_.1)))); (case side2 => exact (Kd.R_reads' HO544.out).2.1); (case side3 => refine (Kd.R_reads' (e := 54) (base := w.heap.size) (ok := fun k_ => (((True ∧ some k_ ≠ (.slice Ao15 t519.length co15 : Value).ownBlock) ∧ some k_ ≠ (.slice Ao21 t528.length co21 : Value).ownBlock) ∧ some k_ ≠ (.slice Ao29 t537.length co29 : Value).ownBlock)) (n := t545.length) (c := co38) ?_).2.2; exact (pR (Kd.R_mono (Kd.R_far (p := ⟨gb549, 1, none⟩) (Kd.R_far (p := ⟨gb549, 0, none⟩) (Kd.R_types HO547.out BK549.out (by decide)) (fun _ hk => hk.2) (.slice Ao33 t542.length co33)) (fun _ hk => hk.2) (.slice Ao38 t545.length co38)) (fun _ h_ => h_.1)))); (case side4 => exact (Kd.R_reads' HO547.out).2.1); (case side5 => refine (Kd.R_reads' (e := 9) (base := w.heap.size) (ok := fun k_ => (((True ∧ some k_ ≠ (.slice Ao13 t516.length co13 : Value).ownBlock) ∧ some k_ ≠ (.slice Ao18 t525.length co18 : Value).ownBlock) ∧ some k_ ≠ (.slice Ao33 t542.length co33 : Value).ownBlock)) (n := t534.length) (c := co25) ?_).2.2; exact (pR (Kd.R_mono (Kd.R_far (p := ⟨gb549, 1, none⟩) (Kd.R_far (p := ⟨gb549, 0, none⟩) (Kd.R_types HO536.out BK549.out (by decide)) (fun _ hk => hk.2) (.slice Ao33 t542.length co33)) (fun _ hk => hk.2) (.slice Ao38 t545.length co38)) (fun _ h_ => h_.1)))); (case side6 => exact (Kd.R_reads' HO536.out).2.1); (case side7 => refine (Kd.R_reads' (e := 54) (base := w.heap.size) (ok := fun k_ => (((True ∧ some k_ ≠ (.slice Ao15 t519.length co15 : Value).ownBlock) ∧ some k_ ≠ (.slice Ao21 t528.length co21 : Value).ownBlock) ∧ some k_ ≠ (.slice Ao38 t545.length co38 : Value).ownBlock)) (n := t537.length) (c := co29) ?_).2.2; exact (pR (Kd.R_mono (Kd.R_far (p := ⟨gb549, 1, none⟩) (Kd.R_far (p := ⟨gb549, 0, none⟩) (Kd.R_types HO539.out BK549.out (by decide)) (fun _ hk => hk.2) (.slice Ao33 t542.length co33)) (fun _ hk => hk.2) (.slice Ao38 t545.length co38)) (fun _ h_ => h_.1)))); (case side8 => exact (Kd.R_reads' HO539.out).2.1); rintro e w49 ⟨rfl, hb⟩; have n0_ := Aside0.mk (Kd.R_below (pR (Kd.R_mono (Kd.R_far (p := ⟨gb549, 1, none⟩) (Kd.R_far (p := ⟨gb549, 0, none⟩) (Kd.R_types HO518.out BK549.out (by decide)) (fun _ hk => hk.2) (.slice Ao33 t542.length co33)) (fun _ hk => hk.2) (.slice Ao38 t545.length co38)) (fun _ h_ => h_.1))) hb); have n1_ := Aside0.mk (Kd.R_below (pR (Kd.R_mono (Kd.R_far (p := ⟨gb549, 1, none⟩) (Kd.R_far (p := ⟨gb549, 0, none⟩) (Kd.R_types HO521.out BK549.out (by decide)) (fun _ hk => hk.2) (.slice Ao33 t542.length co33)) (fun _ hk => hk.2) (.slice Ao38 t545.length co38)) (fun _ h_ => h_.1))) hb); have n2_ := Aside0.mk (Kd.R_below (pR (Kd.R_mono (Kd.R_far (p := ⟨gb549, 1, none⟩) (Kd.R_far (p := ⟨gb549, 0, none⟩) (Kd.R_types HO527.out BK549.out (by decide)) (fun _ hk => hk.2) (.slice Ao33 t542.length co33)) (fun _ hk => hk.2) (.slice Ao38 t545.length co38)) (fun _ h_ => h_.1))) hb); have n3_ := Aside0.mk (Kd.R_below (pR (Kd.R_mono (Kd.R_far (p := ⟨gb549, 1, none⟩) (Kd.R_far (p := ⟨gb549, 0, none⟩) (Kd.R_types HO530.out BK549.out (by decide)) (fun _ hk => hk.2) (.slice Ao33 t542.length co33)) (fun _ hk => hk.2) (.slice Ao38 t545.length co38)) (fun _ h_ => h_.1))) hb); have n4_ := Aside0.mk (Kd.R_below (pR (Kd.R_mono (Kd.R_far (p := ⟨gb549, 1, none⟩) (Kd.R_far (p := ⟨gb549, 0, none⟩) (Kd.R_types HO536.out BK549.out (by decide)) (fun _ hk => hk.2) (.slice Ao33 t542.length co33)) (fun _ hk => hk.2) (.slice Ao38 t545.length co38)) (fun _ h_ => h_.1))) hb); have n5_ := Aside0.mk (Kd.R_below (pR (Kd.R_mono (Kd.R_far (p := ⟨gb549, 1, none⟩) (Kd.R_far (p := ⟨gb549, 0, none⟩) (Kd.R_types HO539.out BK549.out (by decide)) (fun _ hk => hk.2) (.slice Ao33 t542.length co33)) (fun _ hk => hk.2) (.slice Ao38 t545.length co38)) (fun _ h_ => h_.1))) hb); have n6_ := Aside0.mk (Kd.R_below (pR (Kd.R_mono (Kd.R_far (p := ⟨gb549, 1, none⟩) (Kd.R_far (p := ⟨gb549, 0, none⟩) (Kd.R_types HO544.out BK549.out (by decide)) (fun _ hk => hk.2) (.slice Ao33 t542.length co33)) (fun _ hk => hk.2) (.slice Ao38 t545.length co38)) (fun _ h_ => h_.1))) hb); have n7_ := Aside0.mk (Kd.R_below (pR (Kd.R_mono (Kd.R_far (p := ⟨gb549, 1, none⟩) (Kd.R_far (p := ⟨gb549, 0, none⟩) (Kd.R_types HO547.out BK549.out (by decide)) (fun _ hk => hk.2) (.slice Ao33 t542.length co33)) (fun _ hk => hk.2) (.slice Ao38 t545.length co38)) (fun _ h_ => h_.1))) hb); have n8_ := Aside0.mk (blk_below (g := gb524) (o := .cells #[.slice Ao13 t516.length co13, .slice Ao15 t519.length co15] 26 (0, 0)) (by (with_reducible repeat (first | refine blk_drewN ?_ _ | refine blk_drew ?_ | refine blk_alloc ?_ _)); refine blk_far ?_ NB524_549.out _; (with_reducible repeat (first | refine blk_drewN ?_ _ | refine blk_drew ?_ | refine blk_alloc ?_ _)); refine blk_far ?_ NB524_549.out _; (with_reducible repeat (first | refine blk_drewN ?_ _ | refine blk_drew ?_ | refine blk_alloc ?_ _)); exact BK524.out) hb); have n9_ := Aside0.mk (blk_below (g := gb533) (o := .cells #[.slice Ao18 t525.length co18, .slice Ao21 t528.length co21] 26 (0, 0)) (by (with_reducible repeat (first | refine blk_drewN ?_ _ | refine blk_drew ?_ | refine blk_alloc ?_ _)); refine blk_far ?_ NB533_549.out _; (with_reducible repeat (first | refine blk_drewN ?_ _ | refine blk_drew ?_ | refine blk_alloc ?_ _)); refine blk_far ?_ NB533_549.out _; (with_reducible repeat (first | refine blk_drewN ?_ _ | refine blk_drew ?_ | refine blk_alloc ?_ _)); exact BK533.out) hb); have n10_ := Aside0.mk (blk_below (g := gb541) (o := .cells #[.slice Ao25 t534.length co25, .slice Ao29 t537.length co29] 26 (0, 0)) (by (with_reducible repeat (first | refine blk_drewN ?_ _ | refine blk_drew ?_ | refine blk_alloc ?_ _)); refine blk_far ?_ NB541_549.out _; (with_reducible repeat (first | refine blk_drewN ?_ _ | refine blk_drew ?_ | refine blk_alloc ?_ _)); refine blk_far ?_ NB541_549.out _; (with_reducible repeat (first | refine blk_drewN ?_ _ | refine blk_drew ?_ | refine blk_alloc ?_ _)); exact BK541.out) hb); have n11_ := Aside0.mk (blk_below (g := gb549) (o := .cells #[.slice Ao33 t542.length co33, .slice Ao38 t545.length co38] 26 (0, 0)) (by (with_reducible repeat (first | refine blk_drewN ?_ _ | refine blk_drew ?_ | refine blk_alloc ?_ _)); refine blk_put (cs := #[.slice Ao33 t542.length co33, .slice none 0 0]) ?_ 1 _ rfl; (with_reducible repeat (first | refine blk_drewN ?_ _ | refine blk_drew ?_ | refine blk_alloc ?_ _)); refine blk_put (cs := #[.slice none 0 0, .slice none 0 0]) ?_ 0 _ rfl; (with_reducible repeat (first | refine blk_drewN ?_ _ | refine blk_drew ?_ | refine blk_alloc ?_ _)); exact BK549.out) hb); have n12_ := Aside0.mk (below_step (by repeat (first | (with_reducible first | exact HB.out | apply below_alloc | apply pw_below_drewN | apply below_drew1 | refine below_set ?_ GE524.out | refine below_set ?_ GE533.out | refine below_set ?_ GE541.out | refine below_set ?_ GE549.out) | exact HB.out)) hb); clear HO518; clear HO521; clear HO527; clear HO530; clear HO536; clear HO539; clear HO544; clear HO547; clear BK524; clear BK533; clear BK541; clear BK549; clear HB; have HO518 := n0_; have HO521 := n1_; have HO527 := n2_; have HO530 := n3_; have HO536 := n4_; have HO539 := n5_; have HO544 := n6_; have HO547 := n7_; have BK524 := n8_; have BK533 := n9_; have BK541 := n10_; have BK549 := n11_; have HB := n12_; clear n0_ n1_ n2_ n3_ n4_ n5_ n6_ n7_ n8_ n9_ n10_ n11_ n12_; (try clear hb); (try clear hb2); (try clear hk); (try clear hi)))
       go_meet
       case rel => exact ⟨_, ((t522 == t531)), (by first | rfl | (simp; done) | (simp [*]; done)), H', ⟨by have := HJ2.out; first | omega | exact Nat.le_refl _⟩, ⟨pR (Kd.R_mono HO518.out (fun _ hk => ⟨hk.1.1.2, ⟨hk.1.2, hk.2⟩⟩))⟩, ⟨pR (Kd.R_mono HO521.out (fun _ hk => ⟨hk.1.1.2, ⟨hk.1.2, hk.2⟩⟩))⟩, ⟨pR (Kd.R_mono HO527.out (fun _ hk => ⟨hk.1.1.2, ⟨hk.1.2, hk.2⟩⟩))⟩, ⟨pR (Kd.R_mono HO530.out (fun _ hk => ⟨hk.1.1.2, ⟨hk.1.2, hk.2⟩⟩))⟩, ⟨pR (Kd.R_mono HO536.out (fun _ hk => ⟨hk.1.1.2, ⟨hk.1.2, hk.2⟩⟩))⟩, ⟨pR (Kd.R_mono HO539.out (fun _ hk => ⟨hk.1.1.2, ⟨hk.1.2, hk.2⟩⟩))⟩, ⟨pR (Kd.R_mono HO544.out (fun _ hk => ⟨hk.1.1.2, ⟨hk.1.2, hk.2⟩⟩))⟩, ⟨pR (Kd.R_mono HO547.out (fun _ hk => ⟨hk.1.1.2, ⟨hk.1.2, hk.2⟩⟩))⟩, ⟨pK BK524.out⟩, ⟨pK BK533.out⟩, ⟨pK BK541.out⟩, ⟨pK BK549.out⟩, ⟨by repeat (first | (with_reducible first | exact HB.out | apply below_alloc | apply pw_below_drewN | apply below_drew1 | refine below_set ?_ GE524.out | refine below_set ?_ GE533.out | refine below_set ?_ GE541.out | refine below_set ?_ GE549.out) | exact HB.out)⟩⟩
      ·replace c41 := Bool.eq_false_iff.mpr c41
       subst c41
       have H1 : (laws_FnSecSwap.j1 kj2 t522 t523 t531 t532 t540 t548 true t516 t519 t534 t537 t542 t545) = some r := by rw [if_neg (show ¬ (false = true) by decide)] at H; exact H
       clear H
       have H := H1
       clear H1
       have H' := Aside0.mk H
       clear H
       have hnb50 := NB549_524.out
       have hnc50 := NB524_549.out
       have hnb51 := NB549_533.out
       have hnc51 := NB533_549.out
       have hnb52 := NB549_541.out
       have hnc52 := NB541_549.out
       have hcz53_0 : w32.cell? ⟨gb549, 0, none⟩ = some (.slice none 0 0) := (blk_cell BK549.out 0).trans rfl
       have hcz53_1 : w32.cell? ⟨gb549, 1, none⟩ = some (.slice none 0 0) := (blk_cell BK549.out 1).trans rfl
       have hfz53_0 := blk_frozen BK549.out 0
       have hfz53_1 := blk_frozen BK549.out 1
       have hnb54 := NB541_524.out
       have hnc54 := NB524_541.out
       have hnb55 := NB541_533.out
       have hnc55 := NB533_541.out
       have hcz56_0 : w32.cell? ⟨gb541, 0, none⟩ = some (.slice Ao25 t534.length co25) := (blk_cell BK541.out 0).trans rfl
       have hcz56_1 : w32.cell? ⟨gb541, 1, none⟩ = some (.slice Ao29 t537.length co29) := (blk_cell BK541.out 1).trans rfl
       have hfz56_0 := blk_frozen BK541.out 0
       have hfz56_1 := blk_frozen BK541.out 1
       go_wp2_with (first | (go_at_call 31; (with_reducible refine (laws_lpSec.calls kj2 _ _ t542 _ _ t545 _ _ t534 _ _ t537 false _ ?side1 ?side2 ?side3 ?side4 ?side5 ?side6 ?side7 ?side8 A40.out).mono ?_); (case side1 => refine (Kd.R_reads' (e := 9) (base := w.heap.size) (ok := fun k_ => (((True ∧ some k_ ≠ (.slice Ao13 t516.length co13 : Value).ownBlock) ∧ some k_ ≠ (.slice Ao18 t525.length co18 : Value).ownBlock) ∧ some k_ ≠ (.slice Ao25 t534.length co25 : Value).ownBlock)) (n := t542.length) (c := co33) ?_).2.2; exact (pR (Kd.R_mono (Kd.R_far (p := ⟨gb549, 1, none⟩) (Kd.R_far (p := ⟨gb549, 0, none⟩) (Kd.R_types HO544.out BK549.out (by decide)) (fun _ hk => hk.2) (.slice Ao33 t542.length co33)) (fun _ hk => hk.2) (.slice Ao38 t545.length co38)) (fun _ h_ => h_.1)))); (case side2 => exact (Kd.R_reads' HO544.out).2.1); (case side3 => refine (Kd.R_reads' (e := 54) (base := w.heap.size) (ok := fun k_ => (((True ∧ some k_ ≠ (.slice Ao15 t519.length co15 : Value).ownBlock) ∧ some k_ ≠ (.slice Ao21 t528.length co21 : Value).ownBlock) ∧ some k_ ≠ (.slice Ao29 t537.length co29 : Value).ownBlock)) (n := t545.length) (c := co38) ?_).2.2; exact (pR (Kd.R_mono (Kd.R_far (p := ⟨gb549, 1, none⟩) (Kd.R_far (p := ⟨gb549, 0, none⟩) (Kd.R_types HO547.out BK549.out (by decide)) (fun _ hk => hk.2) (.slice Ao33 t542.length co33)) (fun _ hk => hk.2) (.slice Ao38 t545.length co38)) (fun _ h_ => h_.1)))); (case side4 => exact (Kd.R_reads' HO547.out).2.1); (case side5 => refine (Kd.R_reads' (e := 9) (base := w.heap.size) (ok := fun k_ => (((True ∧ some k_ ≠ (.slice Ao13 t516.length co13 : Value).ownBlock) ∧ some k_ ≠ (.slice Ao18 t525.length co18 : Value).ownBlock) ∧ some k_ ≠ (.slice Ao33 t542.length co33 : Value).ownBlock)) (n := t534.length) (c := co25) ?_).2.2; exact (pR (Kd.R_mono (Kd.R_far (p := ⟨gb549, 1, none⟩) (Kd.R_far (p := ⟨gb549, 0, none⟩) (Kd.R_types HO536.out BK549.out (by decide)) (fun _ hk => hk.2) (.slice Ao33 t542.length co33)) (fun _ hk => hk.2) (.slice Ao38 t545.length co38)) (fun _ h_ => h_.1)))); (case side6 => exact (Kd.R_reads' HO536.out).2.1); (case side7 => refine (Kd.R_reads' (e := 54) (base := w.heap.size) (ok := fun k_ => (((True ∧ some k_ ≠ (.slice Ao15 t519.length co15 : Value).ownBlock) ∧ some k_ ≠ (.slice Ao21 t528.length co21 : Value).ownBlock) ∧ some k_ ≠ (.slice Ao38 t545.length co38 : Value).ownBlock)) (n := t537.length) (c := co29) ?_).2.2; exact (pR (Kd.R_mono (Kd.R_far (p := ⟨gb549, 1, none⟩) (Kd.R_far (p := ⟨gb549, 0, none⟩) (Kd.R_types HO539.out BK549.out (by decide)) (fun _ hk => hk.2) (.slice Ao33 t542.length co33)) (fun _ hk => hk.2) (.slice Ao38 t545.length co38)) (fun _ h_ => h_.1)))); (case side8 => exact (Kd.R_reads' HO539.out).2.1); rintro e w57 ⟨rfl, hb⟩; have n0_ := Aside0.mk (Kd.R_below (pR (Kd.R_mono (Kd.R_far (p := ⟨gb549, 1, none⟩) (Kd.R_far (p := ⟨gb549, 0, none⟩) (Kd.R_types HO518.out BK549.out (by decide)) (fun _ hk => hk.2) (.slice Ao33 t542.length co33)) (fun _ hk => hk.2) (.slice Ao38 t545.length co38)) (fun _ h_ => h_.1))) hb); have n1_ := Aside0.mk (Kd.R_below (pR (Kd.R_mono (Kd.R_far (p := ⟨gb549, 1, none⟩) (Kd.R_far (p := ⟨gb549, 0, none⟩) (Kd.R_types HO521.out BK549.out (by decide)) (fun _ hk => hk.2) (.slice Ao33 t542.length co33)) (fun _ hk => hk.2) (.slice Ao38 t545.length co38)) (fun _ h_ => h_.1))) hb); have n2_ := Aside0.mk (Kd.R_below (pR (Kd.R_mono (Kd.R_far (p := ⟨gb549, 1, none⟩) (Kd.R_far (p := ⟨gb549, 0, none⟩) (Kd.R_types HO527.out BK549.out (by decide)) (fun _ hk => hk.2) (.slice Ao33 t542.length co33)) (fun _ hk => hk.2) (.slice Ao38 t545.length co38)) (fun _ h_ => h_.1))) hb); have n3_ := Aside0.mk (Kd.R_below (pR (Kd.R_mono (Kd.R_far (p := ⟨gb549, 1, none⟩) (Kd.R_far (p := ⟨gb549, 0, none⟩) (Kd.R_types HO530.out BK549.out (by decide)) (fun _ hk => hk.2) (.slice Ao33 t542.length co33)) (fun _ hk => hk.2) (.slice Ao38 t545.length co38)) (fun _ h_ => h_.1))) hb); have n4_ := Aside0.mk (Kd.R_below (pR (Kd.R_mono (Kd.R_far (p := ⟨gb549, 1, none⟩) (Kd.R_far (p := ⟨gb549, 0, none⟩) (Kd.R_types HO536.out BK549.out (by decide)) (fun _ hk => hk.2) (.slice Ao33 t542.length co33)) (fun _ hk => hk.2) (.slice Ao38 t545.length co38)) (fun _ h_ => h_.1))) hb); have n5_ := Aside0.mk (Kd.R_below (pR (Kd.R_mono (Kd.R_far (p := ⟨gb549, 1, none⟩) (Kd.R_far (p := ⟨gb549, 0, none⟩) (Kd.R_types HO539.out BK549.out (by decide)) (fun _ hk => hk.2) (.slice Ao33 t542.length co33)) (fun _ hk => hk.2) (.slice Ao38 t545.length co38)) (fun _ h_ => h_.1))) hb); have n6_ := Aside0.mk (Kd.R_below (pR (Kd.R_mono (Kd.R_far (p := ⟨gb549, 1, none⟩) (Kd.R_far (p := ⟨gb549, 0, none⟩) (Kd.R_types HO544.out BK549.out (by decide)) (fun _ hk => hk.2) (.slice Ao33 t542.length co33)) (fun _ hk => hk.2) (.slice Ao38 t545.length co38)) (fun _ h_ => h_.1))) hb); have n7_ := Aside0.mk (Kd.R_below (pR (Kd.R_mono (Kd.R_far (p := ⟨gb549, 1, none⟩) (Kd.R_far (p := ⟨gb549, 0, none⟩) (Kd.R_types HO547.out BK549.out (by decide)) (fun _ hk => hk.2) (.slice Ao33 t542.length co33)) (fun _ hk => hk.2) (.slice Ao38 t545.length co38)) (fun _ h_ => h_.1))) hb); have n8_ := Aside0.mk (blk_below (g := gb524) (o := .cells #[.slice Ao13 t516.length co13, .slice Ao15 t519.length co15] 26 (0, 0)) (by (with_reducible repeat (first | refine blk_drewN ?_ _ | refine blk_drew ?_ | refine blk_alloc ?_ _)); refine blk_far ?_ NB524_549.out _; (with_reducible repeat (first | refine blk_drewN ?_ _ | refine blk_drew ?_ | refine blk_alloc ?_ _)); refine blk_far ?_ NB524_549.out _; (with_reducible repeat (first | refine blk_drewN ?_ _ | refine blk_drew ?_ | refine blk_alloc ?_ _)); exact BK524.out) hb); have n9_ := Aside0.mk (blk_below (g := gb533) (o := .cells #[.slice Ao18 t525.length co18, .slice Ao21 t528.length co21] 26 (0, 0)) (by (with_reducible repeat (first | refine blk_drewN ?_ _ | refine blk_drew ?_ | refine blk_alloc ?_ _)); refine blk_far ?_ NB533_549.out _; (with_reducible repeat (first | refine blk_drewN ?_ _ | refine blk_drew ?_ | refine blk_alloc ?_ _)); refine blk_far ?_ NB533_549.out _; (with_reducible repeat (first | refine blk_drewN ?_ _ | refine blk_drew ?_ | refine blk_alloc ?_ _)); exact BK533.out) hb); have n10_ := Aside0.mk (blk_below (g := gb541) (o := .cells #[.slice Ao25 t534.length co25, .slice Ao29 t537.length co29] 26 (0, 0)) (by (with_reducible repeat (first | refine blk_drewN ?_ _ | refine blk_drew ?_ | refine blk_alloc ?_ _)); refine blk_far ?_ NB541_549.out _; (with_reducible repeat (first | refine blk_drewN ?_ _ | refine blk_drew ?_ | refine blk_alloc ?_ _)); refine blk_far ?_ NB541_549.out _; (with_reducible repeat (first | refine blk_drewN ?_ _ | refine blk_drew ?_ | refine blk_alloc ?_ _)); exact BK541.out) hb); have n11_ := Aside0.mk (blk_below (g := gb549) (o := .cells #[.slice Ao33 t542.length co33, .slice Ao38 t545.length co38] 26 (0, 0)) (by (with_reducible repeat (first | refine blk_drewN ?_ _ | refine blk_drew ?_ | refine blk_alloc ?_ _)); refine blk_put (cs := #[.slice Ao33 t542.length co33, .slice none 0 0]) ?_ 1 _ rfl; (with_reducible repeat (first | refine blk_drewN ?_ _ | refine blk_drew ?_ | refine blk_alloc ?_ _)); refine blk_put (cs := #[.slice none 0 0, .slice none 0 0]) ?_ 0 _ rfl; (with_reducible repeat (first | refine blk_drewN ?_ _ | refine blk_drew ?_ | refine blk_alloc ?_ _)); exact BK549.out) hb); have n12_ := Aside0.mk (below_step (by repeat (first | (with_reducible first | exact HB.out | apply below_alloc | apply pw_below_drewN | apply below_drew1 | refine below_set ?_ GE524.out | refine below_set ?_ GE533.out | refine below_set ?_ GE541.out | refine below_set ?_ GE549.out) | exact HB.out)) hb); clear HO518; clear HO521; clear HO527; clear HO530; clear HO536; clear HO539; clear HO544; clear HO547; clear BK524; clear BK533; clear BK541; clear BK549; clear HB; have HO518 := n0_; have HO521 := n1_; have HO527 := n2_; have HO530 := n3_; have HO536 := n4_; have HO539 := n5_; have HO544 := n6_; have HO547 := n7_; have BK524 := n8_; have BK533 := n9_; have BK541 := n10_; have BK549 := n11_; have HB := n12_; clear n0_ n1_ n2_ n3_ n4_ n5_ n6_ n7_ n8_ n9_ n10_ n11_ n12_; (try clear hb); (try clear hb2); (try clear hk); (try clear hi)))
       go_meet
       case rel => exact ⟨_, (true), (by first | rfl | (simp; done) | (simp [*]; done)), H', ⟨by have := HJ2.out; first | omega | exact Nat.le_refl _⟩, ⟨pR (Kd.R_mono HO518.out (fun _ hk => ⟨hk.1.1.2, ⟨hk.1.2, hk.2⟩⟩))⟩, ⟨pR (Kd.R_mono HO521.out (fun _ hk => ⟨hk.1.1.2, ⟨hk.1.2, hk.2⟩⟩))⟩, ⟨pR (Kd.R_mono HO527.out (fun _ hk => ⟨hk.1.1.2, ⟨hk.1.2, hk.2⟩⟩))⟩, ⟨pR (Kd.R_mono HO530.out (fun _ hk => ⟨hk.1.1.2, ⟨hk.1.2, hk.2⟩⟩))⟩, ⟨pR (Kd.R_mono HO536.out (fun _ hk => ⟨hk.1.1.2, ⟨hk.1.2, hk.2⟩⟩))⟩, ⟨pR (Kd.R_mono HO539.out (fun _ hk => ⟨hk.1.1.2, ⟨hk.1.2, hk.2⟩⟩))⟩, ⟨pR (Kd.R_mono HO544.out (fun _ hk => ⟨hk.1.1.2, ⟨hk.1.2, hk.2⟩⟩))⟩, ⟨pR (Kd.R_mono HO547.out (fun _ hk => ⟨hk.1.1.2, ⟨hk.1.2, hk.2⟩⟩))⟩, ⟨pK BK524.out⟩, ⟨pK BK533.out⟩, ⟨pK BK541.out⟩, ⟨pK BK549.out⟩, ⟨by repeat (first | (with_reducible first | exact HB.out | apply below_alloc | apply pw_below_drewN | apply below_drew1 | refine below_set ?_ GE524.out | refine below_set ?_ GE533.out | refine below_set ?_ GE541.out | refine below_set ?_ GE549.out) | exact HB.out)⟩⟩
    case rest =>
     clear HC10
     try clear c1
     try clear c2
     try clear p2
     try clear c3
     try clear c4
     try clear c4b0
     try clear c4b1
     try clear c5
     try clear c8
     try clear c19
     try clear c26
     try clear c27
     try clear c28
     try clear c29
     try clear c30
     try clear c34
     try clear c35
     try clear c36
     try clear c39
     try clear c39b0
     try clear c39b1
     try clear c39b2
     try clear c41
     try clear c42
     try clear c43
     try clear c44
     try clear c46
     try clear c47
     try clear c50
     try clear c51
     try clear c52
     try clear c54
     try clear c55
     try clear hcz14_0
     try clear hcz14_1
     try clear hcz20_0
     try clear hcz20_1
     try clear hcz22_0
     try clear hcz22_1
     try clear hcz28_0
     try clear hcz28_1
     try clear hcz30_0
     try clear hcz30_1
     try clear hcz37_0
     try clear hcz37_1
     try clear hcz45_0
     try clear hcz45_1
     try clear hcz48_0
     try clear hcz48_1
     try clear hcz53_0
     try clear hcz53_1
     try clear hcz56_0
     try clear hcz56_1
     try clear hfz14_0
     try clear hfz14_1
     try clear hfz20_0
     try clear hfz20_1
     try clear hfz22_0
     try clear hfz22_1
     try clear hfz28_0
     try clear hfz28_1
     try clear hfz30_0
     try clear hfz30_1
     try clear hfz37_0
     try clear hfz37_1
     try clear hfz45_0
     try clear hfz45_1
     try clear hfz48_0
     try clear hfz48_1
     try clear hfz53_0
     try clear hfz53_1
     try clear hfz56_0
     try clear hfz56_1
     try clear p2
     obtain ⟨kq, x66_9, rfl, HA, HJ9, HO_525000, HO_525001, HO_534000, HO_534001, HO_542000, HO_542001, HO_550000, HO_550001, BK524, BK533, BK541, BK549, HB⟩ := hcut
     cases kq with
     | zero => exact absurd HA.out (by simp [laws_FnSecSwap.j1])
     | succ kj9 =>
      have H := HA.out
      clear HA
      simp only [laws_FnSecSwap.j1] at H
      by_cases c58 : x66_9 = true
      ·subst c58
       have H1 : (if (t548 == t540) = true then ((laws_lpSec.f kj9 t542 t545 t534 t537).bind fun t551 => (some t551)) else (some false)) = some r := by rw [if_pos rfl] at H; exact H
       clear H
       have H := H1
       clear H1
       by_cases c59 : (t548 == t540) = true
       ·rw [if_pos c59] at H
        have c59b0 : (t548 == t540) = true := c59
        (try (have c59b1 : decide (t548 = t540) = true := by simpa using c59))
        (try (have c59b2 : (t548 == t540) = true := by simpa using c59))
        clear c59
        replace H := Option.bind_eq_some_iff.mp H
        obtain ⟨t551, A600, H⟩ := H
        replace H : (some t551) = some r := H
        have A60 := Aside0.mk A600
        clear A600
        obtain rfl := Option.some.inj H
        have hnb61 := NB549_524.out
        have hnc61 := NB524_549.out
        have hnb62 := NB549_533.out
        have hnc62 := NB533_549.out
        have hnb63 := NB549_541.out
        have hnc63 := NB541_549.out
        have hcz64_0 : wc.cell? ⟨gb549, 0, none⟩ = some (.slice Ao33 t542.length co33) := (blk_cell BK549.out 0).trans rfl
        have hcz64_1 : wc.cell? ⟨gb549, 1, none⟩ = some (.slice Ao38 t545.length co38) := (blk_cell BK549.out 1).trans rfl
        have hfz64_0 := blk_frozen BK549.out 0
        have hfz64_1 := blk_frozen BK549.out 1
        have hnb65 := NB541_524.out
        have hnc65 := NB524_541.out
        have hnb66 := NB541_533.out
        have hnc66 := NB533_541.out
        have hcz67_0 : wc.cell? ⟨gb541, 0, none⟩ = some (.slice Ao25 t534.length co25) := (blk_cell BK541.out 0).trans rfl
        have hcz67_1 : wc.cell? ⟨gb541, 1, none⟩ = some (.slice Ao29 t537.length co29) := (blk_cell BK541.out 1).trans rfl
        have hfz67_0 := blk_frozen BK541.out 0
        have hfz67_1 := blk_frozen BK541.out 1
        go_wp2_with (first | (go_at_call 31; (with_reducible refine (laws_lpSec.calls kj9 _ _ t542 _ _ t545 _ _ t534 _ _ t537 t551 _ ?side1 ?side2 ?side3 ?side4 ?side5 ?side6 ?side7 ?side8 A60.out).mono ?_); (case side1 => exact pC (Kd.R_reads' HO_550000.out).2.2); (case side2 => exact (Kd.R_reads' HO_550000.out).2.1); (case side3 => exact pC (Kd.R_reads' HO_550001.out).2.2); (case side4 => exact (Kd.R_reads' HO_550001.out).2.1); (case side5 => exact pC (Kd.R_reads' HO_542000.out).2.2); (case side6 => exact (Kd.R_reads' HO_542000.out).2.1); (case side7 => exact pC (Kd.R_reads' HO_542001.out).2.2); (case side8 => exact (Kd.R_reads' HO_542001.out).2.1); rintro e w68 ⟨rfl, hb⟩; have n0_ := Aside0.mk (Kd.R_below (pR HO_525000.out) hb); have n1_ := Aside0.mk (Kd.R_below (pR HO_525001.out) hb); have n2_ := Aside0.mk (Kd.R_below (pR HO_534000.out) hb); have n3_ := Aside0.mk (Kd.R_below (pR HO_534001.out) hb); have n4_ := Aside0.mk (Kd.R_below (pR HO_542000.out) hb); have n5_ := Aside0.mk (Kd.R_below (pR HO_542001.out) hb); have n6_ := Aside0.mk (Kd.R_below (pR HO_550000.out) hb); have n7_ := Aside0.mk (Kd.R_below (pR HO_550001.out) hb); have n8_ := Aside0.mk (blk_below (g := gb524) (o := .cells #[.slice Ao13 t516.length co13, .slice Ao15 t519.length co15] 26 (0, 0)) (pK BK524.out) hb); have n9_ := Aside0.mk (blk_below (g := gb533) (o := .cells #[.slice Ao18 t525.length co18, .slice Ao21 t528.length co21] 26 (0, 0)) (pK BK533.out) hb); have n10_ := Aside0.mk (blk_below (g := gb541) (o := .cells #[.slice Ao25 t534.length co25, .slice Ao29 t537.length co29] 26 (0, 0)) (pK BK541.out) hb); have n11_ := Aside0.mk (blk_below (g := gb549) (o := .cells #[.slice Ao33 t542.length co33, .slice Ao38 t545.length co38] 26 (0, 0)) (pK BK549.out) hb); have n12_ := Aside0.mk (below_step (by repeat (first | (with_reducible first | exact HB.out | apply below_alloc | apply pw_below_drewN | apply below_drew1 | refine below_set ?_ GE524.out | refine below_set ?_ GE533.out | refine below_set ?_ GE541.out | refine below_set ?_ GE549.out) | exact HB.out)) hb); clear HO_525000; clear HO_525001; clear HO_534000; clear HO_534001; clear HO_542000; clear HO_542001; clear HO_550000; clear HO_550001; clear BK524; clear BK533; clear BK541; clear BK549; clear HB; have HO_525000 := n0_; have HO_525001 := n1_; have HO_534000 := n2_; have HO_534001 := n3_; have HO_542000 := n4_; have HO_542001 := n5_; have HO_550000 := n6_; have HO_550001 := n7_; have BK524 := n8_; have BK533 := n9_; have BK541 := n10_; have BK549 := n11_; have HB := n12_; clear n0_ n1_ n2_ n3_ n4_ n5_ n6_ n7_ n8_ n9_ n10_ n11_ n12_; (try clear hb); (try clear hb2); (try clear hk); (try clear hi)))
        go_ret
        exact ⟨by first | rfl | (simp [errW_none, errW_some] <;> rfl) | (simp [*, errW_none, errW_some] <;> rfl), by repeat (first | (with_reducible first | exact HB.out | apply below_alloc | apply pw_below_drewN | apply below_drew1 | refine below_set ?_ GE524.out | refine below_set ?_ GE533.out | refine below_set ?_ GE541.out | refine below_set ?_ GE549.out) | exact HB.out)⟩
       ·rw [if_neg c59] at H
        have c59b0 : (t548 == t540) = false := by simpa using c59
        (try (have c59b1 : decide (t548 = t540) = false := by simpa using c59))
        (try (have c59b2 : (t548 == t540) = false := by simpa using c59))
        (try (have c59b3 : ¬ (t548 = t540) := by simpa using c59))
        clear c59
        obtain rfl := Option.some.inj H
        go_wp2
        go_ret
        exact ⟨by first | rfl | (simp [errW_none, errW_some] <;> rfl) | (simp [*, errW_none, errW_some] <;> rfl), by repeat (first | (with_reducible first | exact HB.out | apply below_alloc | apply pw_below_drewN | apply below_drew1 | refine below_set ?_ GE524.out | refine below_set ?_ GE533.out | refine below_set ?_ GE541.out | refine below_set ?_ GE549.out) | exact HB.out)⟩
      ·replace c58 := Bool.eq_false_iff.mpr c58
       subst c58
       have H1 : ((impl_SecPut.f kj9 t542 t545 t531 t532).bind fun bt552 => ((impl_SecPut.f kj9 t516 t519 t531 t532).bind fun bt559 => ((impl_SecPut.f kj9 bt559.1 bt559.2.1 t522 t523).bind fun bt567 => (if t548 = true then (if bt552.2.2 = true then (if bt559.2.2 = true then (laws_FnSecSwap.j2 kj9 (!bt567.2.2) bt552.1 bt552.2.1 bt567.1 bt567.2.1) else (laws_FnSecSwap.j2 kj9 true bt552.1 bt552.2.1 bt567.1 bt567.2.1)) else (laws_FnSecSwap.j2 kj9 true bt552.1 bt552.2.1 bt567.1 bt567.2.1)) else (laws_FnSecSwap.j2 kj9 true bt552.1 bt552.2.1 bt567.1 bt567.2.1))))) = some r := by rw [if_neg (show ¬ (false = true) by decide)] at H; exact H
       clear H
       have H := H1
       clear H1
       replace H := Option.bind_eq_some_iff.mp H
       obtain ⟨⟨t552, t555, t558⟩, A690, H⟩ := H
       replace H : ((impl_SecPut.f kj9 t516 t519 t531 t532).bind fun bt559 => ((impl_SecPut.f kj9 bt559.1 bt559.2.1 t522 t523).bind fun bt567 => (if t548 = true then (if t558 = true then (if bt559.2.2 = true then (laws_FnSecSwap.j2 kj9 (!bt567.2.2) t552 t555 bt567.1 bt567.2.1) else (laws_FnSecSwap.j2 kj9 true t552 t555 bt567.1 bt567.2.1)) else (laws_FnSecSwap.j2 kj9 true t552 t555 bt567.1 bt567.2.1)) else (laws_FnSecSwap.j2 kj9 true t552 t555 bt567.1 bt567.2.1)))) = some r := H
       have A69 := Aside0.mk A690
       clear A690
       replace H := Option.bind_eq_some_iff.mp H
       obtain ⟨⟨t559, t562, t565⟩, A700, H⟩ := H
       replace H : ((impl_SecPut.f kj9 t559 t562 t522 t523).bind fun bt567 => (if t548 = true then (if t558 = true then (if t565 = true then (laws_FnSecSwap.j2 kj9 (!bt567.2.2) t552 t555 bt567.1 bt567.2.1) else (laws_FnSecSwap.j2 kj9 true t552 t555 bt567.1 bt567.2.1)) else (laws_FnSecSwap.j2 kj9 true t552 t555 bt567.1 bt567.2.1)) else (laws_FnSecSwap.j2 kj9 true t552 t555 bt567.1 bt567.2.1))) = some r := H
       have A70 := Aside0.mk A700
       clear A700
       replace H := Option.bind_eq_some_iff.mp H
       obtain ⟨⟨t567, t570, t573⟩, A710, H⟩ := H
       replace H : (if t548 = true then (if t558 = true then (if t565 = true then (laws_FnSecSwap.j2 kj9 (!t573) t552 t555 t567 t570) else (laws_FnSecSwap.j2 kj9 true t552 t555 t567 t570)) else (laws_FnSecSwap.j2 kj9 true t552 t555 t567 t570)) else (laws_FnSecSwap.j2 kj9 true t552 t555 t567 t570)) = some r := H
       have A71 := Aside0.mk A710
       clear A710
       have HC72 := Aside0.mk H
       clear H
       have hnb73 := NB549_524.out
       have hnc73 := NB524_549.out
       have hnb74 := NB549_533.out
       have hnc74 := NB533_549.out
       have hnb75 := NB549_541.out
       have hnc75 := NB541_549.out
       have hcz76_0 : wc.cell? ⟨gb549, 0, none⟩ = some (.slice Ao33 t542.length co33) := (blk_cell BK549.out 0).trans rfl
       have hcz76_1 : wc.cell? ⟨gb549, 1, none⟩ = some (.slice Ao38 t545.length co38) := (blk_cell BK549.out 1).trans rfl
       have hfz76_0 := blk_frozen BK549.out 0
       have hfz76_1 := blk_frozen BK549.out 1
       go_upto_region 12 with (first | ((with_reducible refine gate_callee (f := 30) rfl ?_); refine goesL_ (some 79) rfl rfl Try.func30 (by kernel_rfl) rfl #[.agg #[.slice Ao33 t542.length co33, .slice Ao38 t545.length co38], .int .i64 t531, .string t532] rfl bM ?_; (with_reducible refine (impl_SecPut.calls kj9 _ _ t542 _ _ t545 t531 t532 t552 t555 t558 _ ?side1 ?side2 ?side3 ?side4 A69.out).mono ?_); (case side1 => exact pC (Kd.R_reads' HO_550000.out).2.2); (case side2 => exact (Kd.R_reads' HO_550000.out).2.1); (case side3 => exact pC (Kd.R_reads' HO_550001.out).2.2); (case side4 => exact (Kd.R_reads' HO_550001.out).2.1); rintro e w77 ⟨v553, v556, rfl, ho0, ho1, hb⟩; refine ⟨_, rfl, ?_⟩; have n0_ := Aside0.mk (Kd.R_elder' (pR HO_525000.out) (Kd.R_base ho0) hb); have n1_ := Aside0.mk (Kd.R_elder' (pR HO_525001.out) (Kd.R_base ho1) hb); have n2_ := Aside0.mk (Kd.R_elder' (pR HO_534000.out) (Kd.R_base ho0) hb); have n3_ := Aside0.mk (Kd.R_elder' (pR HO_534001.out) (Kd.R_base ho1) hb); have n4_ := Aside0.mk (Kd.R_elder' (pR HO_542000.out) (Kd.R_base ho0) hb); have n5_ := Aside0.mk (Kd.R_elder' (pR HO_542001.out) (Kd.R_base ho1) hb); have n6_ := Aside0.mk (Kd.R_elder' (pR HO_550000.out) (Kd.R_base ho0) hb); have n7_ := Aside0.mk (Kd.R_elder' (pR HO_550001.out) (Kd.R_base ho1) hb); have n8_ := Aside0.mk (Kd.R_lower (Kd.R_new' (Kd.R_new' (Kd.R_new' (Kd.R_new' ho0 (Kd.R_lt (pR HO_525000.out))) (Kd.R_lt (pR HO_534000.out))) (Kd.R_lt (pR HO_542000.out))) (Kd.R_lt (pR HO_550000.out))) (below_size (by repeat (first | (with_reducible first | exact HB.out | apply below_alloc | apply pw_below_drewN | apply below_drew1 | refine below_set ?_ GE524.out | refine below_set ?_ GE533.out | refine below_set ?_ GE541.out | refine below_set ?_ GE549.out) | exact HB.out)))); have n9_ := Aside0.mk (Kd.R_lower (Kd.R_new' (Kd.R_new' (Kd.R_new' (Kd.R_new' ho1 (Kd.R_lt (pR HO_525001.out))) (Kd.R_lt (pR HO_534001.out))) (Kd.R_lt (pR HO_542001.out))) (Kd.R_lt (pR HO_550001.out))) (below_size (by repeat (first | (with_reducible first | exact HB.out | apply below_alloc | apply pw_below_drewN | apply below_drew1 | refine below_set ?_ GE524.out | refine below_set ?_ GE533.out | refine below_set ?_ GE541.out | refine below_set ?_ GE549.out) | exact HB.out)))); have n10_ := Aside0.mk (blk_below (g := gb524) (o := .cells #[.slice Ao13 t516.length co13, .slice Ao15 t519.length co15] 26 (0, 0)) (pK BK524.out) hb); have n11_ := Aside0.mk (blk_below (g := gb533) (o := .cells #[.slice Ao18 t525.length co18, .slice Ao21 t528.length co21] 26 (0, 0)) (pK BK533.out) hb); have n12_ := Aside0.mk (blk_below (g := gb541) (o := .cells #[.slice Ao25 t534.length co25, .slice Ao29 t537.length co29] 26 (0, 0)) (pK BK541.out) hb); have n13_ := Aside0.mk (blk_below (g := gb549) (o := .cells #[.slice Ao33 t542.length co33, .slice Ao38 t545.length co38] 26 (0, 0)) (pK BK549.out) hb); have n14_ := Aside0.mk (below_step (by repeat (first | (with_reducible first | exact HB.out | apply below_alloc | apply pw_below_drewN | apply below_drew1 | refine below_set ?_ GE524.out | refine below_set ?_ GE533.out | refine below_set ?_ GE541.out | refine below_set ?_ GE549.out) | exact HB.out)) hb); clear HO_525000; clear HO_525001; clear HO_534000; clear HO_534001; clear HO_542000; clear HO_542001; clear HO_550000; clear HO_550001; clear BK524; clear BK533; clear BK541; clear BK549; clear HB; have HO_525000 := n0_; have HO_525001 := n1_; have HO_534000 := n2_; have HO_534001 := n3_; have HO_542000 := n4_; have HO_542001 := n5_; have HO_550000 := n6_; have HO_550001 := n7_; have HO554 := n8_; have HO557 := n9_; have BK524 := n10_; have BK533 := n11_; have BK541 := n12_; have BK549 := n13_; have HB := n14_; clear n0_ n1_ n2_ n3_ n4_ n5_ n6_ n7_ n8_ n9_ n10_ n11_ n12_ n13_ n14_; (try clear hb); (try clear hb2); (try clear hk); (try clear hi); (try clear ho0); (try clear ho1); obtain ⟨Ao78, co78, eo78⟩ := Kd.R_slice HO554.out; subst eo78; have hcz79_0 : w77.cell? ⟨gb549, 0, none⟩ = some (.slice Ao33 t542.length co33) := (blk_cell BK549.out 0).trans rfl; have hcz79_1 : w77.cell? ⟨gb549, 1, none⟩ = some (.slice Ao38 t545.length co38) := (blk_cell BK549.out 1).trans rfl; have hfz79_0 := blk_frozen BK549.out 0; have hfz79_1 := blk_frozen BK549.out 1; obtain ⟨Ao80, co80, eo80⟩ := Kd.R_slice HO557.out; subst eo80; have hnb81 := NB524_533.out; have hnc81 := NB533_524.out; have hnb82 := NB524_541.out; have hnc82 := NB541_524.out; have hcz83_0 : w77.cell? ⟨gb524, 0, none⟩ = some (.slice Ao13 t516.length co13) := (blk_cell BK524.out 0).trans rfl; have hcz83_1 : w77.cell? ⟨gb524, 1, none⟩ = some (.slice Ao15 t519.length co15) := (blk_cell BK524.out 1).trans rfl; have hfz83_0 := blk_frozen BK524.out 0; have hfz83_1 := blk_frozen BK524.out 1) | ((with_reducible refine gate_callee (f := 30) rfl ?_); refine goesL_ (some 86) rfl rfl Try.func30 (by kernel_rfl) rfl #[.agg #[.slice Ao13 t516.length co13, .slice Ao15 t519.length co15], .int .i64 t531, .string t532] rfl bM ?_; (with_reducible refine (impl_SecPut.calls kj9 _ _ t516 _ _ t519 t531 t532 t559 t562 t565 _ ?side1 ?side2 ?side3 ?side4 A70.out).mono ?_); (case side1 => refine (Kd.R_reads' (e := 9) (base := w.heap.size) (ok := fun k_ => ((some k_ ≠ (.slice Ao18 t525.length co18 : Value).ownBlock ∧ (some k_ ≠ (.slice Ao25 t534.length co25 : Value).ownBlock ∧ some k_ ≠ (.slice Ao33 t542.length co33 : Value).ownBlock)) ∧ some k_ ≠ (.slice Ao78 t552.length co78 : Value).ownBlock)) (n := t516.length) (c := co13) ?_).2.2; exact (pR (Kd.R_mono (Kd.R_far (p := ⟨gb549, 1, none⟩) (Kd.R_far (p := ⟨gb549, 0, none⟩) (Kd.R_types HO_525000.out BK549.out (by decide)) (fun _ hk => hk.2) (.slice Ao78 t552.length co78)) (fun _ hk => hk.2) (.slice Ao80 t555.length co80)) (fun _ h_ => h_.1)))); (case side2 => exact (Kd.R_reads' HO_525000.out).2.1); (case side3 => refine (Kd.R_reads' (e := 54) (base := w.heap.size) (ok := fun k_ => ((some k_ ≠ (.slice Ao21 t528.length co21 : Value).ownBlock ∧ (some k_ ≠ (.slice Ao29 t537.length co29 : Value).ownBlock ∧ some k_ ≠ (.slice Ao38 t545.length co38 : Value).ownBlock)) ∧ some k_ ≠ (.slice Ao80 t555.length co80 : Value).ownBlock)) (n := t519.length) (c := co15) ?_).2.2; exact (pR (Kd.R_mono (Kd.R_far (p := ⟨gb549, 1, none⟩) (Kd.R_far (p := ⟨gb549, 0, none⟩) (Kd.R_types HO_525001.out BK549.out (by decide)) (fun _ hk => hk.2) (.slice Ao78 t552.length co78)) (fun _ hk => hk.2) (.slice Ao80 t555.length co80)) (fun _ h_ => h_.1)))); (case side4 => exact (Kd.R_reads' HO_525001.out).2.1); rintro e w84 ⟨v560, v563, rfl, ho0, ho1, hb⟩; refine ⟨_, rfl, ?_⟩; have n0_ := Aside0.mk (Kd.R_elder' (pR (Kd.R_mono (Kd.R_far (p := ⟨gb549, 1, none⟩) (Kd.R_far (p := ⟨gb549, 0, none⟩) (Kd.R_types HO_525000.out BK549.out (by decide)) (fun _ hk => hk.2) (.slice Ao78 t552.length co78)) (fun _ hk => hk.2) (.slice Ao80 t555.length co80)) (fun _ h_ => h_.1))) (Kd.R_base ho0) hb); have n1_ := Aside0.mk (Kd.R_elder' (pR (Kd.R_mono (Kd.R_far (p := ⟨gb549, 1, none⟩) (Kd.R_far (p := ⟨gb549, 0, none⟩) (Kd.R_types HO_525001.out BK549.out (by decide)) (fun _ hk => hk.2) (.slice Ao78 t552.length co78)) (fun _ hk => hk.2) (.slice Ao80 t555.length co80)) (fun _ h_ => h_.1))) (Kd.R_base ho1) hb); have n2_ := Aside0.mk (Kd.R_elder' (pR (Kd.R_mono (Kd.R_far (p := ⟨gb549, 1, none⟩) (Kd.R_far (p := ⟨gb549, 0, none⟩) (Kd.R_types HO_534000.out BK549.out (by decide)) (fun _ hk => hk.2) (.slice Ao78 t552.length co78)) (fun _ hk => hk.2) (.slice Ao80 t555.length co80)) (fun _ h_ => h_.1))) (Kd.R_base ho0) hb); have n3_ := Aside0.mk (Kd.R_elder' (pR (Kd.R_mono (Kd.R_far (p := ⟨gb549, 1, none⟩) (Kd.R_far (p := ⟨gb549, 0, none⟩) (Kd.R_types HO_534001.out BK549.out (by decide)) (fun _ hk => hk.2) (.slice Ao78 t552.length co78)) (fun _ hk => hk.2) (.slice Ao80 t555.length co80)) (fun _ h_ => h_.1))) (Kd.R_base ho1) hb); have n4_ := Aside0.mk (Kd.R_elder' (pR (Kd.R_mono (Kd.R_far (p := ⟨gb549, 1, none⟩) (Kd.R_far (p := ⟨gb549, 0, none⟩) (Kd.R_types HO_542000.out BK549.out (by decide)) (fun _ hk => hk.2) (.slice Ao78 t552.length co78)) (fun _ hk => hk.2) (.slice Ao80 t555.length co80)) (fun _ h_ => h_.1))) (Kd.R_base ho0) hb); have n5_ := Aside0.mk (Kd.R_elder' (pR (Kd.R_mono (Kd.R_far (p := ⟨gb549, 1, none⟩) (Kd.R_far (p := ⟨gb549, 0, none⟩) (Kd.R_types HO_542001.out BK549.out (by decide)) (fun _ hk => hk.2) (.slice Ao78 t552.length co78)) (fun _ hk => hk.2) (.slice Ao80 t555.length co80)) (fun _ h_ => h_.1))) (Kd.R_base ho1) hb); have n6_ := Aside0.mk (Kd.R_elder' (pR (Kd.R_mono (Kd.R_far (p := ⟨gb549, 1, none⟩) (Kd.R_far (p := ⟨gb549, 0, none⟩) (Kd.R_types HO_550000.out BK549.out (by decide)) (fun _ hk => hk.2) (.slice Ao78 t552.length co78)) (fun _ hk => hk.2) (.slice Ao80 t555.length co80)) (fun _ h_ => h_.1))) (Kd.R_base ho0) hb); have n7_ := Aside0.mk (Kd.R_elder' (pR (Kd.R_mono (Kd.R_far (p := ⟨gb549, 1, none⟩) (Kd.R_far (p := ⟨gb549, 0, none⟩) (Kd.R_types HO_550001.out BK549.out (by decide)) (fun _ hk => hk.2) (.slice Ao78 t552.length co78)) (fun _ hk => hk.2) (.slice Ao80 t555.length co80)) (fun _ h_ => h_.1))) (Kd.R_base ho1) hb); have n8_ := Aside0.mk (Kd.R_elder' (pR (Kd.R_mono (Kd.R_far (p := ⟨gb549, 1, none⟩) (Kd.R_far (p := ⟨gb549, 0, none⟩) (Kd.R_types HO554.out BK549.out (by decide)) (fun _ hk => hk.2) (.slice Ao78 t552.length co78)) (fun _ hk => hk.2) (.slice Ao80 t555.length co80)) (fun _ h_ => h_.1))) (Kd.R_base ho0) hb); have n9_ := Aside0.mk (Kd.R_elder' (pR (Kd.R_mono (Kd.R_far (p := ⟨gb549, 1, none⟩) (Kd.R_far (p := ⟨gb549, 0, none⟩) (Kd.R_types HO557.out BK549.out (by decide)) (fun _ hk => hk.2) (.slice Ao78 t552.length co78)) (fun _ hk => hk.2) (.slice Ao80 t555.length co80)) (fun _ h_ => h_.1))) (Kd.R_base ho1) hb); have n10_ := Aside0.mk (Kd.R_lower (Kd.R_new' (Kd.R_new' (Kd.R_new' (Kd.R_new' (Kd.R_new' ho0 (Kd.R_lt (pR (Kd.R_mono (Kd.R_far (p := ⟨gb549, 1, none⟩) (Kd.R_far (p := ⟨gb549, 0, none⟩) (Kd.R_types HO_525000.out BK549.out (by decide)) (fun _ hk => hk.2) (.slice Ao78 t552.length co78)) (fun _ hk => hk.2) (.slice Ao80 t555.length co80)) (fun _ h_ => h_.1))))) (Kd.R_lt (pR (Kd.R_mono (Kd.R_far (p := ⟨gb549, 1, none⟩) (Kd.R_far (p := ⟨gb549, 0, none⟩) (Kd.R_types HO_534000.out BK549.out (by decide)) (fun _ hk => hk.2) (.slice Ao78 t552.length co78)) (fun _ hk => hk.2) (.slice Ao80 t555.length co80)) (fun _ h_ => h_.1))))) (Kd.R_lt (pR (Kd.R_mono (Kd.R_far (p := ⟨gb549, 1, none⟩) (Kd.R_far (p := ⟨gb549, 0, none⟩) (Kd.R_types HO_542000.out BK549.out (by decide)) (fun _ hk => hk.2) (.slice Ao78 t552.length co78)) (fun _ hk => hk.2) (.slice Ao80 t555.length co80)) (fun _ h_ => h_.1))))) (Kd.R_lt (pR (Kd.R_mono (Kd.R_far (p := ⟨gb549, 1, none⟩) (Kd.R_far (p := ⟨gb549, 0, none⟩) (Kd.R_types HO_550000.out BK549.out (by decide)) (fun _ hk => hk.2) (.slice Ao78 t552.length co78)) (fun _ hk => hk.2) (.slice Ao80 t555.length co80)) (fun _ h_ => h_.1))))) (Kd.R_lt (pR (Kd.R_mono (Kd.R_far (p := ⟨gb549, 1, none⟩) (Kd.R_far (p := ⟨gb549, 0, none⟩) (Kd.R_types HO554.out BK549.out (by decide)) (fun _ hk => hk.2) (.slice Ao78 t552.length co78)) (fun _ hk => hk.2) (.slice Ao80 t555.length co80)) (fun _ h_ => h_.1))))) (below_size (by repeat (first | (with_reducible first | exact HB.out | apply below_alloc | apply pw_below_drewN | apply below_drew1 | refine below_set ?_ GE524.out | refine below_set ?_ GE533.out | refine below_set ?_ GE541.out | refine below_set ?_ GE549.out) | exact HB.out)))); have n11_ := Aside0.mk (Kd.R_lower (Kd.R_new' (Kd.R_new' (Kd.R_new' (Kd.R_new' (Kd.R_new' ho1 (Kd.R_lt (pR (Kd.R_mono (Kd.R_far (p := ⟨gb549, 1, none⟩) (Kd.R_far (p := ⟨gb549, 0, none⟩) (Kd.R_types HO_525001.out BK549.out (by decide)) (fun _ hk => hk.2) (.slice Ao78 t552.length co78)) (fun _ hk => hk.2) (.slice Ao80 t555.length co80)) (fun _ h_ => h_.1))))) (Kd.R_lt (pR (Kd.R_mono (Kd.R_far (p := ⟨gb549, 1, none⟩) (Kd.R_far (p := ⟨gb549, 0, none⟩) (Kd.R_types HO_534001.out BK549.out (by decide)) (fun _ hk => hk.2) (.slice Ao78 t552.length co78)) (fun _ hk => hk.2) (.slice Ao80 t555.length co80)) (fun _ h_ => h_.1))))) (Kd.R_lt (pR (Kd.R_mono (Kd.R_far (p := ⟨gb549, 1, none⟩) (Kd.R_far (p := ⟨gb549, 0, none⟩) (Kd.R_types HO_542001.out BK549.out (by decide)) (fun _ hk => hk.2) (.slice Ao78 t552.length co78)) (fun _ hk => hk.2) (.slice Ao80 t555.length co80)) (fun _ h_ => h_.1))))) (Kd.R_lt (pR (Kd.R_mono (Kd.R_far (p := ⟨gb549, 1, none⟩) (Kd.R_far (p := ⟨gb549, 0, none⟩) (Kd.R_types HO_550001.out BK549.out (by decide)) (fun _ hk => hk.2) (.slice Ao78 t552.length co78)) (fun _ hk => hk.2) (.slice Ao80 t555.length co80)) (fun _ h_ => h_.1))))) (Kd.R_lt (pR (Kd.R_mono (Kd.R_far (p := ⟨gb549, 1, none⟩) (Kd.R_far (p := ⟨gb549, 0, none⟩) (Kd.R_types HO557.out BK549.out (by decide)) (fun _ hk => hk.2) (.slice Ao78 t552.length co78)) (fun _ hk => hk.2) (.slice Ao80 t555.length co80)) (fun _ h_ => h_.1))))) (below_size (by repeat (first | (with_reducible first | exact HB.out | apply below_alloc | apply pw_below_drewN | apply below_drew1 | refine below_set ?_ GE524.out | refine below_set ?_ GE533.out | refine below_set ?_ GE541.out | refine below_set ?_ GE549.out) | exact HB.out)))); have n12_ := Aside0.mk (blk_below (g := gb524) (o := .cells #[.slice Ao13 t516.length co13, .slice Ao15 t519.length co15] 26 (0, 0)) (by (with_reducible repeat (first | refine blk_drewN ?_ _ | refine blk_drew ?_ | refine blk_alloc ?_ _)); refine blk_far ?_ NB524_549.out _; (with_reducible repeat (first | refine blk_drewN ?_ _ | refine blk_drew ?_ | refine blk_alloc ?_ _)); refine blk_far ?_ NB524_549.out _; (with_reducible repeat (first | refine blk_drewN ?_ _ | refine blk_drew ?_ | refine blk_alloc ?_ _)); exact BK524.out) hb); have n13_ := Aside0.mk (blk_below (g := gb533) (o := .cells #[.slice Ao18 t525.length co18, .slice Ao21 t528.length co21] 26 (0, 0)) (by (with_reducible repeat (first | refine blk_drewN ?_ _ | refine blk_drew ?_ | refine blk_alloc ?_ _)); refine blk_far ?_ NB533_549.out _; (with_reducible repeat (first | refine blk_drewN ?_ _ | refine blk_drew ?_ | refine blk_alloc ?_ _)); refine blk_far ?_ NB533_549.out _; (with_reducible repeat (first | refine blk_drewN ?_ _ | refine blk_drew ?_ | refine blk_alloc ?_ _)); exact BK533.out) hb); have n14_ := Aside0.mk (blk_below (g := gb541) (o := .cells #[.slice Ao25 t534.length co25, .slice Ao29 t537.length co29] 26 (0, 0)) (by (with_reducible repeat (first | refine blk_drewN ?_ _ | refine blk_drew ?_ | refine blk_alloc ?_ _)); refine blk_far ?_ NB541_549.out _; (with_reducible repeat (first | refine blk_drewN ?_ _ | refine blk_drew ?_ | refine blk_alloc ?_ _)); refine blk_far ?_ NB541_549.out _; (with_reducible repeat (first | refine blk_drewN ?_ _ | refine blk_drew ?_ | refine blk_alloc ?_ _)); exact BK541.out) hb); have n15_ := Aside0.mk (blk_below (g := gb549) (o := .cells #[.slice Ao78 t552.length co78, .slice Ao80 t555.length co80] 26 (0, 0)) (by (with_reducible repeat (first | refine blk_drewN ?_ _ | refine blk_drew ?_ | refine blk_alloc ?_ _)); refine blk_put (cs := #[.slice Ao78 t552.length co78, .slice Ao38 t545.length co38]) ?_ 1 _ rfl; (with_reducible repeat (first | refine blk_drewN ?_ _ | refine blk_drew ?_ | refine blk_alloc ?_ _)); refine blk_put (cs := #[.slice Ao33 t542.length co33, .slice Ao38 t545.length co38]) ?_ 0 _ rfl; (with_reducible repeat (first | refine blk_drewN ?_ _ | refine blk_drew ?_ | refine blk_alloc ?_ _)); exact BK549.out) hb); have n16_ := Aside0.mk (below_step (by repeat (first | (with_reducible first | exact HB.out | apply below_alloc | apply pw_below_drewN | apply below_drew1 | refine below_set ?_ GE524.out | refine below_set ?_ GE533.out | refine below_set ?_ GE541.out | refine below_set ?_ GE549.out) | exact HB.out)) hb); clear HO_525000; clear HO_525001; clear HO_534000; clear HO_534001; clear HO_542000; clear HO_542001; clear HO_550000; clear HO_550001; clear HO554; clear HO557; clear BK524; clear BK533; clear BK541; clear BK549; clear HB; have HO_525000 := n0_; have HO_525001 := n1_; have HO_534000 := n2_; have HO_534001 := n3_; have HO_542000 := n4_; have HO_542001 := n5_; have HO_550000 := n6_; have HO_550001 := n7_; have HO554 := n8_; have HO557 := n9_; have HO561 := n10_; have HO564 := n11_; have BK524 := n12_; have BK533 := n13_; have BK541 := n14_; have BK549 := n15_; have HB := n16_; clear n0_ n1_ n2_ n3_ n4_ n5_ n6_ n7_ n8_ n9_ n10_ n11_ n12_ n13_ n14_ n15_ n16_; (try clear hb); (try clear hb2); (try clear hk); (try clear hi); (try clear ho0); (try clear ho1)) | ((with_reducible refine gate_dst (N := 16) rfl ?_); (try (refine gate_guard (by rfl) ?_; dsimp only)); refine box_event ?hg (N := 16) ?hd (cs := #[.slice none 0 0, .slice none 0 0]) (t := 26) ?hr ?_; (case hd => rfl); (case hg => rfl); (case hr => first | (go_simp; done) | (go_simp; rfl)); intro gb566 hg w85 hbox hb; have n0_ := Aside0.mk (Kd.R_below (pR HO_525000.out) hb); have n1_ := Aside0.mk (Kd.R_below (pR HO_525001.out) hb); have n2_ := Aside0.mk (Kd.R_below (pR HO_534000.out) hb); have n3_ := Aside0.mk (Kd.R_below (pR HO_534001.out) hb); have n4_ := Aside0.mk (Kd.R_below (pR HO_542000.out) hb); have n5_ := Aside0.mk (Kd.R_below (pR HO_542001.out) hb); have n6_ := Aside0.mk (Kd.R_below (pR HO_550000.out) hb); have n7_ := Aside0.mk (Kd.R_below (pR HO_550001.out) hb); have n8_ := Aside0.mk (Kd.R_below (pR HO554.out) hb); have n9_ := Aside0.mk (Kd.R_below (pR HO557.out) hb); have n10_ := Aside0.mk (Kd.R_below (pR HO561.out) hb); have n11_ := Aside0.mk (Kd.R_below (pR HO564.out) hb); have n12_ := Aside0.mk (blk_below (g := gb524) (o := .cells #[.slice Ao13 t516.length co13, .slice Ao15 t519.length co15] 26 (0, 0)) (pK BK524.out) hb); have n13_ := Aside0.mk (blk_below (g := gb533) (o := .cells #[.slice Ao18 t525.length co18, .slice Ao21 t528.length co21] 26 (0, 0)) (pK BK533.out) hb); have n14_ := Aside0.mk (blk_below (g := gb541) (o := .cells #[.slice Ao25 t534.length co25, .slice Ao29 t537.length co29] 26 (0, 0)) (pK BK541.out) hb); have n15_ := Aside0.mk (blk_below (g := gb549) (o := .cells #[.slice Ao78 t552.length co78, .slice Ao80 t555.length co80] 26 (0, 0)) (pK BK549.out) hb); have n16_ := Aside0.mk (below_step (by repeat (first | (with_reducible first | exact HB.out | apply below_alloc | apply pw_below_drewN | apply below_drew1 | refine below_set ?_ GE524.out | refine below_set ?_ GE533.out | refine below_set ?_ GE541.out | refine below_set ?_ GE549.out) | exact HB.out)) hb); have n17_ := Aside0.mk (hbox); have n18_ := Aside0.mk ((by rw [hg]; exact (below_size (by repeat (first | (with_reducible first | exact HB.out | apply below_alloc | apply pw_below_drewN | apply below_drew1 | refine below_set ?_ GE524.out | refine below_set ?_ GE533.out | refine below_set ?_ GE541.out | refine below_set ?_ GE549.out) | exact HB.out))) : w.heap.size ≤ gb566)); have n19_ := Aside0.mk ((by rw [hg]; exact (below_size (by repeat (first | (with_reducible first | exact HB.out | apply below_alloc | apply pw_below_drewN | apply below_drew1 | refine below_set ?_ GE524.out | refine below_set ?_ GE533.out | refine below_set ?_ GE541.out | refine below_set ?_ GE549.out) | exact HB.out))) : w.heap.size ≤ gb566)); have n20_ := Aside0.mk ((by rw [hg]; exact Nat.ne_of_lt (blk_lt (g := gb524) (o := .cells #[.slice Ao13 t516.length co13, .slice Ao15 t519.length co15] 26 (0, 0)) (pK BK524.out)) : gb524 ≠ gb566)); have n21_ := Aside0.mk ((by rw [hg]; exact Nat.ne_of_gt (blk_lt (g := gb524) (o := .cells #[.slice Ao13 t516.length co13, .slice Ao15 t519.length co15] 26 (0, 0)) (pK BK524.out)) : gb566 ≠ gb524)); have n22_ := Aside0.mk ((by rw [hg]; exact Nat.ne_of_lt (blk_lt (g := gb533) (o := .cells #[.slice Ao18 t525.length co18, .slice Ao21 t528.length co21] 26 (0, 0)) (pK BK533.out)) : gb533 ≠ gb566)); have n23_ := Aside0.mk ((by rw [hg]; exact Nat.ne_of_gt (blk_lt (g := gb533) (o := .cells #[.slice Ao18 t525.length co18, .slice Ao21 t528.length co21] 26 (0, 0)) (pK BK533.out)) : gb566 ≠ gb533)); have n24_ := Aside0.mk ((by rw [hg]; exact Nat.ne_of_lt (blk_lt (g := gb541) (o := .cells #[.slice Ao25 t534.length co25, .slice Ao29 t537.length co29] 26 (0, 0)) (pK BK541.out)) : gb541 ≠ gb566)); have n25_ := Aside0.mk ((by rw [hg]; exact Nat.ne_of_gt (blk_lt (g := gb541) (o := .cells #[.slice Ao25 t534.length co25, .slice Ao29 t537.length co29] 26 (0, 0)) (pK BK541.out)) : gb566 ≠ gb541)); have n26_ := Aside0.mk ((by rw [hg]; exact Nat.ne_of_lt (blk_lt (g := gb549) (o := .cells #[.slice Ao78 t552.length co78, .slice Ao80 t555.length co80] 26 (0, 0)) (pK BK549.out)) : gb549 ≠ gb566)); have n27_ := Aside0.mk ((by rw [hg]; exact Nat.ne_of_gt (blk_lt (g := gb549) (o := .cells #[.slice Ao78 t552.length co78, .slice Ao80 t555.length co80] 26 (0, 0)) (pK BK549.out)) : gb566 ≠ gb549)); clear HO_525000; clear HO_525001; clear HO_534000; clear HO_534001; clear HO_542000; clear HO_542001; clear HO_550000; clear HO_550001; clear HO554; clear HO557; clear HO561; clear HO564; clear BK524; clear BK533; clear BK541; clear BK549; clear HB; have HO_525000 := n0_; have HO_525001 := n1_; have HO_534000 := n2_; have HO_534001 := n3_; have HO_542000 := n4_; have HO_542001 := n5_; have HO_550000 := n6_; have HO_550001 := n7_; have HO554 := n8_; have HO557 := n9_; have HO561 := n10_; have HO564 := n11_; have BK524 := n12_; have BK533 := n13_; have BK541 := n14_; have BK549 := n15_; have HB := n16_; have BK566 := n17_; have GW566 := n18_; have GE566 := n19_; have NB524_566 := n20_; have NB566_524 := n21_; have NB533_566 := n22_; have NB566_533 := n23_; have NB541_566 := n24_; have NB566_541 := n25_; have NB549_566 := n26_; have NB566_549 := n27_; clear n0_ n1_ n2_ n3_ n4_ n5_ n6_ n7_ n8_ n9_ n10_ n11_ n12_ n13_ n14_ n15_ n16_ n17_ n18_ n19_ n20_ n21_ n22_ n23_ n24_ n25_ n26_ n27_; clear hb hbox hg; obtain ⟨Ao86, co86, eo86⟩ := Kd.R_slice HO561.out; subst eo86; have hnb87 := NB566_524.out; have hnc87 := NB524_566.out; have hnb88 := NB566_533.out; have hnc88 := NB533_566.out; have hnb89 := NB566_541.out; have hnc89 := NB541_566.out; have hnb90 := NB566_549.out; have hnc90 := NB549_566.out; have hcz91_0 : w85.cell? ⟨gb566, 0, none⟩ = some (.slice none 0 0) := (blk_cell BK566.out 0).trans rfl; have hcz91_1 : w85.cell? ⟨gb566, 1, none⟩ = some (.slice none 0 0) := (blk_cell BK566.out 1).trans rfl; have hfz91_0 := blk_frozen BK566.out 0; have hfz91_1 := blk_frozen BK566.out 1; obtain ⟨Ao92, co92, eo92⟩ := Kd.R_slice HO564.out; subst eo92) | ((with_reducible refine gate_callee (f := 30) rfl ?_); refine goesL_ (some 93) rfl rfl Try.func30 (by kernel_rfl) rfl #[.agg #[.slice Ao86 t559.length co86, .slice Ao92 t562.length co92], .int .i64 t522, .string t523] rfl bM ?_; (with_reducible refine (impl_SecPut.calls kj9 _ _ t559 _ _ t562 t522 t523 t567 t570 t573 _ ?side1 ?side2 ?side3 ?side4 A71.out).mono ?_); (case side1 => refine (Kd.R_reads' (e := 9) (base := w.heap.size) (ok := fun k_ => (((((True ∧ some k_ ≠ (.slice Ao13 t516.length co13 : Value).ownBlock) ∧ some k_ ≠ (.slice Ao18 t525.length co18 : Value).ownBlock) ∧ some k_ ≠ (.slice Ao25 t534.length co25 : Value).ownBlock) ∧ some k_ ≠ (.slice Ao33 t542.length co33 : Value).ownBlock) ∧ some k_ ≠ (.slice Ao78 t552.length co78 : Value).ownBlock)) (n := t559.length) (c := co86) ?_).2.2; exact (pR (Kd.R_mono (Kd.R_far (p := ⟨gb566, 1, none⟩) (Kd.R_far (p := ⟨gb566, 0, none⟩) (Kd.R_types HO561.out BK566.out (by decide)) (fun _ hk => hk.2) (.slice Ao86 t559.length co86)) (fun _ hk => hk.2) (.slice Ao92 t562.length co92)) (fun _ h_ => h_.1)))); (case side2 => exact (Kd.R_reads' HO561.out).2.1); (case side3 => refine (Kd.R_reads' (e := 54) (base := w.heap.size) (ok := fun k_ => (((((True ∧ some k_ ≠ (.slice Ao15 t519.length co15 : Value).ownBlock) ∧ some k_ ≠ (.slice Ao21 t528.length co21 : Value).ownBlock) ∧ some k_ ≠ (.slice Ao29 t537.length co29 : Value).ownBlock) ∧ some k_ ≠ (.slice Ao38 t545.length co38 : Value).ownBlock) ∧ some k_ ≠ (.slice Ao80 t555.length co80 : Value).ownBlock)) (n := t562.length) (c := co92) ?_).2.2; exact (pR (Kd.R_mono (Kd.R_far (p := ⟨gb566, 1, none⟩) (Kd.R_far (p := ⟨gb566, 0, none⟩) (Kd.R_types HO564.out BK566.out (by decide)) (fun _ hk => hk.2) (.slice Ao86 t559.length co86)) (fun _ hk => hk.2) (.slice Ao92 t562.length co92)) (fun _ h_ => h_.1)))); (case side4 => exact (Kd.R_reads' HO564.out).2.1); rintro e w93 ⟨v568, v571, rfl, ho0, ho1, hb⟩; refine ⟨_, rfl, ?_⟩; have n0_ := Aside0.mk (Kd.R_elder' (pR (Kd.R_mono (Kd.R_far (p := ⟨gb566, 1, none⟩) (Kd.R_far (p := ⟨gb566, 0, none⟩) (Kd.R_types HO_525000.out BK566.out (by decide)) (fun _ hk => hk.2) (.slice Ao86 t559.length co86)) (fun _ hk => hk.2) (.slice Ao92 t562.length co92)) (fun _ h_ => h_.1))) (Kd.R_base ho0) hb); have n1_ := Aside0.mk (Kd.R_elder' (pR (Kd.R_mono (Kd.R_far (p := ⟨gb566, 1, none⟩) (Kd.R_far (p := ⟨gb566, 0, none⟩) (Kd.R_types HO_525001.out BK566.out (by decide)) (fun _ hk => hk.2) (.slice Ao86 t559.length co86)) (fun _ hk => hk.2) (.slice Ao92 t562.length co92)) (fun _ h_ => h_.1))) (Kd.R_base ho1) hb); have n2_ := Aside0.mk (Kd.R_elder' (pR (Kd.R_mono (Kd.R_far (p := ⟨gb566, 1, none⟩) (Kd.R_far (p := ⟨gb566, 0, none⟩) (Kd.R_types HO_534000.out BK566.out (by decide)) (fun _ hk => hk.2) (.slice Ao86 t559.length co86)) (fun _ hk => hk.2) (.slice Ao92 t562.length co92)) (fun _ h_ => h_.1))) (Kd.R_base ho0) hb); have n3_ := Aside0.mk (Kd.R_elder' (pR (Kd.R_mono (Kd.R_far (p := ⟨gb566, 1, none⟩) (Kd.R_far (p := ⟨gb566, 0, none⟩) (Kd.R_types HO_534001.out BK566.out (by decide)) (fun _ hk => hk.2) (.slice Ao86 t559.length co86)) (fun _ hk => hk.2) (.slice Ao92 t562.length co92)) (fun _ h_ => h_.1))) (Kd.R_base ho1) hb); have n4_ := Aside0.mk (Kd.R_elder' (pR (Kd.R_mono (Kd.R_far (p := ⟨gb566, 1, none⟩) (Kd.R_far (p := ⟨gb566, 0, none⟩) (Kd.R_types HO_542000.out BK566.out (by decide)) (fun _ hk => hk.2) (.slice Ao86 t559.length co86)) (fun _ hk => hk.2) (.slice Ao92 t562.length co92)) (fun _ h_ => h_.1))) (Kd.R_base ho0) hb); have n5_ := Aside0.mk (Kd.R_elder' (pR (Kd.R_mono (Kd.R_far (p := ⟨gb566, 1, none⟩) (Kd.R_far (p := ⟨gb566, 0, none⟩) (Kd.R_types HO_542001.out BK566.out (by decide)) (fun _ hk => hk.2) (.slice Ao86 t559.length co86)) (fun _ hk => hk.2) (.slice Ao92 t562.length co92)) (fun _ h_ => h_.1))) (Kd.R_base ho1) hb); have n6_ := Aside0.mk (Kd.R_elder' (pR (Kd.R_mono (Kd.R_far (p := ⟨gb566, 1, none⟩) (Kd.R_far (p := ⟨gb566, 0, none⟩) (Kd.R_types HO_550000.out BK566.out (by decide)) (fun _ hk => hk.2) (.slice Ao86 t559.length co86)) (fun _ hk => hk.2) (.slice Ao92 t562.length co92)) (fun _ h_ => h_.1))) (Kd.R_base ho0) hb); have n7_ := Aside0.mk (Kd.R_elder' (pR (Kd.R_mono (Kd.R_far (p := ⟨gb566, 1, none⟩) (Kd.R_far (p := ⟨gb566, 0, none⟩) (Kd.R_types HO_550001.out BK566.out (by decide)) (fun _ hk => hk.2) (.slice Ao86 t559.length co86)) (fun _ hk => hk.2) (.slice Ao92 t562.length co92)) (fun _ h_ => h_.1))) (Kd.R_base ho1) hb); have n8_ := Aside0.mk (Kd.R_elder' (pR (Kd.R_mono (Kd.R_far (p := ⟨gb566, 1, none⟩) (Kd.R_far (p := ⟨gb566, 0, none⟩) (Kd.R_types HO554.out BK566.out (by decide)) (fun _ hk => hk.2) (.slice Ao86 t559.length co86)) (fun _ hk => hk.2) (.slice Ao92 t562.length co92)) (fun _ h_ => h_.1))) (Kd.R_base ho0) hb); have n9_ := Aside0.mk (Kd.R_elder' (pR (Kd.R_mono (Kd.R_far (p := ⟨gb566, 1, none⟩) (Kd.R_far (p := ⟨gb566, 0, none⟩) (Kd.R_types HO557.out BK566.out (by decide)) (fun _ hk => hk.2) (.slice Ao86 t559.length co86)) (fun _ hk => hk.2) (.slice Ao92 t562.length co92)) (fun _ h_ => h_.1))) (Kd.R_base ho1) hb); have n10_ := Aside0.mk (Kd.R_elder' (pR (Kd.R_mono (Kd.R_far (p := ⟨gb566, 1, none⟩) (Kd.R_far (p := ⟨gb566, 0, none⟩) (Kd.R_types HO561.out BK566.out (by decide)) (fun _ hk => hk.2) (.slice Ao86 t559.length co86)) (fun _ hk => hk.2) (.slice Ao92 t562.length co92)) (fun _ h_ => h_.1))) (Kd.R_base ho0) hb); have n11_ := Aside0.mk (Kd.R_elder' (pR (Kd.R_mono (Kd.R_far (p := ⟨gb566, 1, none⟩) (Kd.R_far (p := ⟨gb566, 0, none⟩) (Kd.R_types HO564.out BK566.out (by decide)) (fun _ hk => hk.2) (.slice Ao86 t559.length co86)) (fun _ hk => hk.2) (.slice Ao92 t562.length co92)) (fun _ h_ => h_.1))) (Kd.R_base ho1) hb); have n12_ := Aside0.mk (Kd.R_lower (Kd.R_new' (Kd.R_new' (Kd.R_new' (Kd.R_new' (Kd.R_new' (Kd.R_new' ho0 (Kd.R_lt (pR (Kd.R_mono (Kd.R_far (p := ⟨gb566, 1, none⟩) (Kd.R_far (p := ⟨gb566, 0, none⟩) (Kd.R_types HO_525000.out BK566.out (by decide)) (fun _ hk => hk.2) (.slice Ao86 t559.length co86)) (fun _ hk => hk.2) (.slice Ao92 t562.length co92)) (fun _ h_ => h_.1))))) (Kd.R_lt (pR (Kd.R_mono (Kd.R_far (p := ⟨gb566, 1, none⟩) (Kd.R_far (p := ⟨gb566, 0, none⟩) (Kd.R_types HO_534000.out BK566.out (by decide)) (fun _ hk => hk.2) (.slice Ao86 t559.length co86)) (fun _ hk => hk.2) (.slice Ao92 t562.length co92)) (fun _ h_ => h_.1))))) (Kd.R_lt (pR (Kd.R_mono (Kd.R_far (p := ⟨gb566, 1, none⟩) (Kd.R_far (p := ⟨gb566, 0, none⟩) (Kd.R_types HO_542000.out BK566.out (by decide)) (fun _ hk => hk.2) (.slice Ao86 t559.length co86)) (fun _ hk => hk.2) (.slice Ao92 t562.length co92)) (fun _ h_ => h_.1))))) (Kd.R_lt (pR (Kd.R_mono (Kd.R_far (p := ⟨gb566, 1, none⟩) (Kd.R_far (p := ⟨gb566, 0, none⟩) (Kd.R_types HO_550000.out BK566.out (by decide)) (fun _ hk => hk.2) (.slice Ao86 t559.length co86)) (fun _ hk => hk.2) (.slice Ao92 t562.length co92)) (fun _ h_ => h_.1))))) (Kd.R_lt (pR (Kd.R_mono (Kd.R_far (p := ⟨gb566, 1, none⟩) (Kd.R_far (p := ⟨gb566, 0, none⟩) (Kd.R_types HO554.out BK566.out (by decide)) (fun _ hk => hk.2) (.slice Ao86 t559.length co86)) (fun _ hk => hk.2) (.slice Ao92 t562.length co92)) (fun _ h_ => h_.1))))) (Kd.R_lt (pR (Kd.R_mono (Kd.R_far (p := ⟨gb566, 1, none⟩) (Kd.R_far (p := ⟨gb566, 0, none⟩) (Kd.R_types HO561.out BK566.out (by decide)) (fun _ hk => hk.2) (.slice Ao86 t559.length co86)) (fun _ hk => hk.2) (.slice Ao92 t562.length co92)) (fun _ h_ => h_.1))))) (below_size (by repeat (first | (with_reducible first | exact HB.out | apply below_alloc | apply pw_below_drewN | apply below_drew1 | refine below_set ?_ GE524.out | refine below_set ?_ GE533.out | refine below_set ?_ GE541.out | refine below_set ?_ GE549.out | refine below_set ?_ GE566.out) | exact HB.out)))); have n13_ := Aside0.mk (Kd.R_lower (Kd.R_new' (Kd.R_new' (Kd.R_new' (Kd.R_new' (Kd.R_new' (Kd.R_new' ho1 (Kd.R_lt (pR (Kd.R_mono (Kd.R_far (p := ⟨gb566, 1, none⟩) (Kd.R_far (p := ⟨gb566, 0, none⟩) (Kd.R_types HO_525001.out BK566.out (by decide)) (fun _ hk => hk.2) (.slice Ao86 t559.length co86)) (fun _ hk => hk.2) (.slice Ao92 t562.length co92)) (fun _ h_ => h_.1))))) (Kd.R_lt (pR (Kd.R_mono (Kd.R_far (p := ⟨gb566, 1, none⟩) (Kd.R_far (p := ⟨gb566, 0, none⟩) (Kd.R_types HO_534001.out BK566.out (by decide)) (fun _ hk => hk.2) (.slice Ao86 t559.length co86)) (fun _ hk => hk.2) (.slice Ao92 t562.length co92)) (fun _ h_ => h_.1))))) (Kd.R_lt (pR (Kd.R_mono (Kd.R_far (p := ⟨gb566, 1, none⟩) (Kd.R_far (p := ⟨gb566, 0, none⟩) (Kd.R_types HO_542001.out BK566.out (by decide)) (fun _ hk => hk.2) (.slice Ao86 t559.length co86)) (fun _ hk => hk.2) (.slice Ao92 t562.length co92)) (fun _ h_ => h_.1))))) (Kd.R_lt (pR (Kd.R_mono (Kd.R_far (p := ⟨gb566, 1, none⟩) (Kd.R_far (p := ⟨gb566, 0, none⟩) (Kd.R_types HO_550001.out BK566.out (by decide)) (fun _ hk => hk.2) (.slice Ao86 t559.length co86)) (fun _ hk => hk.2) (.slice Ao92 t562.length co92)) (fun _ h_ => h_.1))))) (Kd.R_lt (pR (Kd.R_mono (Kd.R_far (p := ⟨gb566, 1, none⟩) (Kd.R_far (p := ⟨gb566, 0, none⟩) (Kd.R_types HO557.out BK566.out (by decide)) (fun _ hk => hk.2) (.slice Ao86 t559.length co86)) (fun _ hk => hk.2) (.slice Ao92 t562.length co92)) (fun _ h_ => h_.1))))) (Kd.R_lt (pR (Kd.R_mono (Kd.R_far (p := ⟨gb566, 1, none⟩) (Kd.R_far (p := ⟨gb566, 0, none⟩) (Kd.R_types HO564.out BK566.out (by decide)) (fun _ hk => hk.2) (.slice Ao86 t559.length co86)) (fun _ hk => hk.2) (.slice Ao92 t562.length co92)) (fun _ h_ => h_.1))))) (below_size (by repeat (first | (with_reducible first | exact HB.out | apply below_alloc | apply pw_below_drewN | apply below_drew1 | refine below_set ?_ GE524.out | refine below_set ?_ GE533.out | refine below_set ?_ GE541.out | refine below_set ?_ GE549.out | refine below_set ?_ GE566.out) | exact HB.out)))); have n14_ := Aside0.mk (blk_below (g := gb524) (o := .cells #[.slice Ao13 t516.length co13, .slice Ao15 t519.length co15] 26 (0, 0)) (by (with_reducible repeat (first | refine blk_drewN ?_ _ | refine blk_drew ?_ | refine blk_alloc ?_ _)); refine blk_far ?_ NB524_566.out _; (with_reducible repeat (first | refine blk_drewN ?_ _ | refine blk_drew ?_ | refine blk_alloc ?_ _)); refine blk_far ?_ NB524_566.out _; (with_reducible repeat (first | refine blk_drewN ?_ _ | refine blk_drew ?_ | refine blk_alloc ?_ _)); exact BK524.out) hb); have n15_ := Aside0.mk (blk_below (g := gb533) (o := .cells #[.slice Ao18 t525.length co18, .slice Ao21 t528.length co21] 26 (0, 0)) (by (with_reducible repeat (first | refine blk_drewN ?_ _ | refine blk_drew ?_ | refine blk_alloc ?_ _)); refine blk_far ?_ NB533_566.out _; (with_reducible repeat (first | refine blk_drewN ?_ _ | refine blk_drew ?_ | refine blk_alloc ?_ _)); refine blk_far ?_ NB533_566.out _; (with_reducible repeat (first | refine blk_drewN ?_ _ | refine blk_drew ?_ | refine blk_alloc ?_ _)); exact BK533.out) hb); have n16_ := Aside0.mk (blk_below (g := gb541) (o := .cells #[.slice Ao25 t534.length co25, .slice Ao29 t537.length co29] 26 (0, 0)) (by (with_reducible repeat (first | refine blk_drewN ?_ _ | refine blk_drew ?_ | refine blk_alloc ?_ _)); refine blk_far ?_ NB541_566.out _; (with_reducible repeat (first | refine blk_drewN ?_ _ | refine blk_drew ?_ | refine blk_alloc ?_ _)); refine blk_far ?_ NB541_566.out _; (with_reducible repeat (first | refine blk_drewN ?_ _ | refine blk_drew ?_ | refine blk_alloc ?_ _)); exact BK541.out) hb); have n17_ := Aside0.mk (blk_below (g := gb549) (o := .cells #[.slice Ao78 t552.length co78, .slice Ao80 t555.length co80] 26 (0, 0)) (by (with_reducible repeat (first | refine blk_drewN ?_ _ | refine blk_drew ?_ | refine blk_alloc ?_ _)); refine blk_far ?_ NB549_566.out _; (with_reducible repeat (first | refine blk_drewN ?_ _ | refine blk_drew ?_ | refine blk_alloc ?_ _)); refine blk_far ?_ NB549_566.out _; (with_reducible repeat (first | refine blk_drewN ?_ _ | refine blk_drew ?_ | refine blk_alloc ?_ _)); exact BK549.out) hb); have n18_ := Aside0.mk (blk_below (g := gb566) (o := .cells #[.slice Ao86 t559.length co86, .slice Ao92 t562.length co92] 26 (0, 0)) (by (with_reducible repeat (first | refine blk_drewN ?_ _ | refine blk_drew ?_ | refine blk_alloc ?_ _)); refine blk_put (cs := #[.slice Ao86 t559.length co86, .slice none 0 0]) ?_ 1 _ rfl; (with_reducible repeat (first | refine blk_drewN ?_ _ | refine blk_drew ?_ | refine blk_alloc ?_ _)); refine blk_put (cs := #[.slice none 0 0, .slice none 0 0]) ?_ 0 _ rfl; (with_reducible repeat (first | refine blk_drewN ?_ _ | refine blk_drew ?_ | refine blk_alloc ?_ _)); exact BK566.out) hb); have n19_ := Aside0.mk (below_step (by repeat (first | (with_reducible first | exact HB.out | apply below_alloc | apply pw_below_drewN | apply below_drew1 | refine below_set ?_ GE524.out | refine below_set ?_ GE533.out | refine below_set ?_ GE541.out | refine below_set ?_ GE549.out | refine below_set ?_ GE566.out) | exact HB.out)) hb); clear HO_525000; clear HO_525001; clear HO_534000; clear HO_534001; clear HO_542000; clear HO_542001; clear HO_550000; clear HO_550001; clear HO554; clear HO557; clear HO561; clear HO564; clear BK524; clear BK533; clear BK541; clear BK549; clear BK566; clear HB; have HO_525000 := n0_; have HO_525001 := n1_; have HO_534000 := n2_; have HO_534001 := n3_; have HO_542000 := n4_; have HO_542001 := n5_; have HO_550000 := n6_; have HO_550001 := n7_; have HO554 := n8_; have HO557 := n9_; have HO561 := n10_; have HO564 := n11_; have HO569 := n12_; have HO572 := n13_; have BK524 := n14_; have BK533 := n15_; have BK541 := n16_; have BK549 := n17_; have BK566 := n18_; have HB := n19_; clear n0_ n1_ n2_ n3_ n4_ n5_ n6_ n7_ n8_ n9_ n10_ n11_ n12_ n13_ n14_ n15_ n16_ n17_ n18_ n19_; (try clear hb); (try clear hb2); (try clear hk); (try clear hi); (try clear ho0); (try clear ho1); obtain ⟨Ao94, co94, eo94⟩ := Kd.R_slice HO569.out; subst eo94; have hcz95_0 : w93.cell? ⟨gb566, 0, none⟩ = some (.slice Ao86 t559.length co86) := (blk_cell BK566.out 0).trans rfl; have hcz95_1 : w93.cell? ⟨gb566, 1, none⟩ = some (.slice Ao92 t562.length co92) := (blk_cell BK566.out 1).trans rfl; have hfz95_0 := blk_frozen BK566.out 0; have hfz95_1 := blk_frozen BK566.out 1; obtain ⟨Ao96, co96, eo96⟩ := Kd.R_slice HO572.out; subst eo96))
       (try simp only [Act.put, List.setIfInBounds_toArray, List.set_cons_zero, List.set_cons_succ])
       go_cut [109] (fun v109 wc => ∃ (kq : Nat) (x109_71 : Bool), v109 = .bool x109_71 ∧ Aside0 (laws_FnSecSwap.j2 kq x109_71 t552 t555 t567 t570 = some r) ∧ Aside0 (kq ≤ kj9) ∧ Aside0 (Kd.R Kd.string 9 wc w.heap.size (fun k_ => some k_ ≠ ((.slice Ao18 t525.length co18) : Value).ownBlock ∧ some k_ ≠ ((.slice Ao25 t534.length co25) : Value).ownBlock ∧ some k_ ≠ ((.slice Ao78 t552.length co78) : Value).ownBlock ∧ some k_ ≠ ((.slice Ao94 t567.length co94) : Value).ownBlock) (.slice Ao13 t516.length co13) t516) ∧ Aside0 (Kd.R k54 54 wc w.heap.size (fun k_ => some k_ ≠ ((.slice Ao21 t528.length co21) : Value).ownBlock ∧ some k_ ≠ ((.slice Ao29 t537.length co29) : Value).ownBlock ∧ some k_ ≠ ((.slice Ao80 t555.length co80) : Value).ownBlock ∧ some k_ ≠ ((.slice Ao96 t570.length co96) : Value).ownBlock) (.slice Ao15 t519.length co15) t519) ∧ Aside0 (Kd.R Kd.string 9 wc w.heap.size (fun k_ => some k_ ≠ ((.slice Ao13 t516.length co13) : Value).ownBlock ∧ some k_ ≠ ((.slice Ao25 t534.length co25) : Value).ownBlock ∧ some k_ ≠ ((.slice Ao78 t552.length co78) : Value).ownBlock ∧ some k_ ≠ ((.slice Ao94 t567.length co94) : Value).ownBlock) (.slice Ao18 t525.length co18) t525) ∧ Aside0 (Kd.R k54 54 wc w.heap.size (fun k_ => some k_ ≠ ((.slice Ao15 t519.length co15) : Value).ownBlock ∧ some k_ ≠ ((.slice Ao29 t537.length co29) : Value).ownBlock ∧ some k_ ≠ ((.slice Ao80 t555.length co80) : Value).ownBlock ∧ some k_ ≠ ((.slice Ao96 t570.length co96) : Value).ownBlock) (.slice Ao21 t528.length co21) t528) ∧ Aside0 (Kd.R Kd.string 9 wc w.heap.size (fun k_ => some k_ ≠ ((.slice Ao13 t516.length co13) : Value).ownBlock ∧ some k_ ≠ ((.slice Ao18 t525.length co18) : Value).ownBlock ∧ some k_ ≠ ((.slice Ao78 t552.length co78) : Value).ownBlock ∧ some k_ ≠ ((.slice Ao94 t567.length co94) : Value).ownBlock) (.slice Ao25 t534.length co25) t534) ∧ Aside0 (Kd.R k54 54 wc w.heap.size (fun k_ => some k_ ≠ ((.slice Ao15 t519.length co15) : Value).ownBlock ∧ some k_ ≠ ((.slice Ao21 t528.length co21) : Value).ownBlock ∧ some k_ ≠ ((.slice Ao80 t555.length co80) : Value).ownBlock ∧ some k_ ≠ ((.slice Ao96 t570.length co96) : Value).ownBlock) (.slice Ao29 t537.length co29) t537) ∧ Aside0 (Kd.R Kd.string 9 wc w.heap.size (fun k_ => some k_ ≠ ((.slice Ao13 t516.length co13) : Value).ownBlock ∧ some k_ ≠ ((.slice Ao18 t525.length co18) : Value).ownBlock ∧ some k_ ≠ ((.slice Ao25 t534.length co25) : Value).ownBlock ∧ some k_ ≠ ((.slice Ao94 t567.length co94) : Value).ownBlock) (.slice Ao78 t552.length co78) t552) ∧ Aside0 (Kd.R k54 54 wc w.heap.size (fun k_ => some k_ ≠ ((.slice Ao15 t519.length co15) : Value).ownBlock ∧ some k_ ≠ ((.slice Ao21 t528.length co21) : Value).ownBlock ∧ some k_ ≠ ((.slice Ao29 t537.length co29) : Value).ownBlock ∧ some k_ ≠ ((.slice Ao96 t570.length co96) : Value).ownBlock) (.slice Ao80 t555.length co80) t555) ∧ Aside0 (Kd.R Kd.string 9 wc w.heap.size (fun k_ => some k_ ≠ ((.slice Ao13 t516.length co13) : Value).ownBlock ∧ some k_ ≠ ((.slice Ao18 t525.length co18) : Value).ownBlock ∧ some k_ ≠ ((.slice Ao25 t534.length co25) : Value).ownBlock ∧ some k_ ≠ ((.slice Ao78 t552.length co78) : Value).ownBlock) (.slice Ao94 t567.length co94) t567) ∧ Aside0 (Kd.R k54 54 wc w.heap.size (fun k_ => some k_ ≠ ((.slice Ao15 t519.length co15) : Value).ownBlock ∧ some k_ ≠ ((.slice Ao21 t528.length co21) : Value).ownBlock ∧ some k_ ≠ ((.slice Ao29 t537.length co29) : Value).ownBlock ∧ some k_ ≠ ((.slice Ao80 t555.length co80) : Value).ownBlock) (.slice Ao96 t570.length co96) t570) ∧ Aside0 (wc.heap[gb524]? = some (.cells #[(.slice Ao13 t516.length co13), (.slice Ao15 t519.length co15)] 26 (0, 0))) ∧ Aside0 (wc.heap[gb533]? = some (.cells #[(.slice Ao18 t525.length co18), (.slice Ao21 t528.length co21)] 26 (0, 0))) ∧ Aside0 (wc.heap[gb541]? = some (.cells #[(.slice Ao25 t534.length co25), (.slice Ao29 t537.length co29)] 26 (0, 0))) ∧ Aside0 (wc.heap[gb549]? = some (.cells #[(.slice Ao78 t552.length co78), (.slice Ao80 t555.length co80)] 26 (0, 0))) ∧ Aside0 (wc.heap[gb566]? = some (.cells #[(.slice Ao94 t567.length co94), (.slice Ao96 t570.length co96)] 26 (0, 0))) ∧ Aside0 (Below w.heap.size w wc))
       case first =>
        have H := HC72.out
        clear HC72
        by_cases c97 : t548 = true
        ·subst c97
         have H1 : (if t558 = true then (if t565 = true then (laws_FnSecSwap.j2 kj9 (!t573) t552 t555 t567 t570) else (laws_FnSecSwap.j2 kj9 true t552 t555 t567 t570)) else (laws_FnSecSwap.j2 kj9 true t552 t555 t567 t570)) = some r := by rw [if_pos rfl] at H; exact H
         clear H
         have H := H1
         clear H1
         by_cases c98 : t558 = true
         ·subst c98
          have H1 : (if t565 = true then (laws_FnSecSwap.j2 kj9 (!t573) t552 t555 t567 t570) else (laws_FnSecSwap.j2 kj9 true t552 t555 t567 t570)) = some r := by rw [if_pos rfl] at H; exact H
          clear H
          have H := H1
          clear H1
          by_cases c99 : t565 = true
          ·subst c99
           have H1 : (laws_FnSecSwap.j2 kj9 (!t573) t552 t555 t567 t570) = some r := by rw [if_pos rfl] at H; exact H
           clear H
           have H := H1
           clear H1
           have H' := Aside0.mk H
           clear H
           go_wp2
           go_meet
           case rel => exact ⟨_, (!t573), (by first | rfl | (simp; done) | (simp [*]; done)), H', ⟨by have := HJ2.out; have := HJ9.out; first | omega | exact Nat.le_refl _⟩, ⟨pR (Kd.R_mono (Kd.R_far (p := ⟨gb566, 1, none⟩) (Kd.R_far (p := ⟨gb566, 0, none⟩) (Kd.R_types HO_525000.out BK566.out (by decide)) (fun _ hk => hk.2) (.slice Ao94 t567.length co94)) (fun _ hk => hk.2) (.slice Ao96 t570.length co96)) (fun _ hk => ⟨hk.1.1.1.1.1, ⟨hk.1.1.1.1.2.1, ⟨hk.1.1.1.2, hk.1.2⟩⟩⟩))⟩, ⟨pR (Kd.R_mono (Kd.R_far (p := ⟨gb566, 1, none⟩) (Kd.R_far (p := ⟨gb566, 0, none⟩) (Kd.R_types HO_525001.out BK566.out (by decide)) (fun _ hk => hk.2) (.slice Ao94 t567.length co94)) (fun _ hk => hk.2) (.slice Ao96 t570.length co96)) (fun _ hk => ⟨hk.1.1.1.1.1, ⟨hk.1.1.1.1.2.1, ⟨hk.1.1.1.2, hk.1.2⟩⟩⟩))⟩, ⟨pR (Kd.R_mono (Kd.R_far (p := ⟨gb566, 1, none⟩) (Kd.R_far (p := ⟨gb566, 0, none⟩) (Kd.R_types HO_534000.out BK566.out (by decide)) (fun _ hk => hk.2) (.slice Ao94 t567.length co94)) (fun _ hk => hk.2) (.slice Ao96 t570.length co96)) (fun _ hk => ⟨hk.1.1.1.1.1, ⟨hk.1.1.1.1.2.1, ⟨hk.1.1.1.2, hk.1.2⟩⟩⟩))⟩, ⟨pR (Kd.R_mono (Kd.R_far (p := ⟨gb566, 1, none⟩) (Kd.R_far (p := ⟨gb566, 0, none⟩) (Kd.R_types HO_534001.out BK566.out (by decide)) (fun _ hk => hk.2) (.slice Ao94 t567.length co94)) (fun _ hk => hk.2) (.slice Ao96 t570.length co96)) (fun _ hk => ⟨hk.1.1.1.1.1, ⟨hk.1.1.1.1.2.1, ⟨hk.1.1.1.2, hk.1.2⟩⟩⟩))⟩, ⟨pR (Kd.R_mono (Kd.R_far (p := ⟨gb566, 1, none⟩) (Kd.R_far (p := ⟨gb566, 0, none⟩) (Kd.R_types HO_542000.out BK566.out (by decide)) (fun _ hk => hk.2) (.slice Ao94 t567.length co94)) (fun _ hk => hk.2) (.slice Ao96 t570.length co96)) (fun _ hk => ⟨hk.1.1.1.1.1, ⟨hk.1.1.1.1.2.1, ⟨hk.1.1.1.2, hk.1.2⟩⟩⟩))⟩, ⟨pR (Kd.R_mono (Kd.R_far (p := ⟨gb566, 1, none⟩) (Kd.R_far (p := ⟨gb566, 0, none⟩) (Kd.R_types HO_542001.out BK566.out (by decide)) (fun _ hk => hk.2) (.slice Ao94 t567.length co94)) (fun _ hk => hk.2) (.slice Ao96 t570.length co96)) (fun _ hk => ⟨hk.1.1.1.1.1, ⟨hk.1.1.1.1.2.1, ⟨hk.1.1.1.2, hk.1.2⟩⟩⟩))⟩, ⟨pR (Kd.R_mono (Kd.R_far (p := ⟨gb566, 1, none⟩) (Kd.R_far (p := ⟨gb566, 0, none⟩) (Kd.R_types HO554.out BK566.out (by decide)) (fun _ hk => hk.2) (.slice Ao94 t567.length co94)) (fun _ hk => hk.2) (.slice Ao96 t570.length co96)) (fun _ hk => ⟨hk.1.1.1.1.1.1.2, ⟨hk.1.1.1.1.1.2, ⟨hk.1.1.1.1.2, hk.1.2⟩⟩⟩))⟩, ⟨pR (Kd.R_mono (Kd.R_far (p := ⟨gb566, 1, none⟩) (Kd.R_far (p := ⟨gb566, 0, none⟩) (Kd.R_types HO557.out BK566.out (by decide)) (fun _ hk => hk.2) (.slice Ao94 t567.length co94)) (fun _ hk => hk.2) (.slice Ao96 t570.length co96)) (fun _ hk => ⟨hk.1.1.1.1.1.1.2, ⟨hk.1.1.1.1.1.2, ⟨hk.1.1.1.1.2, hk.1.2⟩⟩⟩))⟩, ⟨pR (Kd.R_mono (Kd.R_far (p := ⟨gb566, 1, none⟩) (Kd.R_far (p := ⟨gb566, 0, none⟩) (Kd.R_types HO569.out BK566.out (by decide)) (fun _ hk => hk.2) (.slice Ao94 t567.length co94)) (fun _ hk => hk.2) (.slice Ao96 t570.length co96)) (fun _ hk => ⟨hk.1.1.1.1.1.1.2, ⟨hk.1.1.1.1.1.2, ⟨hk.1.1.1.1.2, hk.1.1.2⟩⟩⟩))⟩, ⟨pR (Kd.R_mono (Kd.R_far (p := ⟨gb566, 1, none⟩) (Kd.R_far (p := ⟨gb566, 0, none⟩) (Kd.R_types HO572.out BK566.out (by decide)) (fun _ hk => hk.2) (.slice Ao94 t567.length co94)) (fun _ hk => hk.2) (.slice Ao96 t570.length co96)) (fun _ hk => ⟨hk.1.1.1.1.1.1.2, ⟨hk.1.1.1.1.1.2, ⟨hk.1.1.1.1.2, hk.1.1.2⟩⟩⟩))⟩, ⟨by (with_reducible repeat (first | refine blk_drewN ?_ _ | refine blk_drew ?_ | refine blk_alloc ?_ _)); refine blk_far ?_ NB524_566.out _; (with_reducible repeat (first | refine blk_drewN ?_ _ | refine blk_drew ?_ | refine blk_alloc ?_ _)); refine blk_far ?_ NB524_566.out _; (with_reducible repeat (first | refine blk_drewN ?_ _ | refine blk_drew ?_ | refine blk_alloc ?_ _)); exact BK524.out⟩, ⟨by (with_reducible repeat (first | refine blk_drewN ?_ _ | refine blk_drew ?_ | refine blk_alloc ?_ _)); refine blk_far ?_ NB533_566.out _; (with_reducible repeat (first | refine blk_drewN ?_ _ | refine blk_drew ?_ | refine blk_alloc ?_ _)); refine blk_far ?_ NB533_566.out _; (with_reducible repeat (first | refine blk_drewN ?_ _ | refine blk_drew ?_ | refine blk_alloc ?_ _)); exact BK533.out⟩, ⟨by (with_reducible repeat (first | refine blk_drewN ?_ _ | refine blk_drew ?_ | refine blk_alloc ?_ _)); refine blk_far ?_ NB541_566.out _; (with_reducible repeat (first | refine blk_drewN ?_ _ | refine blk_drew ?_ | refine blk_alloc ?_ _)); refine blk_far ?_ NB541_566.out _; (with_reducible repeat (first | refine blk_drewN ?_ _ | refine blk_drew ?_ | refine blk_alloc ?_ _)); exact BK541.out⟩, ⟨by (with_reducible repeat (first | refine blk_drewN ?_ _ | refine blk_drew ?_ | refine blk_alloc ?_ _)); refine blk_far ?_ NB549_566.out _; (with_reducible repeat (first | refine blk_drewN ?_ _ | refine blk_drew ?_ | refine blk_alloc ?_ _)); refine blk_far ?_ NB549_566.out _; (with_reducible repeat (first | refine blk_drewN ?_ _ | refine blk_drew ?_ | refine blk_alloc ?_ _)); exact BK549.out⟩, ⟨by (with_reducible repeat (first | refine blk_drewN ?_ _ | refine blk_drew ?_ | refine blk_alloc ?_ _)); refine blk_put (cs := #[.slice Ao94 t567.length co94, .slice Ao92 t562.length co92]) ?_ 1 _ rfl; (with_reducible repeat (first | refine blk_drewN ?_ _ | refine blk_drew ?_ | refine blk_alloc ?_ _)); refine blk_put (cs := #[.slice Ao86 t559.length co86, .slice Ao92 t562.length co92]) ?_ 0 _ rfl; (with_reducible repeat (first | refine blk_drewN ?_ _ | refine blk_drew ?_ | refine blk_alloc ?_ _)); exact BK566.out⟩, ⟨by repeat (first | (with_reducible first | exact HB.out | apply below_alloc | apply pw_below_drewN | apply below_drew1 | refine below_set ?_ GE524.out | refine below_set ?_ GE533.out | refine below_set ?_ GE541.out | refine below_set ?_ GE549.out | refine below_set ?_ GE566.out) | exact HB.out)⟩⟩
          ·replace c99 := Bool.eq_false_iff.mpr c99
           subst c99
           have H1 : (laws_FnSecSwap.j2 kj9 true t552 t555 t567 t570) = some r := by rw [if_neg (show ¬ (false = true) by decide)] at H; exact H
           clear H
           have H := H1
           clear H1
           have H' := Aside0.mk H
           clear H
           go_wp2
           go_meet
           case rel => exact ⟨_, (true), (by first | rfl | (simp; done) | (simp [*]; done)), H', ⟨by have := HJ2.out; have := HJ9.out; first | omega | exact Nat.le_refl _⟩, ⟨pR (Kd.R_mono (Kd.R_far (p := ⟨gb566, 1, none⟩) (Kd.R_far (p := ⟨gb566, 0, none⟩) (Kd.R_types HO_525000.out BK566.out (by decide)) (fun _ hk => hk.2) (.slice Ao94 t567.length co94)) (fun _ hk => hk.2) (.slice Ao96 t570.length co96)) (fun _ hk => ⟨hk.1.1.1.1.1, ⟨hk.1.1.1.1.2.1, ⟨hk.1.1.1.2, hk.1.2⟩⟩⟩))⟩, ⟨pR (Kd.R_mono (Kd.R_far (p := ⟨gb566, 1, none⟩) (Kd.R_far (p := ⟨gb566, 0, none⟩) (Kd.R_types HO_525001.out BK566.out (by decide)) (fun _ hk => hk.2) (.slice Ao94 t567.length co94)) (fun _ hk => hk.2) (.slice Ao96 t570.length co96)) (fun _ hk => ⟨hk.1.1.1.1.1, ⟨hk.1.1.1.1.2.1, ⟨hk.1.1.1.2, hk.1.2⟩⟩⟩))⟩, ⟨pR (Kd.R_mono (Kd.R_far (p := ⟨gb566, 1, none⟩) (Kd.R_far (p := ⟨gb566, 0, none⟩) (Kd.R_types HO_534000.out BK566.out (by decide)) (fun _ hk => hk.2) (.slice Ao94 t567.length co94)) (fun _ hk => hk.2) (.slice Ao96 t570.length co96)) (fun _ hk => ⟨hk.1.1.1.1.1, ⟨hk.1.1.1.1.2.1, ⟨hk.1.1.1.2, hk.1.2⟩⟩⟩))⟩, ⟨pR (Kd.R_mono (Kd.R_far (p := ⟨gb566, 1, none⟩) (Kd.R_far (p := ⟨gb566, 0, none⟩) (Kd.R_types HO_534001.out BK566.out (by decide)) (fun _ hk => hk.2) (.slice Ao94 t567.length co94)) (fun _ hk => hk.2) (.slice Ao96 t570.length co96)) (fun _ hk => ⟨hk.1.1.1.1.1, ⟨hk.1.1.1.1.2.1, ⟨hk.1.1.1.2, hk.1.2⟩⟩⟩))⟩, ⟨pR (Kd.R_mono (Kd.R_far (p := ⟨gb566, 1, none⟩) (Kd.R_far (p := ⟨gb566, 0, none⟩) (Kd.R_types HO_542000.out BK566.out (by decide)) (fun _ hk => hk.2) (.slice Ao94 t567.length co94)) (fun _ hk => hk.2) (.slice Ao96 t570.length co96)) (fun _ hk => ⟨hk.1.1.1.1.1, ⟨hk.1.1.1.1.2.1, ⟨hk.1.1.1.2, hk.1.2⟩⟩⟩))⟩, ⟨pR (Kd.R_mono (Kd.R_far (p := ⟨gb566, 1, none⟩) (Kd.R_far (p := ⟨gb566, 0, none⟩) (Kd.R_types HO_542001.out BK566.out (by decide)) (fun _ hk => hk.2) (.slice Ao94 t567.length co94)) (fun _ hk => hk.2) (.slice Ao96 t570.length co96)) (fun _ hk => ⟨hk.1.1.1.1.1, ⟨hk.1.1.1.1.2.1, ⟨hk.1.1.1.2, hk.1.2⟩⟩⟩))⟩, ⟨pR (Kd.R_mono (Kd.R_far (p := ⟨gb566, 1, none⟩) (Kd.R_far (p := ⟨gb566, 0, none⟩) (Kd.R_types HO554.out BK566.out (by decide)) (fun _ hk => hk.2) (.slice Ao94 t567.length co94)) (fun _ hk => hk.2) (.slice Ao96 t570.length co96)) (fun _ hk => ⟨hk.1.1.1.1.1.1.2, ⟨hk.1.1.1.1.1.2, ⟨hk.1.1.1.1.2, hk.1.2⟩⟩⟩))⟩, ⟨pR (Kd.R_mono (Kd.R_far (p := ⟨gb566, 1, none⟩) (Kd.R_far (p := ⟨gb566, 0, none⟩) (Kd.R_types HO557.out BK566.out (by decide)) (fun _ hk => hk.2) (.slice Ao94 t567.length co94)) (fun _ hk => hk.2) (.slice Ao96 t570.length co96)) (fun _ hk => ⟨hk.1.1.1.1.1.1.2, ⟨hk.1.1.1.1.1.2, ⟨hk.1.1.1.1.2, hk.1.2⟩⟩⟩))⟩, ⟨pR (Kd.R_mono (Kd.R_far (p := ⟨gb566, 1, none⟩) (Kd.R_far (p := ⟨gb566, 0, none⟩) (Kd.R_types HO569.out BK566.out (by decide)) (fun _ hk => hk.2) (.slice Ao94 t567.length co94)) (fun _ hk => hk.2) (.slice Ao96 t570.length co96)) (fun _ hk => ⟨hk.1.1.1.1.1.1.2, ⟨hk.1.1.1.1.1.2, ⟨hk.1.1.1.1.2, hk.1.1.2⟩⟩⟩))⟩, ⟨pR (Kd.R_mono (Kd.R_far (p := ⟨gb566, 1, none⟩) (Kd.R_far (p := ⟨gb566, 0, none⟩) (Kd.R_types HO572.out BK566.out (by decide)) (fun _ hk => hk.2) (.slice Ao94 t567.length co94)) (fun _ hk => hk.2) (.slice Ao96 t570.length co96)) (fun _ hk => ⟨hk.1.1.1.1.1.1.2, ⟨hk.1.1.1.1.1.2, ⟨hk.1.1.1.1.2, hk.1.1.2⟩⟩⟩))⟩, ⟨by (with_reducible repeat (first | refine blk_drewN ?_ _ | refine blk_drew ?_ | refine blk_alloc ?_ _)); refine blk_far ?_ NB524_566.out _; (with_reducible repeat (first | refine blk_drewN ?_ _ | refine blk_drew ?_ | refine blk_alloc ?_ _)); refine blk_far ?_ NB524_566.out _; (with_reducible repeat (first | refine blk_drewN ?_ _ | refine blk_drew ?_ | refine blk_alloc ?_ _)); exact BK524.out⟩, ⟨by (with_reducible repeat (first | refine blk_drewN ?_ _ | refine blk_drew ?_ | refine blk_alloc ?_ _)); refine blk_far ?_ NB533_566.out _; (with_reducible repeat (first | refine blk_drewN ?_ _ | refine blk_drew ?_ | refine blk_alloc ?_ _)); refine blk_far ?_ NB533_566.out _; (with_reducible repeat (first | refine blk_drewN ?_ _ | refine blk_drew ?_ | refine blk_alloc ?_ _)); exact BK533.out⟩, ⟨by (with_reducible repeat (first | refine blk_drewN ?_ _ | refine blk_drew ?_ | refine blk_alloc ?_ _)); refine blk_far ?_ NB541_566.out _; (with_reducible repeat (first | refine blk_drewN ?_ _ | refine blk_drew ?_ | refine blk_alloc ?_ _)); refine blk_far ?_ NB541_566.out _; (with_reducible repeat (first | refine blk_drewN ?_ _ | refine blk_drew ?_ | refine blk_alloc ?_ _)); exact BK541.out⟩, ⟨by (with_reducible repeat (first | refine blk_drewN ?_ _ | refine blk_drew ?_ | refine blk_alloc ?_ _)); refine blk_far ?_ NB549_566.out _; (with_reducible repeat (first | refine blk_drewN ?_ _ | refine blk_drew ?_ | refine blk_alloc ?_ _)); refine blk_far ?_ NB549_566.out _; (with_reducible repeat (first | refine blk_drewN ?_ _ | refine blk_drew ?_ | refine blk_alloc ?_ _)); exact BK549.out⟩, ⟨by (with_reducible repeat (first | refine blk_drewN ?_ _ | refine blk_drew ?_ | refine blk_alloc ?_ _)); refine blk_put (cs := #[.slice Ao94 t567.length co94, .slice Ao92 t562.length co92]) ?_ 1 _ rfl; (with_reducible repeat (first | refine blk_drewN ?_ _ | refine blk_drew ?_ | refine blk_alloc ?_ _)); refine blk_put (cs := #[.slice Ao86 t559.length co86, .slice Ao92 t562.length co92]) ?_ 0 _ rfl; (with_reducible repeat (first | refine blk_drewN ?_ _ | refine blk_drew ?_ | refine blk_alloc ?_ _)); exact BK566.out⟩, ⟨by repeat (first | (with_reducible first | exact HB.out | apply below_alloc | apply pw_below_drewN | apply below_drew1 | refine below_set ?_ GE524.out | refine below_set ?_ GE533.out | refine below_set ?_ GE541.out | refine below_set ?_ GE549.out | refine below_set ?_ GE566.out) | exact HB.out)⟩⟩
         ·replace c98 := Bool.eq_false_iff.mpr c98
          subst c98
          have H1 : (laws_FnSecSwap.j2 kj9 true t552 t555 t567 t570) = some r := by rw [if_neg (show ¬ (false = true) by decide)] at H; exact H
          clear H
          have H := H1
          clear H1
          have H' := Aside0.mk H
          clear H
          go_wp2
          go_meet
          case rel => exact ⟨_, (true), (by first | rfl | (simp; done) | (simp [*]; done)), H', ⟨by have := HJ2.out; have := HJ9.out; first | omega | exact Nat.le_refl _⟩, ⟨pR (Kd.R_mono (Kd.R_far (p := ⟨gb566, 1, none⟩) (Kd.R_far (p := ⟨gb566, 0, none⟩) (Kd.R_types HO_525000.out BK566.out (by decide)) (fun _ hk => hk.2) (.slice Ao94 t567.length co94)) (fun _ hk => hk.2) (.slice Ao96 t570.length co96)) (fun _ hk => ⟨hk.1.1.1.1.1, ⟨hk.1.1.1.1.2.1, ⟨hk.1.1.1.2, hk.1.2⟩⟩⟩))⟩, ⟨pR (Kd.R_mono (Kd.R_far (p := ⟨gb566, 1, none⟩) (Kd.R_far (p := ⟨gb566, 0, none⟩) (Kd.R_types HO_525001.out BK566.out (by decide)) (fun _ hk => hk.2) (.slice Ao94 t567.length co94)) (fun _ hk => hk.2) (.slice Ao96 t570.length co96)) (fun _ hk => ⟨hk.1.1.1.1.1, ⟨hk.1.1.1.1.2.1, ⟨hk.1.1.1.2, hk.1.2⟩⟩⟩))⟩, ⟨pR (Kd.R_mono (Kd.R_far (p := ⟨gb566, 1, none⟩) (Kd.R_far (p := ⟨gb566, 0, none⟩) (Kd.R_types HO_534000.out BK566.out (by decide)) (fun _ hk => hk.2) (.slice Ao94 t567.length co94)) (fun _ hk => hk.2) (.slice Ao96 t570.length co96)) (fun _ hk => ⟨hk.1.1.1.1.1, ⟨hk.1.1.1.1.2.1, ⟨hk.1.1.1.2, hk.1.2⟩⟩⟩))⟩, ⟨pR (Kd.R_mono (Kd.R_far (p := ⟨gb566, 1, none⟩) (Kd.R_far (p := ⟨gb566, 0, none⟩) (Kd.R_types HO_534001.out BK566.out (by decide)) (fun _ hk => hk.2) (.slice Ao94 t567.length co94)) (fun _ hk => hk.2) (.slice Ao96 t570.length co96)) (fun _ hk => ⟨hk.1.1.1.1.1, ⟨hk.1.1.1.1.2.1, ⟨hk.1.1.1.2, hk.1.2⟩⟩⟩))⟩, ⟨pR (Kd.R_mono (Kd.R_far (p := ⟨gb566, 1, none⟩) (Kd.R_far (p := ⟨gb566, 0, none⟩) (Kd.R_types HO_542000.out BK566.out (by decide)) (fun _ hk => hk.2) (.slice Ao94 t567.length co94)) (fun _ hk => hk.2) (.slice Ao96 t570.length co96)) (fun _ hk => ⟨hk.1.1.1.1.1, ⟨hk.1.1.1.1.2.1, ⟨hk.1.1.1.2, hk.1.2⟩⟩⟩))⟩, ⟨pR (Kd.R_mono (Kd.R_far (p := ⟨gb566, 1, none⟩) (Kd.R_far (p := ⟨gb566, 0, none⟩) (Kd.R_types HO_542001.out BK566.out (by decide)) (fun _ hk => hk.2) (.slice Ao94 t567.length co94)) (fun _ hk => hk.2) (.slice Ao96 t570.length co96)) (fun _ hk => ⟨hk.1.1.1.1.1, ⟨hk.1.1.1.1.2.1, ⟨hk.1.1.1.2, hk.1.2⟩⟩⟩))⟩, ⟨pR (Kd.R_mono (Kd.R_far (p := ⟨gb566, 1, none⟩) (Kd.R_far (p := ⟨gb566, 0, none⟩) (Kd.R_types HO554.out BK566.out (by decide)) (fun _ hk => hk.2) (.slice Ao94 t567.length co94)) (fun _ hk => hk.2) (.slice Ao96 t570.length co96)) (fun _ hk => ⟨hk.1.1.1.1.1.1.2, ⟨hk.1.1.1.1.1.2, ⟨hk.1.1.1.1.2, hk.1.2⟩⟩⟩))⟩, ⟨pR (Kd.R_mono (Kd.R_far (p := ⟨gb566, 1, none⟩) (Kd.R_far (p := ⟨gb566, 0, none⟩) (Kd.R_types HO557.out BK566.out (by decide)) (fun _ hk => hk.2) (.slice Ao94 t567.length co94)) (fun _ hk => hk.2) (.slice Ao96 t570.length co96)) (fun _ hk => ⟨hk.1.1.1.1.1.1.2, ⟨hk.1.1.1.1.1.2, ⟨hk.1.1.1.1.2, hk.1.2⟩⟩⟩))⟩, ⟨pR (Kd.R_mono (Kd.R_far (p := ⟨gb566, 1, none⟩) (Kd.R_far (p := ⟨gb566, 0, none⟩) (Kd.R_types HO569.out BK566.out (by decide)) (fun _ hk => hk.2) (.slice Ao94 t567.length co94)) (fun _ hk => hk.2) (.slice Ao96 t570.length co96)) (fun _ hk => ⟨hk.1.1.1.1.1.1.2, ⟨hk.1.1.1.1.1.2, ⟨hk.1.1.1.1.2, hk.1.1.2⟩⟩⟩))⟩, ⟨pR (Kd.R_mono (Kd.R_far (p := ⟨gb566, 1, none⟩) (Kd.R_far (p := ⟨gb566, 0, none⟩) (Kd.R_types HO572.out BK566.out (by decide)) (fun _ hk => hk.2) (.slice Ao94 t567.length co94)) (fun _ hk => hk.2) (.slice Ao96 t570.length co96)) (fun _ hk => ⟨hk.1.1.1.1.1.1.2, ⟨hk.1.1.1.1.1.2, ⟨hk.1.1.1.1.2, hk.1.1.2⟩⟩⟩))⟩, ⟨by (with_reducible repeat (first | refine blk_drewN ?_ _ | refine blk_drew ?_ | refine blk_alloc ?_ _)); refine blk_far ?_ NB524_566.out _; (with_reducible repeat (first | refine blk_drewN ?_ _ | refine blk_drew ?_ | refine blk_alloc ?_ _)); refine blk_far ?_ NB524_566.out _; (with_reducible repeat (first | refine blk_drewN ?_ _ | refine blk_drew ?_ | refine blk_alloc ?_ _)); exact BK524.out⟩, ⟨by (with_reducible repeat (first | refine blk_drewN ?_ _ | refine blk_drew ?_ | refine blk_alloc ?_ _)); refine blk_far ?_ NB533_566.out _; (with_reducible repeat (first | refine blk_drewN ?_ _ | refine blk_drew ?_ | refine blk_alloc ?_ _)); refine blk_far ?_ NB533_566.out _; (with_reducible repeat (first | refine blk_drewN ?_ _ | refine blk_drew ?_ | refine blk_alloc ?_ _)); exact BK533.out⟩, ⟨by (with_reducible repeat (first | refine blk_drewN ?_ _ | refine blk_drew ?_ | refine blk_alloc ?_ _)); refine blk_far ?_ NB541_566.out _; (with_reducible repeat (first | refine blk_drewN ?_ _ | refine blk_drew ?_ | refine blk_alloc ?_ _)); refine blk_far ?_ NB541_566.out _; (with_reducible repeat (first | refine blk_drewN ?_ _ | refine blk_drew ?_ | refine blk_alloc ?_ _)); exact BK541.out⟩, ⟨by (with_reducible repeat (first | refine blk_drewN ?_ _ | refine blk_drew ?_ | refine blk_alloc ?_ _)); refine blk_far ?_ NB549_566.out _; (with_reducible repeat (first | refine blk_drewN ?_ _ | refine blk_drew ?_ | refine blk_alloc ?_ _)); refine blk_far ?_ NB549_566.out _; (with_reducible repeat (first | refine blk_drewN ?_ _ | refine blk_drew ?_ | refine blk_alloc ?_ _)); exact BK549.out⟩, ⟨by (with_reducible repeat (first | refine blk_drewN ?_ _ | refine blk_drew ?_ | refine blk_alloc ?_ _)); refine blk_put (cs := #[.slice Ao94 t567.length co94, .slice Ao92 t562.length co92]) ?_ 1 _ rfl; (with_reducible repeat (first | refine blk_drewN ?_ _ | refine blk_drew ?_ | refine blk_alloc ?_ _)); refine blk_put (cs := #[.slice Ao86 t559.length co86, .slice Ao92 t562.length co92]) ?_ 0 _ rfl; (with_reducible repeat (first | refine blk_drewN ?_ _ | refine blk_drew ?_ | refine blk_alloc ?_ _)); exact BK566.out⟩, ⟨by repeat (first | (with_reducible first | exact HB.out | apply below_alloc | apply pw_below_drewN | apply below_drew1 | refine below_set ?_ GE524.out | refine below_set ?_ GE533.out | refine below_set ?_ GE541.out | refine below_set ?_ GE549.out | refine below_set ?_ GE566.out) | exact HB.out)⟩⟩
        ·replace c97 := Bool.eq_false_iff.mpr c97
         subst c97
         have H1 : (laws_FnSecSwap.j2 kj9 true t552 t555 t567 t570) = some r := by rw [if_neg (show ¬ (false = true) by decide)] at H; exact H
         clear H
         have H := H1
         clear H1
         have H' := Aside0.mk H
         clear H
         go_wp2
         go_meet
         case rel => exact ⟨_, (true), (by first | rfl | (simp; done) | (simp [*]; done)), H', ⟨by have := HJ2.out; have := HJ9.out; first | omega | exact Nat.le_refl _⟩, ⟨pR (Kd.R_mono (Kd.R_far (p := ⟨gb566, 1, none⟩) (Kd.R_far (p := ⟨gb566, 0, none⟩) (Kd.R_types HO_525000.out BK566.out (by decide)) (fun _ hk => hk.2) (.slice Ao94 t567.length co94)) (fun _ hk => hk.2) (.slice Ao96 t570.length co96)) (fun _ hk => ⟨hk.1.1.1.1.1, ⟨hk.1.1.1.1.2.1, ⟨hk.1.1.1.2, hk.1.2⟩⟩⟩))⟩, ⟨pR (Kd.R_mono (Kd.R_far (p := ⟨gb566, 1, none⟩) (Kd.R_far (p := ⟨gb566, 0, none⟩) (Kd.R_types HO_525001.out BK566.out (by decide)) (fun _ hk => hk.2) (.slice Ao94 t567.length co94)) (fun _ hk => hk.2) (.slice Ao96 t570.length co96)) (fun _ hk => ⟨hk.1.1.1.1.1, ⟨hk.1.1.1.1.2.1, ⟨hk.1.1.1.2, hk.1.2⟩⟩⟩))⟩, ⟨pR (Kd.R_mono (Kd.R_far (p := ⟨gb566, 1, none⟩) (Kd.R_far (p := ⟨gb566, 0, none⟩) (Kd.R_types HO_534000.out BK566.out (by decide)) (fun _ hk => hk.2) (.slice Ao94 t567.length co94)) (fun _ hk => hk.2) (.slice Ao96 t570.length co96)) (fun _ hk => ⟨hk.1.1.1.1.1, ⟨hk.1.1.1.1.2.1, ⟨hk.1.1.1.2, hk.1.2⟩⟩⟩))⟩, ⟨pR (Kd.R_mono (Kd.R_far (p := ⟨gb566, 1, none⟩) (Kd.R_far (p := ⟨gb566, 0, none⟩) (Kd.R_types HO_534001.out BK566.out (by decide)) (fun _ hk => hk.2) (.slice Ao94 t567.length co94)) (fun _ hk => hk.2) (.slice Ao96 t570.length co96)) (fun _ hk => ⟨hk.1.1.1.1.1, ⟨hk.1.1.1.1.2.1, ⟨hk.1.1.1.2, hk.1.2⟩⟩⟩))⟩, ⟨pR (Kd.R_mono (Kd.R_far (p := ⟨gb566, 1, none⟩) (Kd.R_far (p := ⟨gb566, 0, none⟩) (Kd.R_types HO_542000.out BK566.out (by decide)) (fun _ hk => hk.2) (.slice Ao94 t567.length co94)) (fun _ hk => hk.2) (.slice Ao96 t570.length co96)) (fun _ hk => ⟨hk.1.1.1.1.1, ⟨hk.1.1.1.1.2.1, ⟨hk.1.1.1.2, hk.1.2⟩⟩⟩))⟩, ⟨pR (Kd.R_mono (Kd.R_far (p := ⟨gb566, 1, none⟩) (Kd.R_far (p := ⟨gb566, 0, none⟩) (Kd.R_types HO_542001.out BK566.out (by decide)) (fun _ hk => hk.2) (.slice Ao94 t567.length co94)) (fun _ hk => hk.2) (.slice Ao96 t570.length co96)) (fun _ hk => ⟨hk.1.1.1.1.1, ⟨hk.1.1.1.1.2.1, ⟨hk.1.1.1.2, hk.1.2⟩⟩⟩))⟩, ⟨pR (Kd.R_mono (Kd.R_far (p := ⟨gb566, 1, none⟩) (Kd.R_far (p := ⟨gb566, 0, none⟩) (Kd.R_types HO554.out BK566.out (by decide)) (fun _ hk => hk.2) (.slice Ao94 t567.length co94)) (fun _ hk => hk.2) (.slice Ao96 t570.length co96)) (fun _ hk => ⟨hk.1.1.1.1.1.1.2, ⟨hk.1.1.1.1.1.2, ⟨hk.1.1.1.1.2, hk.1.2⟩⟩⟩))⟩, ⟨pR (Kd.R_mono (Kd.R_far (p := ⟨gb566, 1, none⟩) (Kd.R_far (p := ⟨gb566, 0, none⟩) (Kd.R_types HO557.out BK566.out (by decide)) (fun _ hk => hk.2) (.slice Ao94 t567.length co94)) (fun _ hk => hk.2) (.slice Ao96 t570.length co96)) (fun _ hk => ⟨hk.1.1.1.1.1.1.2, ⟨hk.1.1.1.1.1.2, ⟨hk.1.1.1.1.2, hk.1.2⟩⟩⟩))⟩, ⟨pR (Kd.R_mono (Kd.R_far (p := ⟨gb566, 1, none⟩) (Kd.R_far (p := ⟨gb566, 0, none⟩) (Kd.R_types HO569.out BK566.out (by decide)) (fun _ hk => hk.2) (.slice Ao94 t567.length co94)) (fun _ hk => hk.2) (.slice Ao96 t570.length co96)) (fun _ hk => ⟨hk.1.1.1.1.1.1.2, ⟨hk.1.1.1.1.1.2, ⟨hk.1.1.1.1.2, hk.1.1.2⟩⟩⟩))⟩, ⟨pR (Kd.R_mono (Kd.R_far (p := ⟨gb566, 1, none⟩) (Kd.R_far (p := ⟨gb566, 0, none⟩) (Kd.R_types HO572.out BK566.out (by decide)) (fun _ hk => hk.2) (.slice Ao94 t567.length co94)) (fun _ hk => hk.2) (.slice Ao96 t570.length co96)) (fun _ hk => ⟨hk.1.1.1.1.1.1.2, ⟨hk.1.1.1.1.1.2, ⟨hk.1.1.1.1.2, hk.1.1.2⟩⟩⟩))⟩, ⟨by (with_reducible repeat (first | refine blk_drewN ?_ _ | refine blk_drew ?_ | refine blk_alloc ?_ _)); refine blk_far ?_ NB524_566.out _; (with_reducible repeat (first | refine blk_drewN ?_ _ | refine blk_drew ?_ | refine blk_alloc ?_ _)); refine blk_far ?_ NB524_566.out _; (with_reducible repeat (first | refine blk_drewN ?_ _ | refine blk_drew ?_ | refine blk_alloc ?_ _)); exact BK524.out⟩, ⟨by (with_reducible repeat (first | refine blk_drewN ?_ _ | refine blk_drew ?_ | refine blk_alloc ?_ _)); refine blk_far ?_ NB533_566.out _; (with_reducible repeat (first | refine blk_drewN ?_ _ | refine blk_drew ?_ | refine blk_alloc ?_ _)); refine blk_far ?_ NB533_566.out _; (with_reducible repeat (first | refine blk_drewN ?_ _ | refine blk_drew ?_ | refine blk_alloc ?_ _)); exact BK533.out⟩, ⟨by (with_reducible repeat (first | refine blk_drewN ?_ _ | refine blk_drew ?_ | refine blk_alloc ?_ _)); refine blk_far ?_ NB541_566.out _; (with_reducible repeat (first | refine blk_drewN ?_ _ | refine blk_drew ?_ | refine blk_alloc ?_ _)); refine blk_far ?_ NB541_566.out _; (with_reducible repeat (first | refine blk_drewN ?_ _ | refine blk_drew ?_ | refine blk_alloc ?_ _)); exact BK541.out⟩, ⟨by (with_reducible repeat (first | refine blk_drewN ?_ _ | refine blk_drew ?_ | refine blk_alloc ?_ _)); refine blk_far ?_ NB549_566.out _; (with_reducible repeat (first | refine blk_drewN ?_ _ | refine blk_drew ?_ | refine blk_alloc ?_ _)); refine blk_far ?_ NB549_566.out _; (with_reducible repeat (first | refine blk_drewN ?_ _ | refine blk_drew ?_ | refine blk_alloc ?_ _)); exact BK549.out⟩, ⟨by (with_reducible repeat (first | refine blk_drewN ?_ _ | refine blk_drew ?_ | refine blk_alloc ?_ _)); refine blk_put (cs := #[.slice Ao94 t567.length co94, .slice Ao92 t562.length co92]) ?_ 1 _ rfl; (with_reducible repeat (first | refine blk_drewN ?_ _ | refine blk_drew ?_ | refine blk_alloc ?_ _)); refine blk_put (cs := #[.slice Ao86 t559.length co86, .slice Ao92 t562.length co92]) ?_ 0 _ rfl; (with_reducible repeat (first | refine blk_drewN ?_ _ | refine blk_drew ?_ | refine blk_alloc ?_ _)); exact BK566.out⟩, ⟨by repeat (first | (with_reducible first | exact HB.out | apply below_alloc | apply pw_below_drewN | apply below_drew1 | refine below_set ?_ GE524.out | refine below_set ?_ GE533.out | refine below_set ?_ GE541.out | refine below_set ?_ GE549.out | refine below_set ?_ GE566.out) | exact HB.out)⟩⟩
       case rest =>
        clear HC72
        try clear c1
        try clear c2
        try clear p2
        try clear c3
        try clear c4
        try clear c4b0
        try clear c4b1
        try clear c5
        try clear c6
        try clear c7
        try clear c8
        try clear c9
        try clear c19
        try clear c26
        try clear c27
        try clear c28
        try clear c29
        try clear c30
        try clear c34
        try clear c35
        try clear c36
        try clear c39
        try clear c39b0
        try clear c39b1
        try clear c39b2
        try clear c41
        try clear c42
        try clear c43
        try clear c44
        try clear c46
        try clear c47
        try clear c50
        try clear c51
        try clear c52
        try clear c54
        try clear c55
        try clear c58
        try clear c59
        try clear c59b0
        try clear c59b1
        try clear c59b2
        try clear c61
        try clear c62
        try clear c63
        try clear c65
        try clear c66
        try clear c73
        try clear c74
        try clear c75
        try clear c81
        try clear c82
        try clear c87
        try clear c88
        try clear c89
        try clear c90
        try clear c97
        try clear c98
        try clear c99
        try clear hcz14_0
        try clear hcz14_1
        try clear hcz20_0
        try clear hcz20_1
        try clear hcz22_0
        try clear hcz22_1
        try clear hcz28_0
        try clear hcz28_1
        try clear hcz30_0
        try clear hcz30_1
        try clear hcz37_0
        try clear hcz37_1
        try clear hcz45_0
        try clear hcz45_1
        try clear hcz48_0
        try clear hcz48_1
        try clear hcz53_0
        try clear hcz53_1
        try clear hcz56_0
        try clear hcz56_1
        try clear hcz64_0
        try clear hcz64_1
        try clear hcz67_0
        try clear hcz67_1
        try clear hcz76_0
        try clear hcz76_1
        try clear hcz79_0
        try clear hcz79_1
        try clear hcz83_0
        try clear hcz83_1
        try clear hcz91_0
        try clear hcz91_1
        try clear hcz95_0
        try clear hcz95_1
        try clear hfz14_0
        try clear hfz14_1
        try clear hfz20_0
        try clear hfz20_1
        try clear hfz22_0
        try clear hfz22_1
        try clear hfz28_0
        try clear hfz28_1
        try clear hfz30_0
        try clear hfz30_1
        try clear hfz37_0
        try clear hfz37_1
        try clear hfz45_0
        try clear hfz45_1
        try clear hfz48_0
        try clear hfz48_1
        try clear hfz53_0
        try clear hfz53_1
        try clear hfz56_0
        try clear hfz56_1
        try clear hfz64_0
        try clear hfz64_1
        try clear hfz67_0
        try clear hfz67_1
        try clear hfz76_0
        try clear hfz76_1
        try clear hfz79_0
        try clear hfz79_1
        try clear hfz83_0
        try clear hfz83_1
        try clear hfz91_0
        try clear hfz91_1
        try clear hfz95_0
        try clear hfz95_1
        try clear p2
        obtain ⟨kq, x109_71, rfl, HA, HJ71, HO_525000, HO_525001, HO_534000, HO_534001, HO_542000, HO_542001, HO_550000, HO_550001, HO_567000, HO_567001, BK524, BK533, BK541, BK549, BK566, HB⟩ := hcut
        cases kq with
        | zero => exact absurd HA.out (by simp [laws_FnSecSwap.j2])
        | succ kj71 =>
         have H := HA.out
         clear HA
         simp only [laws_FnSecSwap.j2] at H
         by_cases c100 : x109_71 = true
         ·subst c100
          have H1 : (some true) = some r := by rw [if_pos rfl] at H; exact H
          clear H
          have H := H1
          clear H1
          obtain rfl := Option.some.inj H
          go_wp2
          go_ret
          exact ⟨by first | rfl | (simp [errW_none, errW_some] <;> rfl) | (simp [*, errW_none, errW_some] <;> rfl), by repeat (first | (with_reducible first | exact HB.out | apply below_alloc | apply pw_below_drewN | apply below_drew1 | refine below_set ?_ GE524.out | refine below_set ?_ GE533.out | refine below_set ?_ GE541.out | refine below_set ?_ GE549.out | refine below_set ?_ GE566.out) | exact HB.out)⟩
         ·replace c100 := Bool.eq_false_iff.mpr c100
          subst c100
          have H1 : ((impl_SecFlush.f kj71 t552 t555).bind fun bt574 => ((impl_SecFlush.f kj71 t567 t570).bind fun bt580 => ((laws_lpSec.f kj71 bt574.1 bt574.2 bt580.1 bt580.2).bind fun t586 => (some t586)))) = some r := by rw [if_neg (show ¬ (false = true) by decide)] at H; exact H
          clear H
          have H := H1
          clear H1
          replace H := Option.bind_eq_some_iff.mp H
          obtain ⟨⟨t574, t577⟩, A1010, H⟩ := H
          replace H : ((impl_SecFlush.f kj71 t567 t570).bind fun bt580 => ((laws_lpSec.f kj71 t574 t577 bt580.1 bt580.2).bind fun t586 => (some t586))) = some r := H
          have A101 := Aside0.mk A1010
          clear A1010
          replace H := Option.bind_eq_some_iff.mp H
          obtain ⟨⟨t580, t583⟩, A1020, H⟩ := H
          replace H : ((laws_lpSec.f kj71 t574 t577 t580 t583).bind fun t586 => (some t586)) = some r := H
          have A102 := Aside0.mk A1020
          clear A1020
          replace H := Option.bind_eq_some_iff.mp H
          obtain ⟨t586, A1030, H⟩ := H
          replace H : (some t586) = some r := H
          have A103 := Aside0.mk A1030
          clear A1030
          obtain rfl := Option.some.inj H
          try go_wp2
          have n0_ := Aside0.mk (Kd.R_drew HO_525000.out)
          have n1_ := Aside0.mk (Kd.R_drew HO_525001.out)
          have n2_ := Aside0.mk (Kd.R_drew HO_534000.out)
          have n3_ := Aside0.mk (Kd.R_drew HO_534001.out)
          have n4_ := Aside0.mk (Kd.R_drew HO_542000.out)
          have n5_ := Aside0.mk (Kd.R_drew HO_542001.out)
          have n6_ := Aside0.mk (Kd.R_drew HO_550000.out)
          have n7_ := Aside0.mk (Kd.R_drew HO_550001.out)
          have n8_ := Aside0.mk (Kd.R_drew HO_567000.out)
          have n9_ := Aside0.mk (Kd.R_drew HO_567001.out)
          have n10_ := Aside0.mk (blk_drew BK524.out)
          have n11_ := Aside0.mk (blk_drew BK533.out)
          have n12_ := Aside0.mk (blk_drew BK541.out)
          have n13_ := Aside0.mk (blk_drew BK549.out)
          have n14_ := Aside0.mk (blk_drew BK566.out)
          have n15_ := Aside0.mk (below_drew1 HB.out)
          clear HO_525000
          clear HO_525001
          clear HO_534000
          clear HO_534001
          clear HO_542000
          clear HO_542001
          clear HO_550000
          clear HO_550001
          clear HO_567000
          clear HO_567001
          clear BK524
          clear BK533
          clear BK541
          clear BK549
          clear BK566
          clear HB
          have HO_525000 := n0_
          have HO_525001 := n1_
          have HO_534000 := n2_
          have HO_534001 := n3_
          have HO_542000 := n4_
          have HO_542001 := n5_
          have HO_550000 := n6_
          have HO_550001 := n7_
          have HO_567000 := n8_
          have HO_567001 := n9_
          have BK524 := n10_
          have BK533 := n11_
          have BK541 := n12_
          have BK549 := n13_
          have BK566 := n14_
          have HB := n15_
          clear n0_ n1_ n2_ n3_ n4_ n5_ n6_ n7_ n8_ n9_ n10_ n11_ n12_ n13_ n14_ n15_
          refine start_ (n := 6) (S := fun w' => w'.cell? ⟨gb549, 0, none⟩ = some (.slice Ao78 t552.length co78) ∧ w'.cell? ⟨gb549, 1, none⟩ = some (.slice Ao80 t555.length co80) ∧ w'.cell? ⟨gb566, 0, none⟩ = some (.slice Ao94 t567.length co94) ∧ w'.cell? ⟨gb566, 1, none⟩ = some (.slice Ao96 t570.length co96)) (ds := []) #[false, false, false, false, false, false] (by kernel_rfl) rfl rfl ⟨(blk_cell BK549.out 0).trans rfl, (blk_cell BK549.out 1).trans rfl, (blk_cell BK566.out 0).trans rfl, (blk_cell BK566.out 1).trans rfl⟩ (fun hHeld => ?_)
          generalize wc.drew = w104 at HO_525000 HO_525001 HO_534000 HO_534001 HO_542000 HO_542001 HO_550000 HO_550001 HO_567000 HO_567001 BK524 BK533 BK541 BK549 BK566 HB hHeld ⊢
          refine take_ (i := 0) (N := some 110) (v := ?_) (a' := ?_) #[true, false, false, false, false, false] rfl rfl (by kernel_rfl) (fun _ _ _ h => h) (Or.inl ⟨by rfl, ?_⟩) hHeld ?_ ?_
          rotate_left
          ·rintro w' ⟨s0, s1, s2, s3⟩
           go_simp
           with_reducible rfl
          rotate_left
          ·simp only [Act.put, List.setIfInBounds_toArray, List.set_cons_zero, List.set_cons_succ, i64_w, i32_w]
           rfl
          refine take_ (i := 2) (N := some 112) (v := ?_) (a' := ?_) #[true, false, true, false, false, false] rfl rfl (by kernel_rfl) (fun _ _ _ h => h) (Or.inl ⟨by rfl, ?_⟩) hHeld ?_ ?_
          rotate_left
          ·rintro w' ⟨s0, s1, s2, s3⟩
           go_simp
           with_reducible rfl
          rotate_left
          ·simp only [Act.put, List.setIfInBounds_toArray, List.set_cons_zero, List.set_cons_succ, i64_w, i32_w]
           rfl
          refine one_ (i := 1) (N := some 111) #[true, true, true, false, false, false] rfl rfl (by kernel_rfl) (by decide) (fun K hK => ?_)
          refine goes_ Try.func32 (by kernel_rfl) rfl #[.agg #[.slice Ao78 t552.length co78, .slice Ao80 t555.length co80]] (by rfl) rfl rfl bM ?_
          with_reducible refine (impl_SecFlush.calls kj71 _ _ t552 _ _ t555 t574 t577 _ ?side1 ?side2 ?side3 ?side4 A101.out).mono ?_
          (case side1 => exact pC (Kd.R_reads' HO_550000.out).2.2)
          (case side2 => exact (Kd.R_reads' HO_550000.out).2.1)
          (case side3 => exact pC (Kd.R_reads' HO_550001.out).2.2)
          (case side4 => exact (Kd.R_reads' HO_550001.out).2.1)
          rintro e w105 ⟨v575, v578, rfl, ho0, ho1, hb⟩
          refine ⟨_, rfl, ?_⟩
          have n0_ := Aside0.mk (Kd.R_elder' (pR HO_525000.out) (Kd.R_base ho0) hb)
          have n1_ := Aside0.mk (Kd.R_elder' (pR HO_525001.out) (Kd.R_base ho1) hb)
          have n2_ := Aside0.mk (Kd.R_elder' (pR HO_534000.out) (Kd.R_base ho0) hb)
          have n3_ := Aside0.mk (Kd.R_elder' (pR HO_534001.out) (Kd.R_base ho1) hb)
          have n4_ := Aside0.mk (Kd.R_elder' (pR HO_542000.out) (Kd.R_base ho0) hb)
          have n5_ := Aside0.mk (Kd.R_elder' (pR HO_542001.out) (Kd.R_base ho1) hb)
          have n6_ := Aside0.mk (Kd.R_elder' (pR HO_550000.out) (Kd.R_base ho0) hb)
          have n7_ := Aside0.mk (Kd.R_elder' (pR HO_550001.out) (Kd.R_base ho1) hb)
          have n8_ := Aside0.mk (Kd.R_elder' (pR HO_567000.out) (Kd.R_base ho0) hb)
          have n9_ := Aside0.mk (Kd.R_elder' (pR HO_567001.out) (Kd.R_base ho1) hb)
          have n10_ := Aside0.mk (Kd.R_lower (Kd.R_new' (Kd.R_new' (Kd.R_new' (Kd.R_new' (Kd.R_new' ho0 (Kd.R_lt (pR HO_525000.out))) (Kd.R_lt (pR HO_534000.out))) (Kd.R_lt (pR HO_542000.out))) (Kd.R_lt (pR HO_550000.out))) (Kd.R_lt (pR HO_567000.out))) (below_size (by repeat (first | (with_reducible first | exact HB.out | apply below_alloc | apply pw_below_drewN | apply below_drew1 | refine below_set ?_ GE524.out | refine below_set ?_ GE533.out | refine below_set ?_ GE541.out | refine below_set ?_ GE549.out | refine below_set ?_ GE566.out) | exact HB.out))))
          have n11_ := Aside0.mk (Kd.R_lower (Kd.R_new' (Kd.R_new' (Kd.R_new' (Kd.R_new' (Kd.R_new' ho1 (Kd.R_lt (pR HO_525001.out))) (Kd.R_lt (pR HO_534001.out))) (Kd.R_lt (pR HO_542001.out))) (Kd.R_lt (pR HO_550001.out))) (Kd.R_lt (pR HO_567001.out))) (below_size (by repeat (first | (with_reducible first | exact HB.out | apply below_alloc | apply pw_below_drewN | apply below_drew1 | refine below_set ?_ GE524.out | refine below_set ?_ GE533.out | refine below_set ?_ GE541.out | refine below_set ?_ GE549.out | refine below_set ?_ GE566.out) | exact HB.out))))
          have n12_ := Aside0.mk (blk_below (g := gb524) (o := .cells #[.slice Ao13 t516.length co13, .slice Ao15 t519.length co15] 26 (0, 0)) (pK BK524.out) hb)
          have n13_ := Aside0.mk (blk_below (g := gb533) (o := .cells #[.slice Ao18 t525.length co18, .slice Ao21 t528.length co21] 26 (0, 0)) (pK BK533.out) hb)
          have n14_ := Aside0.mk (blk_below (g := gb541) (o := .cells #[.slice Ao25 t534.length co25, .slice Ao29 t537.length co29] 26 (0, 0)) (pK BK541.out) hb)
          have n15_ := Aside0.mk (blk_below (g := gb549) (o := .cells #[.slice Ao78 t552.length co78, .slice Ao80 t555.length co80] 26 (0, 0)) (pK BK549.out) hb)
          have n16_ := Aside0.mk (blk_below (g := gb566) (o := .cells #[.slice Ao94 t567.length co94, .slice Ao96 t570.length co96] 26 (0, 0)) (pK BK566.out) hb)
          have n17_ := Aside0.mk (below_step (by repeat (first | (with_reducible first | exact HB.out | apply below_alloc | apply pw_below_drewN | apply below_drew1 | refine below_set ?_ GE524.out | refine below_set ?_ GE533.out | refine below_set ?_ GE541.out | refine below_set ?_ GE549.out | refine below_set ?_ GE566.out) | exact HB.out)) hb)
          clear HO_525000
          clear HO_525001
          clear HO_534000
          clear HO_534001
          clear HO_542000
          clear HO_542001
          clear HO_550000
          clear HO_550001
          clear HO_567000
          clear HO_567001
          clear BK524
          clear BK533
          clear BK541
          clear BK549
          clear BK566
          clear HB
          have HO_525000 := n0_
          have HO_525001 := n1_
          have HO_534000 := n2_
          have HO_534001 := n3_
          have HO_542000 := n4_
          have HO_542001 := n5_
          have HO_550000 := n6_
          have HO_550001 := n7_
          have HO_567000 := n8_
          have HO_567001 := n9_
          have HO576 := n10_
          have HO579 := n11_
          have BK524 := n12_
          have BK533 := n13_
          have BK541 := n14_
          have BK549 := n15_
          have BK566 := n16_
          have HB := n17_
          clear n0_ n1_ n2_ n3_ n4_ n5_ n6_ n7_ n8_ n9_ n10_ n11_ n12_ n13_ n14_ n15_ n16_ n17_
          (try clear hb)
          (try clear hb2)
          (try clear hk)
          (try clear hi)
          (try clear ho0)
          (try clear ho1)
          refine hK.out _ _ ⟨(blk_cell BK549.out 0).trans rfl, (blk_cell BK549.out 1).trans rfl, (blk_cell BK566.out 0).trans rfl, (blk_cell BK566.out 1).trans rfl⟩ (fun hHeld => ?_)
          clear hK K
          refine norm_ (a' := ?_) ?_ ?_
          rotate_left
          ·show Act.put _ (some 111) _ = _
           simp only [Act.put, List.setIfInBounds_toArray, List.set_cons_zero, List.set_cons_succ, i64_w, i32_w]
           rfl
          refine one_ (i := 3) (N := some 113) #[true, true, true, true, false, false] rfl rfl (by kernel_rfl) (by decide) (fun K hK => ?_)
          refine goes_ Try.func32 (by kernel_rfl) rfl #[.agg #[.slice Ao94 t567.length co94, .slice Ao96 t570.length co96]] (by rfl) rfl rfl bM ?_
          with_reducible refine (impl_SecFlush.calls kj71 _ _ t567 _ _ t570 t580 t583 _ ?side1 ?side2 ?side3 ?side4 A102.out).mono ?_
          (case side1 => exact pC (Kd.R_reads' HO_567000.out).2.2)
          (case side2 => exact (Kd.R_reads' HO_567000.out).2.1)
          (case side3 => exact pC (Kd.R_reads' HO_567001.out).2.2)
          (case side4 => exact (Kd.R_reads' HO_567001.out).2.1)
          rintro e w106 ⟨v581, v584, rfl, ho0, ho1, hb⟩
          refine ⟨_, rfl, ?_⟩
          have n0_ := Aside0.mk (Kd.R_elder' (pR HO_525000.out) (Kd.R_base ho0) hb)
          have n1_ := Aside0.mk (Kd.R_elder' (pR HO_525001.out) (Kd.R_base ho1) hb)
          have n2_ := Aside0.mk (Kd.R_elder' (pR HO_534000.out) (Kd.R_base ho0) hb)
          have n3_ := Aside0.mk (Kd.R_elder' (pR HO_534001.out) (Kd.R_base ho1) hb)
          have n4_ := Aside0.mk (Kd.R_elder' (pR HO_542000.out) (Kd.R_base ho0) hb)
          have n5_ := Aside0.mk (Kd.R_elder' (pR HO_542001.out) (Kd.R_base ho1) hb)
          have n6_ := Aside0.mk (Kd.R_elder' (pR HO_550000.out) (Kd.R_base ho0) hb)
          have n7_ := Aside0.mk (Kd.R_elder' (pR HO_550001.out) (Kd.R_base ho1) hb)
          have n8_ := Aside0.mk (Kd.R_elder' (pR HO_567000.out) (Kd.R_base ho0) hb)
          have n9_ := Aside0.mk (Kd.R_elder' (pR HO_567001.out) (Kd.R_base ho1) hb)
          have n10_ := Aside0.mk (Kd.R_elder' (pR HO576.out) (Kd.R_base ho0) hb)
          have n11_ := Aside0.mk (Kd.R_elder' (pR HO579.out) (Kd.R_base ho1) hb)
          have n12_ := Aside0.mk (Kd.R_lower (Kd.R_new' (Kd.R_new' (Kd.R_new' (Kd.R_new' (Kd.R_new' (Kd.R_new' ho0 (Kd.R_lt (pR HO_525000.out))) (Kd.R_lt (pR HO_534000.out))) (Kd.R_lt (pR HO_542000.out))) (Kd.R_lt (pR HO_550000.out))) (Kd.R_lt (pR HO_567000.out))) (Kd.R_lt (pR HO576.out))) (below_size (by repeat (first | (with_reducible first | exact HB.out | apply below_alloc | apply pw_below_drewN | apply below_drew1 | refine below_set ?_ GE524.out | refine below_set ?_ GE533.out | refine below_set ?_ GE541.out | refine below_set ?_ GE549.out | refine below_set ?_ GE566.out) | exact HB.out))))
          have n13_ := Aside0.mk (Kd.R_lower (Kd.R_new' (Kd.R_new' (Kd.R_new' (Kd.R_new' (Kd.R_new' (Kd.R_new' ho1 (Kd.R_lt (pR HO_525001.out))) (Kd.R_lt (pR HO_534001.out))) (Kd.R_lt (pR HO_542001.out))) (Kd.R_lt (pR HO_550001.out))) (Kd.R_lt (pR HO_567001.out))) (Kd.R_lt (pR HO579.out))) (below_size (by repeat (first | (with_reducible first | exact HB.out | apply below_alloc | apply pw_below_drewN | apply below_drew1 | refine below_set ?_ GE524.out | refine below_set ?_ GE533.out | refine below_set ?_ GE541.out | refine below_set ?_ GE549.out | refine below_set ?_ GE566.out) | exact HB.out))))
          have n14_ := Aside0.mk (blk_below (g := gb524) (o := .cells #[.slice Ao13 t516.length co13, .slice Ao15 t519.length co15] 26 (0, 0)) (pK BK524.out) hb)
          have n15_ := Aside0.mk (blk_below (g := gb533) (o := .cells #[.slice Ao18 t525.length co18, .slice Ao21 t528.length co21] 26 (0, 0)) (pK BK533.out) hb)
          have n16_ := Aside0.mk (blk_below (g := gb541) (o := .cells #[.slice Ao25 t534.length co25, .slice Ao29 t537.length co29] 26 (0, 0)) (pK BK541.out) hb)
          have n17_ := Aside0.mk (blk_below (g := gb549) (o := .cells #[.slice Ao78 t552.length co78, .slice Ao80 t555.length co80] 26 (0, 0)) (pK BK549.out) hb)
          have n18_ := Aside0.mk (blk_below (g := gb566) (o := .cells #[.slice Ao94 t567.length co94, .slice Ao96 t570.length co96] 26 (0, 0)) (pK BK566.out) hb)
          have n19_ := Aside0.mk (below_step (by repeat (first | (with_reducible first | exact HB.out | apply below_alloc | apply pw_below_drewN | apply below_drew1 | refine below_set ?_ GE524.out | refine below_set ?_ GE533.out | refine below_set ?_ GE541.out | refine below_set ?_ GE549.out | refine below_set ?_ GE566.out) | exact HB.out)) hb)
          clear HO_525000
          clear HO_525001
          clear HO_534000
          clear HO_534001
          clear HO_542000
          clear HO_542001
          clear HO_550000
          clear HO_550001
          clear HO_567000
          clear HO_567001
          clear HO576
          clear HO579
          clear BK524
          clear BK533
          clear BK541
          clear BK549
          clear BK566
          clear HB
          have HO_525000 := n0_
          have HO_525001 := n1_
          have HO_534000 := n2_
          have HO_534001 := n3_
          have HO_542000 := n4_
          have HO_542001 := n5_
          have HO_550000 := n6_
          have HO_550001 := n7_
          have HO_567000 := n8_
          have HO_567001 := n9_
          have HO576 := n10_
          have HO579 := n11_
          have HO582 := n12_
          have HO585 := n13_
          have BK524 := n14_
          have BK533 := n15_
          have BK541 := n16_
          have BK549 := n17_
          have BK566 := n18_
          have HB := n19_
          clear n0_ n1_ n2_ n3_ n4_ n5_ n6_ n7_ n8_ n9_ n10_ n11_ n12_ n13_ n14_ n15_ n16_ n17_ n18_ n19_
          (try clear hb)
          (try clear hb2)
          (try clear hk)
          (try clear hi)
          (try clear ho0)
          (try clear ho1)
          obtain ⟨Ao107, co107, eo107⟩ := Kd.R_slice HO576.out
          (first | subst eo107 | (injection eo107 with f1_ f2_ f3_; have f4_ := f1_.symm; have f5_ := f3_.symm; clear f1_ f2_ f3_; subst f4_; subst f5_))
          obtain ⟨Ao108, co108, eo108⟩ := Kd.R_slice HO579.out
          (first | subst eo108 | (injection eo108 with f1_ f2_ f3_; have f4_ := f1_.symm; have f5_ := f3_.symm; clear f1_ f2_ f3_; subst f4_; subst f5_))
          obtain ⟨Ao109, co109, eo109⟩ := Kd.R_slice HO582.out
          (first | subst eo109 | (injection eo109 with f1_ f2_ f3_; have f4_ := f1_.symm; have f5_ := f3_.symm; clear f1_ f2_ f3_; subst f4_; subst f5_))
          obtain ⟨Ao110, co110, eo110⟩ := Kd.R_slice HO585.out
          (first | subst eo110 | (injection eo110 with f1_ f2_ f3_; have f4_ := f1_.symm; have f5_ := f3_.symm; clear f1_ f2_ f3_; subst f4_; subst f5_))
          refine hK.out _ _ ⟨(blk_cell BK549.out 0).trans rfl, (blk_cell BK549.out 1).trans rfl, (blk_cell BK566.out 0).trans rfl, (blk_cell BK566.out 1).trans rfl⟩ (fun hHeld => ?_)
          clear hK K
          refine norm_ (a' := ?_) ?_ ?_
          rotate_left
          ·show Act.put _ (some 113) _ = _
           simp only [Act.put, List.setIfInBounds_toArray, List.set_cons_zero, List.set_cons_succ, i64_w, i32_w]
           rfl
          refine one_ (i := 4) (N := some 114) #[true, true, true, true, true, false] rfl rfl (by kernel_rfl) (by decide) (fun K hK => ?_)
          refine goes_ Try.func31 (by kernel_rfl) rfl #[.agg #[.slice Ao107 t574.length co107, .slice Ao108 t577.length co108], .agg #[.slice Ao109 t580.length co109, .slice Ao110 t583.length co110]] (by rfl) rfl rfl bM ?_
          with_reducible refine (laws_lpSec.calls kj71 _ _ t574 _ _ t577 _ _ t580 _ _ t583 t586 _ ?side1 ?side2 ?side3 ?side4 ?side5 ?side6 ?side7 ?side8 A103.out).mono ?_
          (case side1 => exact pC (Kd.R_reads' HO576.out).2.2)
          (case side2 => exact (Kd.R_reads' HO576.out).2.1)
          (case side3 => exact pC (Kd.R_reads' HO579.out).2.2)
          (case side4 => exact (Kd.R_reads' HO579.out).2.1)
          (case side5 => exact pC (Kd.R_reads' HO582.out).2.2)
          (case side6 => exact (Kd.R_reads' HO582.out).2.1)
          (case side7 => exact pC (Kd.R_reads' HO585.out).2.2)
          (case side8 => exact (Kd.R_reads' HO585.out).2.1)
          rintro e w111 ⟨rfl, hb⟩
          refine ⟨_, rfl, ?_⟩
          have n0_ := Aside0.mk (Kd.R_below (pR HO_525000.out) hb)
          have n1_ := Aside0.mk (Kd.R_below (pR HO_525001.out) hb)
          have n2_ := Aside0.mk (Kd.R_below (pR HO_534000.out) hb)
          have n3_ := Aside0.mk (Kd.R_below (pR HO_534001.out) hb)
          have n4_ := Aside0.mk (Kd.R_below (pR HO_542000.out) hb)
          have n5_ := Aside0.mk (Kd.R_below (pR HO_542001.out) hb)
          have n6_ := Aside0.mk (Kd.R_below (pR HO_550000.out) hb)
          have n7_ := Aside0.mk (Kd.R_below (pR HO_550001.out) hb)
          have n8_ := Aside0.mk (Kd.R_below (pR HO_567000.out) hb)
          have n9_ := Aside0.mk (Kd.R_below (pR HO_567001.out) hb)
          have n10_ := Aside0.mk (Kd.R_below (pR HO576.out) hb)
          have n11_ := Aside0.mk (Kd.R_below (pR HO579.out) hb)
          have n12_ := Aside0.mk (Kd.R_below (pR HO582.out) hb)
          have n13_ := Aside0.mk (Kd.R_below (pR HO585.out) hb)
          have n14_ := Aside0.mk (blk_below (g := gb524) (o := .cells #[.slice Ao13 t516.length co13, .slice Ao15 t519.length co15] 26 (0, 0)) (pK BK524.out) hb)
          have n15_ := Aside0.mk (blk_below (g := gb533) (o := .cells #[.slice Ao18 t525.length co18, .slice Ao21 t528.length co21] 26 (0, 0)) (pK BK533.out) hb)
          have n16_ := Aside0.mk (blk_below (g := gb541) (o := .cells #[.slice Ao25 t534.length co25, .slice Ao29 t537.length co29] 26 (0, 0)) (pK BK541.out) hb)
          have n17_ := Aside0.mk (blk_below (g := gb549) (o := .cells #[.slice Ao78 t552.length co78, .slice Ao80 t555.length co80] 26 (0, 0)) (pK BK549.out) hb)
          have n18_ := Aside0.mk (blk_below (g := gb566) (o := .cells #[.slice Ao94 t567.length co94, .slice Ao96 t570.length co96] 26 (0, 0)) (pK BK566.out) hb)
          have n19_ := Aside0.mk (below_step (by repeat (first | (with_reducible first | exact HB.out | apply below_alloc | apply pw_below_drewN | apply below_drew1 | refine below_set ?_ GE524.out | refine below_set ?_ GE533.out | refine below_set ?_ GE541.out | refine below_set ?_ GE549.out | refine below_set ?_ GE566.out) | exact HB.out)) hb)
          clear HO_525000
          clear HO_525001
          clear HO_534000
          clear HO_534001
          clear HO_542000
          clear HO_542001
          clear HO_550000
          clear HO_550001
          clear HO_567000
          clear HO_567001
          clear HO576
          clear HO579
          clear HO582
          clear HO585
          clear BK524
          clear BK533
          clear BK541
          clear BK549
          clear BK566
          clear HB
          have HO_525000 := n0_
          have HO_525001 := n1_
          have HO_534000 := n2_
          have HO_534001 := n3_
          have HO_542000 := n4_
          have HO_542001 := n5_
          have HO_550000 := n6_
          have HO_550001 := n7_
          have HO_567000 := n8_
          have HO_567001 := n9_
          have HO576 := n10_
          have HO579 := n11_
          have HO582 := n12_
          have HO585 := n13_
          have BK524 := n14_
          have BK533 := n15_
          have BK541 := n16_
          have BK549 := n17_
          have BK566 := n18_
          have HB := n19_
          clear n0_ n1_ n2_ n3_ n4_ n5_ n6_ n7_ n8_ n9_ n10_ n11_ n12_ n13_ n14_ n15_ n16_ n17_ n18_ n19_
          (try clear hb)
          (try clear hb2)
          (try clear hk)
          (try clear hi)
          refine hK.out _ _ ⟨(blk_cell BK549.out 0).trans rfl, (blk_cell BK549.out 1).trans rfl, (blk_cell BK566.out 0).trans rfl, (blk_cell BK566.out 1).trans rfl⟩ (fun hHeld => ?_)
          clear hK K
          refine norm_ (a' := ?_) ?_ ?_
          rotate_left
          ·show Act.put _ (some 114) _ = _
           simp only [Act.put, List.setIfInBounds_toArray, List.set_cons_zero, List.set_cons_succ, i64_w, i32_w]
           rfl
          refine pure_ (i := 5) (N := some 4) (v := ?_) (a' := ?_) #[true, true, true, true, true, true] rfl rfl (by kernel_rfl) (fun _ _ _ h => h) (Or.inl ⟨by rfl, ?_⟩) ?_ ?_
          rotate_left
          ·intro w'
           go_simp
           with_reducible rfl
          rotate_left
          ·simp only [Act.put, List.setIfInBounds_toArray, List.set_cons_zero, List.set_cons_succ, i64_w, i32_w]
           rfl
          refine done_ (by kernel_rfl) ?_
          try go_wp2
          go_ret
          exact ⟨by first | rfl | (simp [errW_none, errW_some] <;> rfl) | (simp [*, errW_none, errW_some] <;> rfl), by repeat (first | (with_reducible first | exact HB.out | apply below_alloc | apply pw_below_drewN | apply below_drew1 | refine below_set ?_ GE524.out | refine below_set ?_ GE533.out | refine below_set ?_ GE541.out | refine below_set ?_ GE549.out | refine below_set ?_ GE566.out) | exact HB.out)⟩

/-- THE ONE PURE STATEMENT of laws_FnSecSwap: yours. -/
def laws_FnSecSwap.Pure : Prop := ∀ (l0 : List Int) (l1 : List Int), l0.length ≤ maxLen → l0.length * 1 ≤ 140737488351232 → (∀ x ∈ l0, (Lit.int .u8 x).wf = true) → l1.length ≤ maxLen → l1.length * 1 ≤ 140737488351232 → (∀ x ∈ l1, (Lit.int .u8 x).wf = true) → ∃ k, laws_FnSecSwap.f k l0 l1 = some true
theorem laws_FnSecSwap.walk (P : laws_FnSecSwap.Pure) (a0 : Option Addr) (len0 cap0 : Nat) (z0 : List Int) (a1 : Option Addr) (len1 cap1 : Nat) (z1 : List Int) (w : World) (w0 : (a0 = none ∧ len0 = 0 ∧ cap0 = 0 ∧ z0 = []) ∨ ∃ x, a0 = some x ∧ len0 ≤ cap0 ∧ cap0 ≤ maxLen ∧ z0.length = cap0 ∧ (∀ i, i < z0.length → w.cell? (x.add i) = some (.int .u8 (z0.getD i 0))) ∧ ∀ n ∈ z0, (Lit.int .u8 n).wf = true) (y0 : len0 * 1 ≤ 140737488351232) (w1 : (a1 = none ∧ len1 = 0 ∧ cap1 = 0 ∧ z1 = []) ∨ ∃ x, a1 = some x ∧ len1 ≤ cap1 ∧ cap1 ≤ maxLen ∧ z1.length = cap1 ∧ (∀ i, i < z1.length → w.cell? (x.add i) = some (.int .u8 (z1.getD i 0))) ∧ ∀ n ∈ z1, (Lit.int .u8 n).wf = true) (y1 : len1 * 1 ≤ 140737488351232) :
  Calls Try.prog 8 #[.slice a0 len0 cap0, .slice a1 len1 cap1] w fun e w' => e = .returned (.bool true) ∧ Below w.heap.size w w' := by
 obtain ⟨l0, rfl, hr0, hm0, hw0, hc0⟩ := ReadsInt.ofRowC w0
 obtain ⟨l1, rfl, hr1, hm1, hw1, hc1⟩ := ReadsInt.ofRowC w1
 obtain ⟨k, h⟩ := P l0 l1 hm0 y0 hw0 hm1 y1 hw1
 refine (laws_FnSecSwap.calls k _ _ l0 _ _ l1 true w (Kd.C_of_reads (d := (0 : Int)) (h1 := fun _ => rfl) hr0) hc0 (Kd.C_of_reads (d := (0 : Int)) (h1 := fun _ => rfl) hr1) hc1 h).mono ?_
 rintro e w' ⟨rfl, hd⟩
 exact ⟨rfl, hd⟩

end Go.Proofs.Ythkdhcaojhbfoaa.P
