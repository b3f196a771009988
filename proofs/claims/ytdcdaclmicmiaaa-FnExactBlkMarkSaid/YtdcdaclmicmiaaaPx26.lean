-- printed by pprint.py (this session's program over the kit's printer) out of the translation. Lean checks it.
import Derived.Test.YtdcdaclmicmiaaaPx0
import Derived.Test.YtdcdaclmicmiaaaPx17
import Derived.Test.YtdcdaclmicmiaaaPx19
namespace Go.Proofs.Ytdcdaclmicmiaaa.P
open Go.RowKit Go.Proofs.YtdcdaclmicmiaaaX Go.Proofs.YtdcdaclmicmiaaaW.PrintWords Go.Proofs.YtdcdaclmicmiaaaW.PrintLast Go.Proofs.YtdcdaclmicmiaaaW.PrintMore
attribute [local go_sem] max2_int min2_int max_two min_two max_three min_three max_four min_four   -- for this text's walks alone
set_option linter.unusedVariables false
set_option linter.unusedSimpArgs false

/-! ### laws_markBlkLastS: function 31 -/
def laws_markBlkLastS.l0 : Nat → List (S59) → Int → Int → Option (Int × (List (S59)))
 | 0, _, _, _ => none
 | k + 1, x0, x1, x5 => if x5 < (x0.length : Int) then (if 0 ≤ x5 then ((some (x0.set (x5 : Int).toNat (⟨x1, (rd_T59 x0 x5).f1⟩ : S59) : List (S59))).bind fun y321 => (laws_markBlkLastS.l0 k (y321.set (x5 : Int).toNat (⟨(rd_T59 y321 x5).f0, wrap64 (x1 + 1)⟩ : S59)) (wrap64 ((wrap64 (x1 + 1)) + 1)) (wrap64 (x5 + 1)))) else (none)) else (some (x1, x0))
def laws_markBlkLastS.f (k : Nat) (l0 : List (S59)) (a1 : Int) : Option (Int × (List (S59))) := laws_markBlkLastS.l0 k l0 a1 0
theorem laws_markBlkLastS.mono_l : ∀ k, (∀ y0 y1 y2, LeO (laws_markBlkLastS.l0 k y0 y1 y2) (laws_markBlkLastS.l0 (k + 1) y0 y1 y2))
 | 0 => fun _ _ _ r h => by simp [laws_markBlkLastS.l0] at h
 | k + 1 => by
  have ih0 := laws_markBlkLastS.mono_l k
  ·intro y0 y1 y2
   unfold laws_markBlkLastS.l0
   repeat' first
   | (with_reducible exact ih0 _ _ _)
   | (with_reducible exact LeO.refl _)
   | (with_reducible exact LeO.none _)
   | (with_reducible refine LeO.ite ?_ ?_)
   | (with_reducible refine LeO.bind ?_ (fun _ => ?_))
   | exact ih0 _ _ _
   | exact LeO.none _
   | refine LeO.ite ?_ ?_
   | refine LeO.bind ?_ (fun _ => ?_)
theorem laws_markBlkLastS.mono : ∀ a0 a1 k, LeO (laws_markBlkLastS.f k a0 a1) (laws_markBlkLastS.f (k + 1) a0 a1) := by
 intro a0 a1 k
 have ih0 := laws_markBlkLastS.mono_l k
 unfold laws_markBlkLastS.f
 repeat' first
   | (with_reducible exact ih0 _ _ _)
   | (with_reducible exact LeO.refl _)
   | (with_reducible exact LeO.none _)
   | (with_reducible refine LeO.ite ?_ ?_)
   | (with_reducible refine LeO.bind ?_ (fun _ => ?_))
   | exact ih0 _ _ _
   | exact LeO.none _
   | refine LeO.ite ?_ ?_
   | refine LeO.bind ?_ (fun _ => ?_)
set_option maxHeartbeats 8000000 in
set_option maxRecDepth 100000 in
theorem laws_markBlkLastS.calls (k : Nat) (P0_ : Nat → Prop) (u9000_ : Value) (l0 : List (S59)) (a1 : Int) (r1 : Int) (r2 : List (S59)) (w0 w : World) (hB : Below w0.heap.size w0 w) (ho0 : Kd.R k59 59 w w0.heap.size P0_ u9000_ l0) (h : laws_markBlkLastS.f k l0 a1 = some (r1, r2)) :
  Calls Try.prog 31 #[u9000_, .int .i64 a1] w fun e w' => e = .returned (.int .i64 r1) ∧ Kd.R k59 59 w' w0.heap.size (fun k_ => (P0_ k_ ∨ w.heap.size ≤ k_)) u9000_ r2 ∧ Below w0.heap.size w0 w' ∧ Kept w w' (fun k_ => P0_ k_) := by
 have HO0 := Aside0.mk (show Kd.R k59 59 w w0.heap.size (fun k_ => (P0_ k_ ∨ w.heap.size ≤ k_)) u9000_ l0 from Kd.R_mono ho0 (fun k_ hk => (.inl hk)))
 have HK := Aside0.mk (Kept.refl w (fun k_ => P0_ k_))
 have HW0 := Aside0.mk hB.size
 have HB := Aside0.mk hB
 clear hB
 have H : (laws_markBlkLastS.l0 k l0 a1 0) = some (r1, r2) := h
 clear h
 have H' := Aside0.mk H
 clear H
 go_enter Try.func31, Try.ntmps31
 go_wp2
 go_loopg [1, 5] k (fun kq v1 v5 w' => ∃ (x0_1 : List (S59)) (x1_1 : Int) (x5_1 : Int), v1 = .int .i64 x1_1 ∧ v5 = .int .i64 x5_1 ∧ Aside0 (laws_markBlkLastS.l0 kq x0_1 x1_1 x5_1 = some (r1, r2)) ∧ Aside0 (kq ≤ k) ∧ Aside0 (Kd.R k59 59 w' w0.heap.size (fun k_ => (P0_ k_ ∨ w.heap.size ≤ k_)) u9000_ x0_1) ∧ Aside0 (Kept w w' (fun k_ => P0_ k_)) ∧ Aside0 (Below w0.heap.size w0 w'))
 case atStart => exact ⟨(l0), (a1), (0), (by first | rfl | (simp; done) | (simp [*]; done)), (by first | rfl | (simp; done) | (simp [*]; done)), H', ⟨Nat.le_refl _⟩, ⟨pR HO0.out⟩, ⟨by repeat (first | (with_reducible first | exact HK.out | apply Kept.alloc | apply Kept.drewN | apply Kept.drew) | exact HK.out)⟩, ⟨pB HB.out⟩⟩
 case round =>
  clear H'
  try clear p2
  obtain ⟨x0_1, x1_1, x5_1, rfl, rfl, HA, HK1, HO_0, HK, HB⟩ := hrel
  cases gk with
  | zero => exact absurd HA.out (by simp [laws_markBlkLastS.l0])
  | succ k1 =>
   have H := HA.out
   clear HA
   simp only [laws_markBlkLastS.l0] at H
   by_cases c3 : x5_1 < (x0_1.length : Int)
   ·rw [if_pos c3] at H
    have c3b0 : decide (x5_1 < (x0_1.length : Int)) = true := decide_eq_true c3
    clear c3
    by_cases c4 : 0 ≤ x5_1
    ·rw [if_pos c4] at H
     have c4b0 : decide (0 ≤ x5_1) = true := decide_eq_true c4
     clear c4
     obtain ⟨y321, hy321⟩ : ∃ y_ : List (S59), y_ = (x0_1.set (x5_1 : Int).toNat (⟨x1_1, (rd_T59 x0_1 x5_1).f1⟩ : S59)) := ⟨_, rfl⟩
     replace H : (laws_markBlkLastS.l0 k1 (y321.set (x5_1 : Int).toNat (⟨(rd_T59 y321 x5_1).f0, wrap64 (x1_1 + 1)⟩ : S59)) (wrap64 ((wrap64 (x1_1 + 1)) + 1)) (wrap64 (x5_1 + 1))) = some (r1, r2) := by first | (rw [hy321]; with_reducible exact H) | (have H2_ := (Option.bind_some _ _).symm.trans H; rw [hy321]; with_reducible exact H2_) | (have H2_ := (Option.bind_some _ _).symm.trans H; with_reducible exact H2_) | with_reducible exact H | (rw [hy321]; exact H) | exact H
     have Ny321 := Aside0.mk hy321
     clear hy321
     obtain ⟨y322, hy322⟩ : ∃ y_ : List (S59), y_ = (y321.set (x5_1 : Int).toNat (⟨(rd_T59 y321 x5_1).f0, wrap64 (x1_1 + 1)⟩ : S59)) := ⟨_, rfl⟩
     replace H : (laws_markBlkLastS.l0 k1 y322 (wrap64 ((wrap64 (x1_1 + 1)) + 1)) (wrap64 (x5_1 + 1))) = some (r1, r2) := by first | (rw [hy322]; with_reducible exact H) | (have H2_ := (Option.bind_some _ _).symm.trans H; rw [hy322]; with_reducible exact H2_) | (have H2_ := (Option.bind_some _ _).symm.trans H; with_reducible exact H2_) | with_reducible exact H | (rw [hy322]; exact H) | exact H
     have Ny322 := Aside0.mk hy322
     clear hy322
     have H' := Aside0.mk H
     clear H
     obtain ⟨Ao7, co7, eo7⟩ := Kd.R_slice HO_0.out
     subst eo7
     have p5 : 0 ≤ (x5_1 : Int) := of_decide_eq_true bA
     have q5 : (x5_1 : Int) < ((x0_1.length : Int) : Int) := of_decide_eq_true bA
     obtain ⟨go5, co5, eo5, gb5, gl5, cl5, HG5⟩ := Kd.R_form HO_0.out (by omega)
     (first | cases eo5 | (injection eo5 with ea_ en_ ec_; (first | subst ea_ | (injection ea_ with ea_; subst ea_)); subst ec_; clear en_))
     have GB5 := Aside0.mk gb5
     have GG5 := Aside0.mk HG5
     clear gb5 gl5 HG5
     have HMgo5 := Aside0.mk (show (P0_ go5 ∨ w.heap.size ≤ go5) from (HO_0.out.1 _ rfl))
     obtain ⟨ce5, hcl5, hM5, hcc5, hfr5⟩ := Kd.R_elem HO_0.out z59 (x5_1 : Int) p5 q5
     obtain rfl := k59_openM hM5
     have hx5_0 : wr.cell? ⟨go5, (x5_1 : Int).toNat * 2, none⟩ = some (.int .i64 ((rd_T59 x0_1 x5_1).f0)) := hcc5 0 _ rfl
     have hx5_1 : wr.cell? ⟨go5, (x5_1 : Int).toNat * 2 + 1, none⟩ = some (.int .i64 ((rd_T59 x0_1 x5_1).f1)) := hcc5 1 _ rfl
     have hf5_0 : wr.frozen? ⟨go5, (x5_1 : Int).toNat * 2, none⟩ = false := hfr5 0
     have hf5_1 : wr.frozen? ⟨go5, (x5_1 : Int).toNat * 2 + 1, none⟩ = false := hfr5 1
     clear hcl5 hcc5 hfr5 hM5
     replace p5 := eq_true p5
     replace q5 := eq_true q5
     have HX8 := Aside0.mk (show Kd.R k59 59 wr w0.heap.size (fun k_ => (P0_ k_ ∨ w.heap.size ≤ k_)) (.slice (some ⟨go5, 0, none⟩) x0_1.length co7) x0_1 from (pR HO_0.out))
     obtain ⟨ce8, hcl8, hM8, hcc8, hfr8⟩ := Kd.R_elem HX8.out z59 (x5_1 : Int) (of_decide_eq_true bA) (by have h_ : (x5_1 : Int) < ((x0_1.length : Int) : Int) := of_decide_eq_true bA; first | exact h_ | (have e_ := (Kd.R_reads' HO_0.out).1; omega) | simpa using h_)
     obtain rfl := k59_openM hM8
     have HP8 := Kd.R_seg HX8.out (x5_1 : Int) (of_decide_eq_true bA) (by have h_ : (x5_1 : Int) < ((x0_1.length : Int) : Int) := of_decide_eq_true bA; first | exact h_ | (have e_ := (Kd.R_reads' HO_0.out).1; omega) | simpa using h_) (seg := [.int .i64 x1_1]) (j := 0) hcl8 hcc8 (show 1 ≤ 2 from by decide) (x' := (⟨x1_1, (rd_T59 x0_1 x5_1).f1⟩ : S59)) (k59_mkM _ _ _ (⟨x1_1, (rd_T59 x0_1 x5_1).f1⟩ : S59) ) (fun _ hk => hk)
     have hx8_0 := hcc8 0 _ rfl
     (try simp only [show (k59).sz = 2 from rfl, Nat.mul_one, Nat.add_zero] at hx8_0)
     have hf8_0 := hfr8 0
     (try simp only [show (k59).sz = 2 from rfl, Nat.mul_one, Nat.add_zero] at hf8_0)
     clear hcl8 hcc8 hfr8 hM8
     go_wp2_with (first | ((with_reducible refine gate_store (t := 3) (p := 16) rfl ?_); refine store_event (t := 3) (p := 16) (v := ?vo_w9) (w1 := (wr.setCell ⟨go5, (x5_1 : Int).toNat * 2, none⟩ (.int .i64 x1_1))) ?hg ?ho ?hn ?hr ?_; (case ho => rfl); (case hg => rfl); (case hn => rfl); (case hr => first | (go_simp; done) | (go_simp; rfl)); intro w9 hw; have hg : wr.grownBy w9 (some go5) := (by rw [hw]; exact HP8.2); have hp_ : Kd.R k59 59 w9 w0.heap.size (fun k_ => (P0_ k_ ∨ w.heap.size ≤ k_)) (.slice (some ⟨go5, 0, none⟩) x0_1.length co7) y321 := (by rw [hw, Ny321.out]; exact HP8.1); clear HP8; have n0_ := Aside0.mk (hp_); have n1_ := Aside0.mk ((by rw [hw]; exact below_set (HB.out) GB5.out : Below w0.heap.size w0 w9)); have n2_ := Aside0.mk (Kept.of_grown (S := (fun k_ => P0_ k_)) hg (by repeat (first | (with_reducible first | exact HK.out | apply Kept.alloc | apply Kept.drewN | apply Kept.drew) | exact HK.out)) (fun k_ e_ => (HO_0.out.1 k_ e_))); clear HO_0; clear HB; clear HK; have HO_0 := n0_; have HB := n1_; have HK := n2_; clear n0_ n1_ n2_; clear hg hw hp_; have p6 : 0 ≤ (x5_1 : Int) := of_decide_eq_true bA; have q6 : (x5_1 : Int) < ((x0_1.length : Int) : Int) := of_decide_eq_true bA; obtain ⟨ce6, hcl6, hM6, hcc6, hfr6⟩ := Kd.R_elem HO_0.out z59 (x5_1 : Int) p6 q6; obtain rfl := k59_openM hM6; have hx6_0 : w9.cell? ⟨go5, (x5_1 : Int).toNat * 2, none⟩ = some (.int .i64 ((rd_T59 y321 x5_1).f0)) := hcc6 0 _ rfl; have hx6_1 : w9.cell? ⟨go5, (x5_1 : Int).toNat * 2 + 1, none⟩ = some (.int .i64 ((rd_T59 y321 x5_1).f1)) := hcc6 1 _ rfl; have hf6_0 : w9.frozen? ⟨go5, (x5_1 : Int).toNat * 2, none⟩ = false := hfr6 0; have hf6_1 : w9.frozen? ⟨go5, (x5_1 : Int).toNat * 2 + 1, none⟩ = false := hfr6 1; clear hcl6 hcc6 hfr6 hM6; replace p6 := eq_true p6; replace q6 := eq_true q6; have HX10 := Aside0.mk (show Kd.R k59 59 w9 w0.heap.size (fun k_ => (P0_ k_ ∨ w.heap.size ≤ k_)) (.slice (some ⟨go5, 0, none⟩) x0_1.length co7) y321 from (pR HO_0.out)); obtain ⟨ce10, hcl10, hM10, hcc10, hfr10⟩ := Kd.R_elem HX10.out z59 (x5_1 : Int) (of_decide_eq_true bA) (by have h_ : (x5_1 : Int) < ((x0_1.length : Int) : Int) := of_decide_eq_true bA; first | exact h_ | (have e_ := (Kd.R_reads' HO_0.out).1; omega) | simpa using h_); obtain rfl := k59_openM hM10; have HP10 := Kd.R_seg HX10.out (x5_1 : Int) (of_decide_eq_true bA) (by have h_ : (x5_1 : Int) < ((x0_1.length : Int) : Int) := of_decide_eq_true bA; first | exact h_ | (have e_ := (Kd.R_reads' HO_0.out).1; omega) | simpa using h_) (seg := [.int .i64 (wrap64 (x1_1 + 1))]) (j := 1) hcl10 hcc10 (show 2 ≤ 2 from by decide) (x' := (⟨(rd_T59 y321 x5_1).f0, wrap64 (x1_1 + 1)⟩ : S59)) (k59_mkM _ _ _ (⟨(rd_T59 y321 x5_1).f0, wrap64 (x1_1 + 1)⟩ : S59) ) (fun _ hk => hk); have hx10_1 := hcc10 1 _ rfl; (try simp only [show (k59).sz = 2 from rfl, Nat.mul_one, Nat.add_zero] at hx10_1); have hf10_1 := hfr10 1; (try simp only [show (k59).sz = 2 from rfl, Nat.mul_one, Nat.add_zero] at hf10_1); clear hcl10 hcc10 hfr10 hM10) | ((with_reducible refine gate_store (t := 3) (p := 23) rfl ?_); refine store_event (t := 3) (p := 23) (v := ?vo_w11) (w1 := (w9.setCell ⟨go5, (x5_1 : Int).toNat * 2 + 1, none⟩ (.int .i64 (wrap64 (x1_1 + 1))))) ?hg ?ho ?hn ?hr ?_; (case ho => rfl); (case hg => rfl); (case hn => rfl); (case hr => first | (go_simp; done) | (go_simp; rfl)); intro w11 hw; have hg : w9.grownBy w11 (some go5) := (by rw [hw]; exact HP10.2); have hp_ : Kd.R k59 59 w11 w0.heap.size (fun k_ => (P0_ k_ ∨ w.heap.size ≤ k_)) (.slice (some ⟨go5, 0, none⟩) x0_1.length co7) y322 := (by rw [hw, Ny322.out]; exact HP10.1); clear HP10; have n0_ := Aside0.mk (hp_); have n1_ := Aside0.mk ((by rw [hw]; exact below_set (HB.out) GB5.out : Below w0.heap.size w0 w11)); have n2_ := Aside0.mk (Kept.of_grown (S := (fun k_ => P0_ k_)) hg (by repeat (first | (with_reducible first | exact HK.out | apply Kept.alloc | apply Kept.drewN | apply Kept.drew) | exact HK.out)) (fun k_ e_ => (HO_0.out.1 k_ e_))); clear HO_0; clear HB; clear HK; have HO_0 := n0_; have HB := n1_; have HK := n2_; clear n0_ n1_ n2_; clear hg hw hp_))
     go_roundg k1
     case measure => have := HK1.out; omega
     case rel => exact ⟨(y322), (wrap64 ((wrap64 (x1_1 + 1)) + 1)), (wrap64 (x5_1 + 1)), (by first | rfl | (simp; done) | (simp [*]; done)), (by first | rfl | (simp; done) | (simp [*]; done)), H', ⟨by have := HK1.out; omega⟩, ⟨pR HO_0.out⟩, ⟨by repeat (first | (with_reducible first | exact HK.out | apply Kept.alloc | apply Kept.drewN | apply Kept.drew) | exact HK.out)⟩, ⟨pB HB.out⟩⟩
    ·rw [if_neg c4] at H
     exact absurd H (by simp)
   ·rw [if_neg c3] at H
    have c3b0 : decide (x5_1 < (x0_1.length : Int)) = false := decide_eq_false c3
    clear c3
    simp only [Option.some.injEq, Prod.mk.injEq] at H
    obtain ⟨rfl, rfl⟩ := H
    obtain ⟨Ao12, co12, eo12⟩ := Kd.R_slice HO_0.out
    subst eo12
    go_wp2
    go_ret
    exact ⟨by first | rfl | (simp [errW_none, errW_some] <;> rfl) | (simp [*, errW_none, errW_some] <;> rfl), pR HO_0.out, pB HB.out, by repeat (first | (with_reducible first | exact HK.out | apply Kept.alloc | apply Kept.drewN | apply Kept.drew) | exact HK.out)⟩

/-! ### laws_heldBlkLastS: function 32 -/
def laws_heldBlkLastS.l0 : Nat → List (S59) → Int → Int → Option (Int)
 | 0, _, _, _ => none
 | k + 1, x0, x1, x5 => if x5 < (x0.length : Int) then (if 0 ≤ x5 then (if ((rd_T59 x0 x5).f0) = x1 then (if ((rd_T59 x0 x5).f1) = (wrap64 (x1 + 1)) then (laws_heldBlkLastS.l0 k x0 (wrap64 ((wrap64 (x1 + 1)) + 1)) (wrap64 (x5 + 1))) else (some (-1))) else (some (-1))) else (none)) else (some x1)
def laws_heldBlkLastS.f (k : Nat) (l0 : List (S59)) (a1 : Int) : Option (Int) := laws_heldBlkLastS.l0 k l0 a1 0
theorem laws_heldBlkLastS.mono_l : ∀ k, (∀ y0 y1 y2, LeO (laws_heldBlkLastS.l0 k y0 y1 y2) (laws_heldBlkLastS.l0 (k + 1) y0 y1 y2))
 | 0 => fun _ _ _ r h => by simp [laws_heldBlkLastS.l0] at h
 | k + 1 => by
  have ih0 := laws_heldBlkLastS.mono_l k
  ·intro y0 y1 y2
   unfold laws_heldBlkLastS.l0
   repeat' first
   | (with_reducible exact ih0 _ _ _)
   | (with_reducible exact LeO.refl _)
   | (with_reducible exact LeO.none _)
   | (with_reducible refine LeO.ite ?_ ?_)
   | (with_reducible refine LeO.bind ?_ (fun _ => ?_))
   | exact ih0 _ _ _
   | exact LeO.none _
   | refine LeO.ite ?_ ?_
   | refine LeO.bind ?_ (fun _ => ?_)
theorem laws_heldBlkLastS.mono : ∀ a0 a1 k, LeO (laws_heldBlkLastS.f k a0 a1) (laws_heldBlkLastS.f (k + 1) a0 a1) := by
 intro a0 a1 k
 have ih0 := laws_heldBlkLastS.mono_l k
 unfold laws_heldBlkLastS.f
 repeat' first
   | (with_reducible exact ih0 _ _ _)
   | (with_reducible exact LeO.refl _)
   | (with_reducible exact LeO.none _)
   | (with_reducible refine LeO.ite ?_ ?_)
   | (with_reducible refine LeO.bind ?_ (fun _ => ?_))
   | exact ih0 _ _ _
   | exact LeO.none _
   | refine LeO.ite ?_ ?_
   | refine LeO.bind ?_ (fun _ => ?_)
set_option maxHeartbeats 8000000 in
set_option maxRecDepth 100000 in
theorem laws_heldBlkLastS.calls (k : Nat) (A0 : Option Addr) (c0 : Nat) (l0 : List (S59)) (a1 : Int) (r : Int) (w : World) (hr0 : Kd.C k59 w A0 l0.length l0) (hc0 : l0.length ≤ c0) (h : laws_heldBlkLastS.f k l0 a1 = some r) :
  Calls Try.prog 32 #[.slice A0 l0.length c0, .int .i64 a1] w fun e w' => e = .returned (.int .i64 r) ∧ Drawn0 w w' := by
 have HR0 := Aside0.mk hr0
 have HC0 := Aside0.mk hc0
 clear hr0 hc0
 have H : (laws_heldBlkLastS.l0 k l0 a1 0) = some r := h
 clear h
 have H' := Aside0.mk H
 clear H
 go_enter Try.func32, Try.ntmps32
 go_wp2
 go_loopg [1, 5] k (fun kq v1 v5 w' => ∃ (x1_1 : Int) (x5_1 : Int), v1 = .int .i64 x1_1 ∧ v5 = .int .i64 x5_1 ∧ Aside0 (laws_heldBlkLastS.l0 kq l0 x1_1 x5_1 = some r) ∧ Aside0 (kq ≤ k) ∧ Drawn0 w w')
 case atStart => exact ⟨(a1), (0), (by first | rfl | (simp; done) | (simp [*]; done)), (by first | rfl | (simp; done) | (simp [*]; done)), H', ⟨Nat.le_refl _⟩, by repeat (first | exact Drawn0.refl _ | apply Drawn0.step)⟩
 case round =>
  clear H'
  try clear p2
  obtain ⟨x1_1, x5_1, rfl, rfl, HA, HK1, ⟨m1, rfl⟩⟩ := hrel
  cases gk with
  | zero => exact absurd HA.out (by simp [laws_heldBlkLastS.l0])
  | succ k1 =>
   have H := HA.out
   clear HA
   simp only [laws_heldBlkLastS.l0] at H
   by_cases c3 : x5_1 < (l0.length : Int)
   ·rw [if_pos c3] at H
    have c3b0 : decide (x5_1 < (l0.length : Int)) = true := decide_eq_true c3
    clear c3
    by_cases c4 : 0 ≤ x5_1
    ·rw [if_pos c4] at H
     have c4b0 : decide (0 ≤ x5_1) = true := decide_eq_true c4
     clear c4
     by_cases c5 : ((rd_T59 l0 x5_1).f0) = x1_1
     ·rw [if_pos c5] at H
      have c5b0 : (((rd_T59 l0 x5_1).f0) == x1_1) = true := beq_iff_eq.mpr c5
      have c5b1 : (((rd_T59 l0 x5_1).f0) != x1_1) = false := bne_eq_false_iff_eq.mpr c5
      clear c5
      by_cases c6 : ((rd_T59 l0 x5_1).f1) = (wrap64 (x1_1 + 1))
      ·rw [if_pos c6] at H
       have c6b0 : (((rd_T59 l0 x5_1).f1) == (wrap64 (x1_1 + 1))) = true := beq_iff_eq.mpr c6
       have c6b1 : (((rd_T59 l0 x5_1).f1) != (wrap64 (x1_1 + 1))) = false := bne_eq_false_iff_eq.mpr c6
       clear c6
       have H' := Aside0.mk H
       clear H
       have p323 : 0 ≤ (x5_1 : Int) := of_decide_eq_true bA
       have q323 : x5_1 < (l0.length : Int) := of_decide_eq_true bA
       obtain ⟨ad323, e323, hx323_0, hx323_1⟩ := at_T59 HR0.out x5_1 p323 q323
       cases e323
       replace p323 := eq_true p323
       replace q323 := eq_true q323
       have p324 : 0 ≤ (x5_1 : Int) := of_decide_eq_true bA
       have q324 : x5_1 < (l0.length : Int) := of_decide_eq_true bA
       obtain ⟨ad324, e324, hx324_0, hx324_1⟩ := at_T59 HR0.out x5_1 p324 q324
       obtain rfl : ad323 = ad324 := (by injection e324)
       replace p324 := eq_true p324
       replace q324 := eq_true q324
       go_wp2
       go_roundg k1
       case measure => have := HK1.out; omega
       case rel => exact ⟨(wrap64 ((wrap64 (x1_1 + 1)) + 1)), (wrap64 (x5_1 + 1)), (by first | rfl | (simp; done) | (simp [*]; done)), (by first | rfl | (simp; done) | (simp [*]; done)), H', ⟨by have := HK1.out; omega⟩, by repeat (first | exact Drawn0.refl _ | apply Drawn0.step)⟩
      ·rw [if_neg c6] at H
       have c6b0 : (((rd_T59 l0 x5_1).f1) == (wrap64 (x1_1 + 1))) = false := beq_eq_false_iff_ne.mpr c6
       have c6b1 : (((rd_T59 l0 x5_1).f1) != (wrap64 (x1_1 + 1))) = true := bne_iff_ne.mpr c6
       obtain rfl := Option.some.inj H
       have p323 : 0 ≤ (x5_1 : Int) := of_decide_eq_true bA
       have q323 : x5_1 < (l0.length : Int) := of_decide_eq_true bA
       obtain ⟨ad323, e323, hx323_0, hx323_1⟩ := at_T59 HR0.out x5_1 p323 q323
       cases e323
       replace p323 := eq_true p323
       replace q323 := eq_true q323
       have p324 : 0 ≤ (x5_1 : Int) := of_decide_eq_true bA
       have q324 : x5_1 < (l0.length : Int) := of_decide_eq_true bA
       obtain ⟨ad324, e324, hx324_0, hx324_1⟩ := at_T59 HR0.out x5_1 p324 q324
       obtain rfl : ad323 = ad324 := (by injection e324)
       replace p324 := eq_true p324
       replace q324 := eq_true q324
       go_wp2
       go_ret
       exact ⟨by first | rfl | (simp; done) | (simp [*]; done), by repeat (first | exact Drawn0.refl _ | apply Drawn0.step)⟩
     ·rw [if_neg c5] at H
      have c5b0 : (((rd_T59 l0 x5_1).f0) == x1_1) = false := beq_eq_false_iff_ne.mpr c5
      have c5b1 : (((rd_T59 l0 x5_1).f0) != x1_1) = true := bne_iff_ne.mpr c5
      obtain rfl := Option.some.inj H
      have p323 : 0 ≤ (x5_1 : Int) := of_decide_eq_true bA
      have q323 : x5_1 < (l0.length : Int) := of_decide_eq_true bA
      obtain ⟨ad323, e323, hx323_0, hx323_1⟩ := at_T59 HR0.out x5_1 p323 q323
      cases e323
      replace p323 := eq_true p323
      replace q323 := eq_true q323
      go_wp2
      go_ret
      exact ⟨by first | rfl | (simp; done) | (simp [*]; done), by repeat (first | exact Drawn0.refl _ | apply Drawn0.step)⟩
    ·rw [if_neg c4] at H
     exact absurd H (by simp)
   ·rw [if_neg c3] at H
    have c3b0 : decide (x5_1 < (l0.length : Int)) = false := decide_eq_false c3
    clear c3
    obtain rfl := Option.some.inj H
    go_wp2
    go_ret
    exact ⟨by first | rfl | (simp; done) | (simp [*]; done), by repeat (first | exact Drawn0.refl _ | apply Drawn0.step)⟩

/-! ### laws_FnExactBlkMark: function 7 -/
def laws_FnExactBlkMark.j0 : Nat → List (S61) → Int → Int → List (S59) → List (S59) → Bool → Option (Bool)
 | 0, _, _, _, _, _, _ => none
 | k + 1, x0, x1, x2, x8, x10, x50 => if x50 = true then (some false) else ((laws_markBlkLastS.f k x10 1).bind fun bt346 => ((laws_heldBlkLastS.f k bt346.2 1).bind fun t348 => (if t348 < 0 then (some false) else (if t348 = bt346.1 then ((laws_toBlkLastS.f k x0).bind fun t349 => ((impl_BlkMark.f k t349 x1 x2).bind fun t352 => ((laws_eqBlkLastS.f k t352 x8).bind fun t355 => (if t355 = true then ((laws_heldBlkLastS.f k bt346.2 1).bind fun t356 => (if t356 < 0 then (some false) else (if t356 = bt346.1 then (some true) else (some false)))) else (some false))))) else (some false)))))
def laws_FnExactBlkMark.f (k : Nat) (l0 : List (S61)) (a1 : Int) (a2 : Int) : Option (Bool) := (laws_szBlkLastS.f l0 1048576).bind fun t325 => (if t325 < 0 then (some true) else ((laws_toBlkLastS.f k l0).bind fun t326 => ((spec_BlkMark.f k t326 a1 a2).bind fun t329 => ((laws_toBlkLastS.f k l0).bind fun t332 => ((impl_BlkMark.f k t332 a1 a2).bind fun t335 => ((laws_eqBlkLastS.f k t335 t329).bind fun t338 => (if t338 = true then ((laws_toBlkLastS.f k l0).bind fun t339 => ((laws_eqBlkLastS.f k t332 t339).bind fun t342 => (if t342 = true then ((laws_markBlkLastS.f k t332 1).bind fun bt343 => (if bt343.1 < 0 then (laws_FnExactBlkMark.j0 k l0 a1 a2 t329 t335 true) else ((laws_eqBlkLastS.f k t335 t329).bind fun t345 => (laws_FnExactBlkMark.j0 k l0 a1 a2 t329 t335 (!t345))))) else (some false)))) else (some false))))))))
theorem laws_FnExactBlkMark.mono_l : ∀ k, (∀ y0 y1 y2 y3 y4 y5, LeO (laws_FnExactBlkMark.j0 k y0 y1 y2 y3 y4 y5) (laws_FnExactBlkMark.j0 (k + 1) y0 y1 y2 y3 y4 y5))
 | 0 => fun _ _ _ _ _ _ r h => by simp [laws_FnExactBlkMark.j0] at h
 | k + 1 => by
  have ih0 := laws_FnExactBlkMark.mono_l k
  ·intro y0 y1 y2 y3 y4 y5
   unfold laws_FnExactBlkMark.j0
   repeat' first
   | (with_reducible exact ih0 _ _ _ _ _ _)
   | (with_reducible exact impl_BlkMark.mono _ _ _ _)
   | (with_reducible exact laws_eqBlkLastS.mono _ _ _)
   | (with_reducible exact laws_heldBlkLastS.mono _ _ _)
   | (with_reducible exact laws_markBlkLastS.mono _ _ _)
   | (with_reducible exact laws_toBlkLastS.mono _ _)
   | (with_reducible exact spec_BlkMark.mono _ _ _ _)
   | (with_reducible exact LeO.refl _)
   | (with_reducible exact LeO.none _)
   | (with_reducible refine LeO.ite ?_ ?_)
   | (with_reducible refine LeO.bind ?_ (fun _ => ?_))
   | exact ih0 _ _ _ _ _ _
   | exact impl_BlkMark.mono _ _ _ _
   | exact laws_eqBlkLastS.mono _ _ _
   | exact laws_heldBlkLastS.mono _ _ _
   | exact laws_markBlkLastS.mono _ _ _
   | exact laws_toBlkLastS.mono _ _
   | exact spec_BlkMark.mono _ _ _ _
   | exact LeO.none _
   | refine LeO.ite ?_ ?_
   | refine LeO.bind ?_ (fun _ => ?_)
theorem laws_FnExactBlkMark.mono : ∀ a0 a1 a2 k, LeO (laws_FnExactBlkMark.f k a0 a1 a2) (laws_FnExactBlkMark.f (k + 1) a0 a1 a2) := by
 intro a0 a1 a2 k
 have ih0 := laws_FnExactBlkMark.mono_l k
 unfold laws_FnExactBlkMark.f
 repeat' first
   | (with_reducible exact ih0 _ _ _ _ _ _)
   | (with_reducible exact impl_BlkMark.mono _ _ _ _)
   | (with_reducible exact laws_eqBlkLastS.mono _ _ _)
   | (with_reducible exact laws_heldBlkLastS.mono _ _ _)
   | (with_reducible exact laws_markBlkLastS.mono _ _ _)
   | (with_reducible exact laws_toBlkLastS.mono _ _)
   | (with_reducible exact spec_BlkMark.mono _ _ _ _)
   | (with_reducible exact LeO.refl _)
   | (with_reducible exact LeO.none _)
   | (with_reducible refine LeO.ite ?_ ?_)
   | (with_reducible refine LeO.bind ?_ (fun _ => ?_))
   | exact ih0 _ _ _ _ _ _
   | exact impl_BlkMark.mono _ _ _ _
   | exact laws_eqBlkLastS.mono _ _ _
   | exact laws_heldBlkLastS.mono _ _ _
   | exact laws_markBlkLastS.mono _ _ _
   | exact laws_toBlkLastS.mono _ _
   | exact spec_BlkMark.mono _ _ _ _
   | exact LeO.none _
   | refine LeO.ite ?_ ?_
   | refine LeO.bind ?_ (fun _ => ?_)
set_option maxHeartbeats 8000000 in
set_option maxRecDepth 100000 in
theorem laws_FnExactBlkMark.calls (k : Nat) (A0 : Option Addr) (c0 : Nat) (l0 : List (S61)) (a1 : Int) (a2 : Int) (r : Bool) (w : World) (hr0 : Kd.C k61 w A0 l0.length l0) (hc0 : l0.length ≤ c0) (h : laws_FnExactBlkMark.f k l0 a1 a2 = some r) :
  Calls Try.prog 7 #[.slice A0 l0.length c0, .int .i64 a1, .int .i64 a2] w fun e w' => e = .returned (.bool r) ∧ Below w.heap.size w w' := by
 have HR0 := Aside0.mk hr0
 have HC0 := Aside0.mk hc0
 clear hr0 hc0
 have HB := Aside0.mk (Below.refl w.heap.size w)
 have H : ((laws_szBlkLastS.f l0 1048576).bind fun t325 => (if t325 < 0 then (some true) else ((laws_toBlkLastS.f k l0).bind fun t326 => ((spec_BlkMark.f k t326 a1 a2).bind fun t329 => ((laws_toBlkLastS.f k l0).bind fun t332 => ((impl_BlkMark.f k t332 a1 a2).bind fun t335 => ((laws_eqBlkLastS.f k t335 t329).bind fun t338 => (if t338 = true then ((laws_toBlkLastS.f k l0).bind fun t339 => ((laws_eqBlkLastS.f k t332 t339).bind fun t342 => (if t342 = true then ((laws_markBlkLastS.f k t332 1).bind fun bt343 => (if bt343.1 < 0 then (laws_FnExactBlkMark.j0 k l0 a1 a2 t329 t335 true) else ((laws_eqBlkLastS.f k t335 t329).bind fun t345 => (laws_FnExactBlkMark.j0 k l0 a1 a2 t329 t335 (!t345))))) else (some false)))) else (some false))))))))) = some r := h
 clear h
 replace H := Option.bind_eq_some_iff.mp H
 obtain ⟨t325, A40, H⟩ := H
 replace H : (if t325 < 0 then (some true) else ((laws_toBlkLastS.f k l0).bind fun t326 => ((spec_BlkMark.f k t326 a1 a2).bind fun t329 => ((laws_toBlkLastS.f k l0).bind fun t332 => ((impl_BlkMark.f k t332 a1 a2).bind fun t335 => ((laws_eqBlkLastS.f k t335 t329).bind fun t338 => (if t338 = true then ((laws_toBlkLastS.f k l0).bind fun t339 => ((laws_eqBlkLastS.f k t332 t339).bind fun t342 => (if t342 = true then ((laws_markBlkLastS.f k t332 1).bind fun bt343 => (if bt343.1 < 0 then (laws_FnExactBlkMark.j0 k l0 a1 a2 t329 t335 true) else ((laws_eqBlkLastS.f k t335 t329).bind fun t345 => (laws_FnExactBlkMark.j0 k l0 a1 a2 t329 t335 (!t345))))) else (some false)))) else (some false)))))))) = some r := H
 have A4 := Aside0.mk A40
 clear A40
 by_cases c5 : t325 < 0
 ·rw [if_pos c5] at H
  have c5b0 : decide (t325 < 0) = true := decide_eq_true c5
  clear c5
  obtain rfl := Option.some.inj H
  go_enter Try.func7, Try.ntmps7
  go_wp2_with (first | ((with_reducible refine gate_callee (f := 15) rfl ?_); refine goesL_ (some 17) rfl rfl Try.func15 (by kernel_rfl) rfl #[.slice A0 l0.length c0, .int .i64 1048576] rfl bM ?_; (with_reducible refine (laws_szBlkLastS.calls _ _ l0 1048576 t325 _ ?side1 ?side2 A4.out).mono ?_); (case side1 => exact pC HR0.out); (case side2 => exact HC0.out); rintro e w' ⟨rfl, ⟨nd, rfl⟩⟩; refine ⟨_, rfl, ?_⟩))
  go_ret
  exact ⟨by first | rfl | (simp [errW_none, errW_some] <;> rfl) | (simp [*, errW_none, errW_some] <;> rfl), pB HB.out⟩
 ·rw [if_neg c5] at H
  have c5b0 : decide (t325 < 0) = false := decide_eq_false c5
  clear c5
  replace H := Option.bind_eq_some_iff.mp H
  obtain ⟨t326, A60, H⟩ := H
  replace H : ((spec_BlkMark.f k t326 a1 a2).bind fun t329 => ((laws_toBlkLastS.f k l0).bind fun t332 => ((impl_BlkMark.f k t332 a1 a2).bind fun t335 => ((laws_eqBlkLastS.f k t335 t329).bind fun t338 => (if t338 = true then ((laws_toBlkLastS.f k l0).bind fun t339 => ((laws_eqBlkLastS.f k t332 t339).bind fun t342 => (if t342 = true then ((laws_markBlkLastS.f k t332 1).bind fun bt343 => (if bt343.1 < 0 then (laws_FnExactBlkMark.j0 k l0 a1 a2 t329 t335 true) else ((laws_eqBlkLastS.f k t335 t329).bind fun t345 => (laws_FnExactBlkMark.j0 k l0 a1 a2 t329 t335 (!t345))))) else (some false)))) else (some false)))))) = some r := H
  have A6 := Aside0.mk A60
  clear A60
  replace H := Option.bind_eq_some_iff.mp H
  obtain ⟨t329, A70, H⟩ := H
  replace H : ((laws_toBlkLastS.f k l0).bind fun t332 => ((impl_BlkMark.f k t332 a1 a2).bind fun t335 => ((laws_eqBlkLastS.f k t335 t329).bind fun t338 => (if t338 = true then ((laws_toBlkLastS.f k l0).bind fun t339 => ((laws_eqBlkLastS.f k t332 t339).bind fun t342 => (if t342 = true then ((laws_markBlkLastS.f k t332 1).bind fun bt343 => (if bt343.1 < 0 then (laws_FnExactBlkMark.j0 k l0 a1 a2 t329 t335 true) else ((laws_eqBlkLastS.f k t335 t329).bind fun t345 => (laws_FnExactBlkMark.j0 k l0 a1 a2 t329 t335 (!t345))))) else (some false)))) else (some false))))) = some r := H
  have A7 := Aside0.mk A70
  clear A70
  replace H := Option.bind_eq_some_iff.mp H
  obtain ⟨t332, A80, H⟩ := H
  replace H : ((impl_BlkMark.f k t332 a1 a2).bind fun t335 => ((laws_eqBlkLastS.f k t335 t329).bind fun t338 => (if t338 = true then ((laws_toBlkLastS.f k l0).bind fun t339 => ((laws_eqBlkLastS.f k t332 t339).bind fun t342 => (if t342 = true then ((laws_markBlkLastS.f k t332 1).bind fun bt343 => (if bt343.1 < 0 then (laws_FnExactBlkMark.j0 k l0 a1 a2 t329 t335 true) else ((laws_eqBlkLastS.f k t335 t329).bind fun t345 => (laws_FnExactBlkMark.j0 k l0 a1 a2 t329 t335 (!t345))))) else (some false)))) else (some false)))) = some r := H
  have A8 := Aside0.mk A80
  clear A80
  replace H := Option.bind_eq_some_iff.mp H
  obtain ⟨t335, A90, H⟩ := H
  replace H : ((laws_eqBlkLastS.f k t335 t329).bind fun t338 => (if t338 = true then ((laws_toBlkLastS.f k l0).bind fun t339 => ((laws_eqBlkLastS.f k t332 t339).bind fun t342 => (if t342 = true then ((laws_markBlkLastS.f k t332 1).bind fun bt343 => (if bt343.1 < 0 then (laws_FnExactBlkMark.j0 k l0 a1 a2 t329 t335 true) else ((laws_eqBlkLastS.f k t335 t329).bind fun t345 => (laws_FnExactBlkMark.j0 k l0 a1 a2 t329 t335 (!t345))))) else (some false)))) else (some false))) = some r := H
  have A9 := Aside0.mk A90
  clear A90
  replace H := Option.bind_eq_some_iff.mp H
  obtain ⟨t338, A100, H⟩ := H
  replace H : (if t338 = true then ((laws_toBlkLastS.f k l0).bind fun t339 => ((laws_eqBlkLastS.f k t332 t339).bind fun t342 => (if t342 = true then ((laws_markBlkLastS.f k t332 1).bind fun bt343 => (if bt343.1 < 0 then (laws_FnExactBlkMark.j0 k l0 a1 a2 t329 t335 true) else ((laws_eqBlkLastS.f k t335 t329).bind fun t345 => (laws_FnExactBlkMark.j0 k l0 a1 a2 t329 t335 (!t345))))) else (some false)))) else (some false)) = some r := H
  have A10 := Aside0.mk A100
  clear A100
  by_cases c11 : t338 = true
  ·subst c11
   have H1 : ((laws_toBlkLastS.f k l0).bind fun t339 => ((laws_eqBlkLastS.f k t332 t339).bind fun t342 => (if t342 = true then ((laws_markBlkLastS.f k t332 1).bind fun bt343 => (if bt343.1 < 0 then (laws_FnExactBlkMark.j0 k l0 a1 a2 t329 t335 true) else ((laws_eqBlkLastS.f k t335 t329).bind fun t345 => (laws_FnExactBlkMark.j0 k l0 a1 a2 t329 t335 (!t345))))) else (some false)))) = some r := by rw [if_pos rfl] at H; exact H
   clear H
   have H := H1
   clear H1
   replace H := Option.bind_eq_some_iff.mp H
   obtain ⟨t339, A120, H⟩ := H
   replace H : ((laws_eqBlkLastS.f k t332 t339).bind fun t342 => (if t342 = true then ((laws_markBlkLastS.f k t332 1).bind fun bt343 => (if bt343.1 < 0 then (laws_FnExactBlkMark.j0 k l0 a1 a2 t329 t335 true) else ((laws_eqBlkLastS.f k t335 t329).bind fun t345 => (laws_FnExactBlkMark.j0 k l0 a1 a2 t329 t335 (!t345))))) else (some false))) = some r := H
   have A12 := Aside0.mk A120
   clear A120
   replace H := Option.bind_eq_some_iff.mp H
   obtain ⟨t342, A130, H⟩ := H
   replace H : (if t342 = true then ((laws_markBlkLastS.f k t332 1).bind fun bt343 => (if bt343.1 < 0 then (laws_FnExactBlkMark.j0 k l0 a1 a2 t329 t335 true) else ((laws_eqBlkLastS.f k t335 t329).bind fun t345 => (laws_FnExactBlkMark.j0 k l0 a1 a2 t329 t335 (!t345))))) else (some false)) = some r := H
   have A13 := Aside0.mk A130
   clear A130
   by_cases c14 : t342 = true
   ·subst c14
    have H1 : ((laws_markBlkLastS.f k t332 1).bind fun bt343 => (if bt343.1 < 0 then (laws_FnExactBlkMark.j0 k l0 a1 a2 t329 t335 true) else ((laws_eqBlkLastS.f k t335 t329).bind fun t345 => (laws_FnExactBlkMark.j0 k l0 a1 a2 t329 t335 (!t345))))) = some r := by rw [if_pos rfl] at H; exact H
    clear H
    have H := H1
    clear H1
    replace H := Option.bind_eq_some_iff.mp H
    obtain ⟨⟨t343, t344⟩, A150, H⟩ := H
    replace H : (if t343 < 0 then (laws_FnExactBlkMark.j0 k l0 a1 a2 t329 t335 true) else ((laws_eqBlkLastS.f k t335 t329).bind fun t345 => (laws_FnExactBlkMark.j0 k l0 a1 a2 t329 t335 (!t345)))) = some r := H
    have A15 := Aside0.mk A150
    clear A150
    have HC16 := Aside0.mk H
    clear H
    go_enter Try.func7, Try.ntmps7
    go_upto_region 14 with (first | ((with_reducible refine gate_callee (f := 15) rfl ?_); refine goesL_ (some 17) rfl rfl Try.func15 (by kernel_rfl) rfl #[.slice A0 l0.length c0, .int .i64 1048576] rfl bM ?_; (with_reducible refine (laws_szBlkLastS.calls _ _ l0 1048576 t325 _ ?side1 ?side2 A4.out).mono ?_); (case side1 => exact pC HR0.out); (case side2 => exact HC0.out); rintro e w' ⟨rfl, ⟨nd, rfl⟩⟩; refine ⟨_, rfl, ?_⟩) | ((with_reducible refine gate_callee (f := 17) rfl ?_); refine goesL_ (some 21) rfl rfl Try.func17 (by kernel_rfl) rfl #[.slice A0 l0.length c0] rfl bM ?_; (with_reducible refine (laws_toBlkLastS.calls k _ _ l0 t326 _ ?side1 ?side2 A6.out).mono ?_); (case side1 => exact pC HR0.out); (case side2 => exact HC0.out); rintro e w17 ⟨v327, rfl, ho0, hb⟩; refine ⟨_, rfl, ?_⟩; have n0_ := Aside0.mk (Kd.R_lower ho0 (below_size (pB HB.out))); have n1_ := Aside0.mk (below_step (pB HB.out) hb); clear HB; have HO328 := n0_; have HB := n1_; clear n0_ n1_; (try clear hb); (try clear hb2); (try clear hk); (try clear hi); (try clear ho0); obtain ⟨Ao18, co18, eo18⟩ := Kd.R_slice HO328.out; subst eo18) | ((with_reducible refine gate_callee (f := 28) rfl ?_); refine goesL_ (some 24) rfl rfl Try.func28 (by kernel_rfl) rfl #[.slice Ao18 t326.length co18, .int .i64 a1, .int .i64 a2] rfl bM ?_; (with_reducible refine (spec_BlkMark.calls k _ _ t326 a1 a2 t329 _ ?side1 ?side2 A7.out).mono ?_); (case side1 => exact pC (Kd.R_reads' HO328.out).2.2); (case side2 => exact (Kd.R_reads' HO328.out).2.1); rintro e w19 ⟨v330, rfl, ho0, hb⟩; refine ⟨_, rfl, ?_⟩; have n0_ := Aside0.mk (Kd.R_elder' (pR HO328.out) (Kd.R_base ho0) hb); have n1_ := Aside0.mk (Kd.R_lower (Kd.R_new' ho0 (Kd.R_lt (pR HO328.out))) (below_size (pB HB.out))); have n2_ := Aside0.mk (below_step (pB HB.out) hb); clear HO328; clear HB; have HO328 := n0_; have HO331 := n1_; have HB := n2_; clear n0_ n1_ n2_; (try clear hb); (try clear hb2); (try clear hk); (try clear hi); (try clear ho0)) | ((with_reducible refine gate_callee (f := 17) rfl ?_); refine goesL_ (some 26) rfl rfl Try.func17 (by kernel_rfl) rfl #[.slice A0 l0.length c0] rfl bM ?_; (with_reducible refine (laws_toBlkLastS.calls k _ _ l0 t332 _ ?side1 ?side2 A8.out).mono ?_); (case side1 => repeat (first | exact (Kd.C_below HR0.out HB.out) | (with_reducible refine Kd.C_alloc ?_ _) | (with_reducible refine Kd.C_drewN ?_ _) | (with_reducible refine Kd.C_drew ?_))); (case side2 => exact HC0.out); rintro e w20 ⟨v333, rfl, ho0, hb⟩; refine ⟨_, rfl, ?_⟩; have n0_ := Aside0.mk (Kd.R_elder' (pR HO328.out) (Kd.R_base ho0) hb); have n1_ := Aside0.mk (Kd.R_elder' (pR HO331.out) (Kd.R_base ho0) hb); have n2_ := Aside0.mk (Kd.R_lower (Kd.R_new' (Kd.R_new' ho0 (Kd.R_lt (pR HO328.out))) (Kd.R_lt (pR HO331.out))) (below_size (pB HB.out))); have n3_ := Aside0.mk (below_step (pB HB.out) hb); clear HO328; clear HO331; clear HB; have HO328 := n0_; have HO331 := n1_; have HO334 := n2_; have HB := n3_; clear n0_ n1_ n2_ n3_; (try clear hb); (try clear hb2); (try clear hk); (try clear hi); (try clear ho0); obtain ⟨Ao21, co21, eo21⟩ := Kd.R_slice HO334.out; subst eo21) | ((with_reducible refine gate_callee (f := 29) rfl ?_); refine goesL_ (some 30) rfl rfl Try.func29 (by kernel_rfl) rfl #[.slice Ao21 t332.length co21, .int .i64 a1, .int .i64 a2] rfl bM ?_; (with_reducible refine (impl_BlkMark.calls k _ _ t332 a1 a2 t335 _ ?side1 ?side2 A9.out).mono ?_); (case side1 => exact pC (Kd.R_reads' HO334.out).2.2); (case side2 => exact (Kd.R_reads' HO334.out).2.1); rintro e w22 ⟨v336, rfl, ho0, hb⟩; refine ⟨_, rfl, ?_⟩; have n0_ := Aside0.mk (Kd.R_elder' (pR HO328.out) (Kd.R_base ho0) hb); have n1_ := Aside0.mk (Kd.R_elder' (pR HO331.out) (Kd.R_base ho0) hb); have n2_ := Aside0.mk (Kd.R_elder' (pR HO334.out) (Kd.R_base ho0) hb); have n3_ := Aside0.mk (Kd.R_lower (Kd.R_new' (Kd.R_new' (Kd.R_new' ho0 (Kd.R_lt (pR HO328.out))) (Kd.R_lt (pR HO331.out))) (Kd.R_lt (pR HO334.out))) (below_size (pB HB.out))); have n4_ := Aside0.mk (below_step (pB HB.out) hb); clear HO328; clear HO331; clear HO334; clear HB; have HO328 := n0_; have HO331 := n1_; have HO334 := n2_; have HO337 := n3_; have HB := n4_; clear n0_ n1_ n2_ n3_ n4_; (try clear hb); (try clear hb2); (try clear hk); (try clear hi); (try clear ho0); obtain ⟨Ao23, co23, eo23⟩ := Kd.R_slice HO337.out; subst eo23; obtain ⟨Ao24, co24, eo24⟩ := Kd.R_slice HO331.out; subst eo24) | ((with_reducible refine gate_callee (f := 19) rfl ?_); refine goesL_ (some 33) rfl rfl Try.func19 (by kernel_rfl) rfl #[.slice Ao23 t335.length co23, .slice Ao24 t329.length co24] rfl bM ?_; (with_reducible refine (laws_eqBlkLastS.calls k _ _ t335 _ _ t329 true _ ?side1 ?side2 ?side3 ?side4 A10.out).mono ?_); (case side1 => exact pC (Kd.R_reads' HO337.out).2.2); (case side2 => exact (Kd.R_reads' HO337.out).2.1); (case side3 => exact pC (Kd.R_reads' HO331.out).2.2); (case side4 => exact (Kd.R_reads' HO331.out).2.1); rintro e w25 ⟨rfl, hb⟩; refine ⟨_, rfl, ?_⟩; have n0_ := Aside0.mk (Kd.R_below (pR HO328.out) hb); have n1_ := Aside0.mk (Kd.R_below (pR HO331.out) hb); have n2_ := Aside0.mk (Kd.R_below (pR HO334.out) hb); have n3_ := Aside0.mk (Kd.R_below (pR HO337.out) hb); have n4_ := Aside0.mk (below_step (pB HB.out) hb); clear HO328; clear HO331; clear HO334; clear HO337; clear HB; have HO328 := n0_; have HO331 := n1_; have HO334 := n2_; have HO337 := n3_; have HB := n4_; clear n0_ n1_ n2_ n3_ n4_; (try clear hb); (try clear hb2); (try clear hk); (try clear hi)) | ((with_reducible refine gate_callee (f := 17) rfl ?_); refine goesL_ (some 37) rfl rfl Try.func17 (by kernel_rfl) rfl #[.slice A0 l0.length c0] rfl bM ?_; (with_reducible refine (laws_toBlkLastS.calls k _ _ l0 t339 _ ?side1 ?side2 A12.out).mono ?_); (case side1 => repeat (first | exact (Kd.C_below HR0.out HB.out) | (with_reducible refine Kd.C_alloc ?_ _) | (with_reducible refine Kd.C_drewN ?_ _) | (with_reducible refine Kd.C_drew ?_))); (case side2 => exact HC0.out); rintro e w26 ⟨v340, rfl, ho0, hb⟩; refine ⟨_, rfl, ?_⟩; have n0_ := Aside0.mk (Kd.R_elder' (pR HO328.out) (Kd.R_base ho0) hb); have n1_ := Aside0.mk (Kd.R_elder' (pR HO331.out) (Kd.R_base ho0) hb); have n2_ := Aside0.mk (Kd.R_elder' (pR HO334.out) (Kd.R_base ho0) hb); have n3_ := Aside0.mk (Kd.R_elder' (pR HO337.out) (Kd.R_base ho0) hb); have n4_ := Aside0.mk (Kd.R_lower (Kd.R_new' (Kd.R_new' (Kd.R_new' (Kd.R_new' ho0 (Kd.R_lt (pR HO328.out))) (Kd.R_lt (pR HO331.out))) (Kd.R_lt (pR HO334.out))) (Kd.R_lt (pR HO337.out))) (below_size (pB HB.out))); have n5_ := Aside0.mk (below_step (pB HB.out) hb); clear HO328; clear HO331; clear HO334; clear HO337; clear HB; have HO328 := n0_; have HO331 := n1_; have HO334 := n2_; have HO337 := n3_; have HO341 := n4_; have HB := n5_; clear n0_ n1_ n2_ n3_ n4_ n5_; (try clear hb); (try clear hb2); (try clear hk); (try clear hi); (try clear ho0); obtain ⟨Ao27, co27, eo27⟩ := Kd.R_slice HO341.out; subst eo27) | ((with_reducible refine gate_callee (f := 19) rfl ?_); refine goesL_ (some 38) rfl rfl Try.func19 (by kernel_rfl) rfl #[.slice Ao21 t332.length co21, .slice Ao27 t339.length co27] rfl bM ?_; (with_reducible refine (laws_eqBlkLastS.calls k _ _ t332 _ _ t339 true _ ?side1 ?side2 ?side3 ?side4 A13.out).mono ?_); (case side1 => exact pC (Kd.R_reads' HO334.out).2.2); (case side2 => exact (Kd.R_reads' HO334.out).2.1); (case side3 => exact pC (Kd.R_reads' HO341.out).2.2); (case side4 => exact (Kd.R_reads' HO341.out).2.1); rintro e w28 ⟨rfl, hb⟩; refine ⟨_, rfl, ?_⟩; have n0_ := Aside0.mk (Kd.R_below (pR HO328.out) hb); have n1_ := Aside0.mk (Kd.R_below (pR HO331.out) hb); have n2_ := Aside0.mk (Kd.R_below (pR HO334.out) hb); have n3_ := Aside0.mk (Kd.R_below (pR HO337.out) hb); have n4_ := Aside0.mk (Kd.R_below (pR HO341.out) hb); have n5_ := Aside0.mk (below_step (pB HB.out) hb); clear HO328; clear HO331; clear HO334; clear HO337; clear HO341; clear HB; have HO328 := n0_; have HO331 := n1_; have HO334 := n2_; have HO337 := n3_; have HO341 := n4_; have HB := n5_; clear n0_ n1_ n2_ n3_ n4_ n5_; (try clear hb); (try clear hb2); (try clear hk); (try clear hi)) | ((with_reducible refine gate_callee (f := 31) rfl ?_); refine goesL_ (some 42) rfl rfl Try.func31 (by kernel_rfl) rfl #[.slice Ao21 t332.length co21, .int .i64 1] rfl bM ?_; (with_reducible refine (laws_markBlkLastS.calls k (fun k_ => some k_ = (.slice Ao21 t332.length co21 : Value).ownBlock) (.slice Ao21 t332.length co21) t332 1 t343 t344 w _ ?side1 ?side2 A15.out).mono ?_); (case side1 => repeat (first | (with_reducible first | exact HB.out | apply below_alloc | apply pw_below_drewN | apply below_drew1) | exact HB.out)); (case side2 => exact Kd.R_tight rfl HO334.out); rintro e w29 ⟨rfl, hy0, hb, hkp⟩; refine ⟨_, rfl, ?_⟩; have n0_ := Aside0.mk (Kd.R_mono (ok' := fun k_ => some k_ ≠ (.slice Ao24 t329.length co24 : Value).ownBlock ∧ some k_ ≠ (.slice Ao21 t332.length co21 : Value).ownBlock ∧ some k_ ≠ (.slice Ao23 t335.length co23 : Value).ownBlock ∧ some k_ ≠ (.slice Ao27 t339.length co27 : Value).ownBlock) (Kd.R_keptB (HO328.out) hkp (fun k_ hk_ hs_ => (hk_.1.1.2) hs_)) (fun k_ hk_ => ⟨hk_.1.1.1.1.2, hk_.1.1.1.2, hk_.1.1.2, hk_.1.2⟩)); have n1_ := Aside0.mk (Kd.R_mono (ok' := fun k_ => some k_ ≠ (.slice Ao18 t326.length co18 : Value).ownBlock ∧ some k_ ≠ (.slice Ao21 t332.length co21 : Value).ownBlock ∧ some k_ ≠ (.slice Ao23 t335.length co23 : Value).ownBlock ∧ some k_ ≠ (.slice Ao27 t339.length co27 : Value).ownBlock) (Kd.R_keptB (HO331.out) hkp (fun k_ hk_ hs_ => (hk_.1.1.2) hs_)) (fun k_ hk_ => ⟨hk_.1.1.1.1.2, hk_.1.1.1.2, hk_.1.1.2, hk_.1.2⟩)); have n2_ := Aside0.mk (Kd.R_reok rfl hy0 (fun k_ e_ => HO334.out.1 k_ e_)); have n3_ := Aside0.mk (Kd.R_mono (ok' := fun k_ => some k_ ≠ (.slice Ao18 t326.length co18 : Value).ownBlock ∧ some k_ ≠ (.slice Ao24 t329.length co24 : Value).ownBlock ∧ some k_ ≠ (.slice Ao21 t332.length co21 : Value).ownBlock ∧ some k_ ≠ (.slice Ao27 t339.length co27 : Value).ownBlock) (Kd.R_keptB (HO337.out) hkp (fun k_ hk_ hs_ => (hk_.1.2) hs_)) (fun k_ hk_ => ⟨hk_.1.1.1.1.2, hk_.1.1.1.2, hk_.1.1.2, hk_.1.2⟩)); have n4_ := Aside0.mk (Kd.R_mono (ok' := fun k_ => some k_ ≠ (.slice Ao18 t326.length co18 : Value).ownBlock ∧ some k_ ≠ (.slice Ao24 t329.length co24 : Value).ownBlock ∧ some k_ ≠ (.slice Ao21 t332.length co21 : Value).ownBlock ∧ some k_ ≠ (.slice Ao23 t335.length co23 : Value).ownBlock) (Kd.R_keptB (HO341.out) hkp (fun k_ hk_ hs_ => (hk_.1.2) hs_)) (fun k_ hk_ => ⟨hk_.1.1.1.1.2, hk_.1.1.1.2, hk_.1.1.2, hk_.1.2⟩)); have n5_ := Aside0.mk (hb); clear HO328; clear HO331; clear HO334; clear HO337; clear HO341; clear HB; have HO328 := n0_; have HO331 := n1_; have HO334 := n2_; have HO337 := n3_; have HO341 := n4_; have HB := n5_; clear n0_ n1_ n2_ n3_ n4_ n5_; (try clear hb); (try clear hkp); (try clear hy0)))
    (try simp only [Act.put, List.setIfInBounds_toArray, List.set_cons_zero, List.set_cons_succ])
    go_cut [50] (fun v50 wc => ∃ (kq : Nat) (x50_15 : Bool), v50 = .bool x50_15 ∧ Aside0 (laws_FnExactBlkMark.j0 kq l0 a1 a2 t329 t335 x50_15 = some r) ∧ Aside0 (kq ≤ k) ∧ Aside0 (Kd.R k59 59 wc w.heap.size (fun k_ => some k_ ≠ ((.slice Ao23 t335.length co23) : Value).ownBlock) (.slice Ao24 t329.length co24) t329) ∧ Aside0 (Kd.R k59 59 wc w.heap.size (fun k_ => some k_ ≠ ((.slice Ao24 t329.length co24) : Value).ownBlock) (.slice Ao23 t335.length co23) t335) ∧ Aside0 (Below w.heap.size w wc))
    case first =>
     have H := HC16.out
     clear HC16
     by_cases c30 : t343 < 0
     ·rw [if_pos c30] at H
      have c30b0 : decide (t343 < 0) = true := decide_eq_true c30
      clear c30
      (first | rw [c30b0] | (simp only [i64_w, i32_w]; rw [c30b0]) | skip)
      have H' := Aside0.mk H
      clear H
      go_wp2
      go_meet
      case rel => exact ⟨_, (true), (by first | rfl | (simp; done) | (simp [*]; done)), H', ⟨by first | omega | exact Nat.le_refl _⟩, ⟨pR (Kd.R_mono HO331.out (fun _ hk => hk.2.2.1))⟩, ⟨pR (Kd.R_mono HO337.out (fun _ hk => hk.2.1))⟩, ⟨pB HB.out⟩⟩
     ·rw [if_neg c30] at H
      have c30b0 : decide (t343 < 0) = false := decide_eq_false c30
      clear c30
      (first | rw [c30b0] | (simp only [i64_w, i32_w]; rw [c30b0]) | skip)
      replace H := Option.bind_eq_some_iff.mp H
      obtain ⟨t345, A310, H⟩ := H
      replace H : (laws_FnExactBlkMark.j0 k l0 a1 a2 t329 t335 (!t345)) = some r := H
      have A31 := Aside0.mk A310
      clear A310
      have H' := Aside0.mk H
      clear H
      go_wp2_with (first | (go_at_call 19; (with_reducible refine (laws_eqBlkLastS.calls k _ _ t335 _ _ t329 t345 _ ?side1 ?side2 ?side3 ?side4 A31.out).mono ?_); (case side1 => exact pC (Kd.R_reads' HO337.out).2.2); (case side2 => exact (Kd.R_reads' HO337.out).2.1); (case side3 => exact pC (Kd.R_reads' HO331.out).2.2); (case side4 => exact (Kd.R_reads' HO331.out).2.1); rintro e w32 ⟨rfl, hb⟩; have n0_ := Aside0.mk (Kd.R_below (pR HO328.out) hb); have n1_ := Aside0.mk (Kd.R_below (pR HO331.out) hb); have n2_ := Aside0.mk (Kd.R_below (pR HO334.out) hb); have n3_ := Aside0.mk (Kd.R_below (pR HO337.out) hb); have n4_ := Aside0.mk (Kd.R_below (pR HO341.out) hb); have n5_ := Aside0.mk (below_step (pB HB.out) hb); clear HO328; clear HO331; clear HO334; clear HO337; clear HO341; clear HB; have HO328 := n0_; have HO331 := n1_; have HO334 := n2_; have HO337 := n3_; have HO341 := n4_; have HB := n5_; clear n0_ n1_ n2_ n3_ n4_ n5_; (try clear hb); (try clear hb2); (try clear hk); (try clear hi)))
      go_meet
      case rel => exact ⟨_, (!t345), (by first | rfl | (simp; done) | (simp [*]; done)), H', ⟨by first | omega | exact Nat.le_refl _⟩, ⟨pR (Kd.R_mono HO331.out (fun _ hk => hk.2.2.1))⟩, ⟨pR (Kd.R_mono HO337.out (fun _ hk => hk.2.1))⟩, ⟨pB HB.out⟩⟩
    case rest =>
     clear HC16
     try clear c1
     try clear c2
     try clear p2
     try clear c3
     try clear c5
     try clear c5b0
     try clear c7
     try clear c11
     try clear c14
     try clear c15
     try clear c17
     try clear c19
     try clear c28
     try clear c29
     try clear c30
     try clear c30b0
     try clear c31
     obtain ⟨kq, x50_15, rfl, HA, HJ15, HO_8, HO_10, HB⟩ := hcut
     cases kq with
     | zero => exact absurd HA.out (by simp [laws_FnExactBlkMark.j0])
     | succ kj15 =>
      have H := HA.out
      clear HA
      simp only [laws_FnExactBlkMark.j0] at H
      by_cases c33 : x50_15 = true
      ·subst c33
       have H1 : (some false) = some r := by rw [if_pos rfl] at H; exact H
       clear H
       have H := H1
       clear H1
       obtain rfl := Option.some.inj H
       go_wp2
       go_ret
       exact ⟨by first | rfl | (simp [errW_none, errW_some] <;> rfl) | (simp [*, errW_none, errW_some] <;> rfl), pB HB.out⟩
      ·replace c33 := Bool.eq_false_iff.mpr c33
       subst c33
       have H1 : ((laws_markBlkLastS.f kj15 t335 1).bind fun bt346 => ((laws_heldBlkLastS.f kj15 bt346.2 1).bind fun t348 => (if t348 < 0 then (some false) else (if t348 = bt346.1 then ((laws_toBlkLastS.f kj15 l0).bind fun t349 => ((impl_BlkMark.f kj15 t349 a1 a2).bind fun t352 => ((laws_eqBlkLastS.f kj15 t352 t329).bind fun t355 => (if t355 = true then ((laws_heldBlkLastS.f kj15 bt346.2 1).bind fun t356 => (if t356 < 0 then (some false) else (if t356 = bt346.1 then (some true) else (some false)))) else (some false))))) else (some false))))) = some r := by rw [if_neg (show ¬ (false = true) by decide)] at H; exact H
       clear H
       have H := H1
       clear H1
       replace H := Option.bind_eq_some_iff.mp H
       obtain ⟨⟨t346, t347⟩, A340, H⟩ := H
       replace H : ((laws_heldBlkLastS.f kj15 t347 1).bind fun t348 => (if t348 < 0 then (some false) else (if t348 = t346 then ((laws_toBlkLastS.f kj15 l0).bind fun t349 => ((impl_BlkMark.f kj15 t349 a1 a2).bind fun t352 => ((laws_eqBlkLastS.f kj15 t352 t329).bind fun t355 => (if t355 = true then ((laws_heldBlkLastS.f kj15 t347 1).bind fun t356 => (if t356 < 0 then (some false) else (if t356 = t346 then (some true) else (some false)))) else (some false))))) else (some false)))) = some r := H
       have A34 := Aside0.mk A340
       clear A340
       replace H := Option.bind_eq_some_iff.mp H
       obtain ⟨t348, A350, H⟩ := H
       replace H : (if t348 < 0 then (some false) else (if t348 = t346 then ((laws_toBlkLastS.f kj15 l0).bind fun t349 => ((impl_BlkMark.f kj15 t349 a1 a2).bind fun t352 => ((laws_eqBlkLastS.f kj15 t352 t329).bind fun t355 => (if t355 = true then ((laws_heldBlkLastS.f kj15 t347 1).bind fun t356 => (if t356 < 0 then (some false) else (if t356 = t346 then (some true) else (some false)))) else (some false))))) else (some false))) = some r := H
       have A35 := Aside0.mk A350
       clear A350
       by_cases c36 : t348 < 0
       ·rw [if_pos c36] at H
        have c36b0 : decide (t348 < 0) = true := decide_eq_true c36
        clear c36
        obtain rfl := Option.some.inj H
        go_wp2_with (first | ((with_reducible refine gate_callee (f := 31) rfl ?_); refine goesL_ (some 53) rfl rfl Try.func31 (by kernel_rfl) rfl #[.slice Ao23 t335.length co23, .int .i64 1] rfl bM ?_; (with_reducible refine (laws_markBlkLastS.calls kj15 (fun k_ => some k_ = (.slice Ao23 t335.length co23 : Value).ownBlock) (.slice Ao23 t335.length co23) t335 1 t346 t347 w _ ?side1 ?side2 A34.out).mono ?_); (case side1 => repeat (first | (with_reducible first | exact HB.out | apply below_alloc | apply pw_below_drewN | apply below_drew1) | exact HB.out)); (case side2 => exact Kd.R_tight rfl HO_10.out); rintro e w37 ⟨rfl, hy0, hb, hkp⟩; refine ⟨_, rfl, ?_⟩; have n0_ := Aside0.mk (Kd.R_mono (ok' := fun k_ => some k_ ≠ (.slice Ao23 t335.length co23 : Value).ownBlock) (Kd.R_keptB (HO_8.out) hkp (fun k_ hk_ hs_ => (hk_) hs_)) (fun k_ hk_ => hk_.1)); have n1_ := Aside0.mk (Kd.R_reok rfl hy0 (fun k_ e_ => HO_10.out.1 k_ e_)); have n2_ := Aside0.mk (hb); clear HO_8; clear HO_10; clear HB; have HO_8 := n0_; have HO_10 := n1_; have HB := n2_; clear n0_ n1_ n2_; (try clear hb); (try clear hkp); (try clear hy0)) | ((with_reducible refine gate_callee (f := 32) rfl ?_); refine goesL_ (some 56) rfl rfl Try.func32 (by kernel_rfl) rfl #[.slice Ao23 t347.length co23, .int .i64 1] rfl (by (try simp only [List.map_toArray, List.map_cons, List.map_nil]); first | done | (rw [show t347.length = t335.length from (Kd.R_reads' HO_10.out).1.symm] <;> rfl) | rfl | (simp only [List.length_drop, List.length_take]; rfl)) ?_; (with_reducible refine (laws_heldBlkLastS.calls kj15 _ _ t347 1 t348 _ ?side1 ?side2 A35.out).mono ?_); (case side1 => exact pC (Kd.R_reads' HO_10.out).2.2); (case side2 => rw [show t347.length = t335.length from (Kd.R_reads' HO_10.out).1.symm]; exact (Kd.R_reads' HO_10.out).2.1); rintro e w' ⟨rfl, ⟨nd, rfl⟩⟩; refine ⟨_, rfl, ?_⟩))
        go_ret
        exact ⟨by first | rfl | (simp [errW_none, errW_some] <;> rfl) | (simp [*, errW_none, errW_some] <;> rfl), pB HB.out⟩
       ·rw [if_neg c36] at H
        have c36b0 : decide (t348 < 0) = false := decide_eq_false c36
        clear c36
        by_cases c38 : t348 = t346
        ·rw [if_pos c38] at H
         have c38b0 : (t348 == t346) = true := beq_iff_eq.mpr c38
         have c38b1 : (t348 != t346) = false := bne_eq_false_iff_eq.mpr c38
         clear c38
         replace H := Option.bind_eq_some_iff.mp H
         obtain ⟨t349, A390, H⟩ := H
         replace H : ((impl_BlkMark.f kj15 t349 a1 a2).bind fun t352 => ((laws_eqBlkLastS.f kj15 t352 t329).bind fun t355 => (if t355 = true then ((laws_heldBlkLastS.f kj15 t347 1).bind fun t356 => (if t356 < 0 then (some false) else (if t356 = t346 then (some true) else (some false)))) else (some false)))) = some r := H
         have A39 := Aside0.mk A390
         clear A390
         replace H := Option.bind_eq_some_iff.mp H
         obtain ⟨t352, A400, H⟩ := H
         replace H : ((laws_eqBlkLastS.f kj15 t352 t329).bind fun t355 => (if t355 = true then ((laws_heldBlkLastS.f kj15 t347 1).bind fun t356 => (if t356 < 0 then (some false) else (if t356 = t346 then (some true) else (some false)))) else (some false))) = some r := H
         have A40 := Aside0.mk A400
         clear A400
         replace H := Option.bind_eq_some_iff.mp H
         obtain ⟨t355, A410, H⟩ := H
         replace H : (if t355 = true then ((laws_heldBlkLastS.f kj15 t347 1).bind fun t356 => (if t356 < 0 then (some false) else (if t356 = t346 then (some true) else (some false)))) else (some false)) = some r := H
         have A41 := Aside0.mk A410
         clear A410
         by_cases c42 : t355 = true
         ·subst c42
          have H1 : ((laws_heldBlkLastS.f kj15 t347 1).bind fun t356 => (if t356 < 0 then (some false) else (if t356 = t346 then (some true) else (some false)))) = some r := by rw [if_pos rfl] at H; exact H
          clear H
          have H := H1
          clear H1
          replace H := Option.bind_eq_some_iff.mp H
          obtain ⟨t356, A430, H⟩ := H
          replace H : (if t356 < 0 then (some false) else (if t356 = t346 then (some true) else (some false))) = some r := H
          have A43 := Aside0.mk A430
          clear A430
          by_cases c44 : t356 < 0
          ·rw [if_pos c44] at H
           have c44b0 : decide (t356 < 0) = true := decide_eq_true c44
           clear c44
           obtain rfl := Option.some.inj H
           go_wp2_with (first | ((with_reducible refine gate_callee (f := 31) rfl ?_); refine goesL_ (some 53) rfl rfl Try.func31 (by kernel_rfl) rfl #[.slice Ao23 t335.length co23, .int .i64 1] rfl bM ?_; (with_reducible refine (laws_markBlkLastS.calls kj15 (fun k_ => some k_ = (.slice Ao23 t335.length co23 : Value).ownBlock) (.slice Ao23 t335.length co23) t335 1 t346 t347 w _ ?side1 ?side2 A34.out).mono ?_); (case side1 => repeat (first | (with_reducible first | exact HB.out | apply below_alloc | apply pw_below_drewN | apply below_drew1) | exact HB.out)); (case side2 => exact Kd.R_tight rfl HO_10.out); rintro e w45 ⟨rfl, hy0, hb, hkp⟩; refine ⟨_, rfl, ?_⟩; have n0_ := Aside0.mk (Kd.R_mono (ok' := fun k_ => some k_ ≠ (.slice Ao23 t335.length co23 : Value).ownBlock) (Kd.R_keptB (HO_8.out) hkp (fun k_ hk_ hs_ => (hk_) hs_)) (fun k_ hk_ => hk_.1)); have n1_ := Aside0.mk (Kd.R_reok rfl hy0 (fun k_ e_ => HO_10.out.1 k_ e_)); have n2_ := Aside0.mk (hb); clear HO_8; clear HO_10; clear HB; have HO_8 := n0_; have HO_10 := n1_; have HB := n2_; clear n0_ n1_ n2_; (try clear hb); (try clear hkp); (try clear hy0)) | ((with_reducible refine gate_callee (f := 32) rfl ?_); refine goesL_ (some 56) rfl rfl Try.func32 (by kernel_rfl) rfl #[.slice Ao23 t347.length co23, .int .i64 1] rfl (by (try simp only [List.map_toArray, List.map_cons, List.map_nil]); first | done | (rw [show t347.length = t335.length from (Kd.R_reads' HO_10.out).1.symm] <;> rfl) | rfl | (simp only [List.length_drop, List.length_take]; rfl)) ?_; (with_reducible refine (laws_heldBlkLastS.calls kj15 _ _ t347 1 t348 _ ?side1 ?side2 A35.out).mono ?_); (case side1 => exact pC (Kd.R_reads' HO_10.out).2.2); (case side2 => rw [show t347.length = t335.length from (Kd.R_reads' HO_10.out).1.symm]; exact (Kd.R_reads' HO_10.out).2.1); rintro e w' ⟨rfl, ⟨nd, rfl⟩⟩; refine ⟨_, rfl, ?_⟩) | ((with_reducible refine gate_callee (f := 17) rfl ?_); refine goesL_ (some 63) rfl rfl Try.func17 (by kernel_rfl) rfl #[.slice A0 l0.length c0] rfl bM ?_; (with_reducible refine (laws_toBlkLastS.calls kj15 _ _ l0 t349 _ ?side1 ?side2 A39.out).mono ?_); (case side1 => repeat (first | exact (Kd.C_below HR0.out (pB HB.out)) | (with_reducible refine Kd.C_alloc ?_ _) | (with_reducible refine Kd.C_drewN ?_ _) | (with_reducible refine Kd.C_drew ?_))); (case side2 => exact HC0.out); rintro e w46 ⟨v350, rfl, ho0, hb⟩; refine ⟨_, rfl, ?_⟩; have n0_ := Aside0.mk (Kd.R_elder' (pR HO_8.out) (Kd.R_base ho0) hb); have n1_ := Aside0.mk (Kd.R_elder' (pR HO_10.out) (Kd.R_base ho0) hb); have n2_ := Aside0.mk (Kd.R_lower (Kd.R_new' (Kd.R_new' ho0 (Kd.R_lt (pR HO_8.out))) (Kd.R_lt (pR HO_10.out))) (below_size (pB HB.out))); have n3_ := Aside0.mk (below_step (pB HB.out) hb); clear HO_8; clear HO_10; clear HB; have HO_8 := n0_; have HO_10 := n1_; have HO351 := n2_; have HB := n3_; clear n0_ n1_ n2_ n3_; (try clear hb); (try clear hb2); (try clear hk); (try clear hi); (try clear ho0); obtain ⟨Ao47, co47, eo47⟩ := Kd.R_slice HO351.out; subst eo47) | ((with_reducible refine gate_callee (f := 29) rfl ?_); refine goesL_ (some 66) rfl rfl Try.func29 (by kernel_rfl) rfl #[.slice Ao47 t349.length co47, .int .i64 a1, .int .i64 a2] rfl bM ?_; (with_reducible refine (impl_BlkMark.calls kj15 _ _ t349 a1 a2 t352 _ ?side1 ?side2 A40.out).mono ?_); (case side1 => exact pC (Kd.R_reads' HO351.out).2.2); (case side2 => exact (Kd.R_reads' HO351.out).2.1); rintro e w48 ⟨v353, rfl, ho0, hb⟩; refine ⟨_, rfl, ?_⟩; have n0_ := Aside0.mk (Kd.R_elder' (pR HO_8.out) (Kd.R_base ho0) hb); have n1_ := Aside0.mk (Kd.R_elder' (pR HO_10.out) (Kd.R_base ho0) hb); have n2_ := Aside0.mk (Kd.R_elder' (pR HO351.out) (Kd.R_base ho0) hb); have n3_ := Aside0.mk (Kd.R_lower (Kd.R_new' (Kd.R_new' (Kd.R_new' ho0 (Kd.R_lt (pR HO_8.out))) (Kd.R_lt (pR HO_10.out))) (Kd.R_lt (pR HO351.out))) (below_size (pB HB.out))); have n4_ := Aside0.mk (below_step (pB HB.out) hb); clear HO_8; clear HO_10; clear HO351; clear HB; have HO_8 := n0_; have HO_10 := n1_; have HO351 := n2_; have HO354 := n3_; have HB := n4_; clear n0_ n1_ n2_ n3_ n4_; (try clear hb); (try clear hb2); (try clear hk); (try clear hi); (try clear ho0); obtain ⟨Ao49, co49, eo49⟩ := Kd.R_slice HO354.out; subst eo49) | ((with_reducible refine gate_callee (f := 19) rfl ?_); refine goesL_ (some 69) rfl rfl Try.func19 (by kernel_rfl) rfl #[.slice Ao49 t352.length co49, .slice Ao24 t329.length co24] rfl bM ?_; (with_reducible refine (laws_eqBlkLastS.calls kj15 _ _ t352 _ _ t329 true _ ?side1 ?side2 ?side3 ?side4 A41.out).mono ?_); (case side1 => exact pC (Kd.R_reads' HO354.out).2.2); (case side2 => exact (Kd.R_reads' HO354.out).2.1); (case side3 => exact pC (Kd.R_reads' HO_8.out).2.2); (case side4 => exact (Kd.R_reads' HO_8.out).2.1); rintro e w50 ⟨rfl, hb⟩; refine ⟨_, rfl, ?_⟩; have n0_ := Aside0.mk (Kd.R_below (pR HO_8.out) hb); have n1_ := Aside0.mk (Kd.R_below (pR HO_10.out) hb); have n2_ := Aside0.mk (Kd.R_below (pR HO351.out) hb); have n3_ := Aside0.mk (Kd.R_below (pR HO354.out) hb); have n4_ := Aside0.mk (below_step (pB HB.out) hb); clear HO_8; clear HO_10; clear HO351; clear HO354; clear HB; have HO_8 := n0_; have HO_10 := n1_; have HO351 := n2_; have HO354 := n3_; have HB := n4_; clear n0_ n1_ n2_ n3_ n4_; (try clear hb); (try clear hb2); (try clear hk); (try clear hi)) | ((with_reducible refine gate_callee (f := 32) rfl ?_); refine goesL_ (some 73) rfl rfl Try.func32 (by kernel_rfl) rfl #[.slice Ao23 t347.length co23, .int .i64 1] rfl (by (try simp only [List.map_toArray, List.map_cons, List.map_nil]); first | done | (rw [show t347.length = t335.length from (Kd.R_reads' HO_10.out).1.symm] <;> rfl) | rfl | (simp only [List.length_drop, List.length_take]; rfl)) ?_; (with_reducible refine (laws_heldBlkLastS.calls kj15 _ _ t347 1 t356 _ ?side1 ?side2 A43.out).mono ?_); (case side1 => exact pC (Kd.R_reads' HO_10.out).2.2); (case side2 => rw [show t347.length = t335.length from (Kd.R_reads' HO_10.out).1.symm]; exact (Kd.R_reads' HO_10.out).2.1); rintro e w' ⟨rfl, ⟨nd, rfl⟩⟩; refine ⟨_, rfl, ?_⟩))
           go_ret
           exact ⟨by first | rfl | (simp [errW_none, errW_some] <;> rfl) | (simp [*, errW_none, errW_some] <;> rfl), pB HB.out⟩
          ·rw [if_neg c44] at H
           have c44b0 : decide (t356 < 0) = false := decide_eq_false c44
           clear c44
           by_cases c51 : t356 = t346
           ·rw [if_pos c51] at H
            have c51b0 : (t356 == t346) = true := beq_iff_eq.mpr c51
            have c51b1 : (t356 != t346) = false := bne_eq_false_iff_eq.mpr c51
            clear c51
            obtain rfl := Option.some.inj H
            go_wp2_with (first | ((with_reducible refine gate_callee (f := 31) rfl ?_); refine goesL_ (some 53) rfl rfl Try.func31 (by kernel_rfl) rfl #[.slice Ao23 t335.length co23, .int .i64 1] rfl bM ?_; (with_reducible refine (laws_markBlkLastS.calls kj15 (fun k_ => some k_ = (.slice Ao23 t335.length co23 : Value).ownBlock) (.slice Ao23 t335.length co23) t335 1 t346 t347 w _ ?side1 ?side2 A34.out).mono ?_); (case side1 => repeat (first | (with_reducible first | exact HB.out | apply below_alloc | apply pw_below_drewN | apply below_drew1) | exact HB.out)); (case side2 => exact Kd.R_tight rfl HO_10.out); rintro e w52 ⟨rfl, hy0, hb, hkp⟩; refine ⟨_, rfl, ?_⟩; have n0_ := Aside0.mk (Kd.R_mono (ok' := fun k_ => some k_ ≠ (.slice Ao23 t335.length co23 : Value).ownBlock) (Kd.R_keptB (HO_8.out) hkp (fun k_ hk_ hs_ => (hk_) hs_)) (fun k_ hk_ => hk_.1)); have n1_ := Aside0.mk (Kd.R_reok rfl hy0 (fun k_ e_ => HO_10.out.1 k_ e_)); have n2_ := Aside0.mk (hb); clear HO_8; clear HO_10; clear HB; have HO_8 := n0_; have HO_10 := n1_; have HB := n2_; clear n0_ n1_ n2_; (try clear hb); (try clear hkp); (try clear hy0)) | ((with_reducible refine gate_callee (f := 32) rfl ?_); refine goesL_ (some 56) rfl rfl Try.func32 (by kernel_rfl) rfl #[.slice Ao23 t347.length co23, .int .i64 1] rfl (by (try simp only [List.map_toArray, List.map_cons, List.map_nil]); first | done | (rw [show t347.length = t335.length from (Kd.R_reads' HO_10.out).1.symm] <;> rfl) | rfl | (simp only [List.length_drop, List.length_take]; rfl)) ?_; (with_reducible refine (laws_heldBlkLastS.calls kj15 _ _ t347 1 t348 _ ?side1 ?side2 A35.out).mono ?_); (case side1 => exact pC (Kd.R_reads' HO_10.out).2.2); (case side2 => rw [show t347.length = t335.length from (Kd.R_reads' HO_10.out).1.symm]; exact (Kd.R_reads' HO_10.out).2.1); rintro e w' ⟨rfl, ⟨nd, rfl⟩⟩; refine ⟨_, rfl, ?_⟩) | ((with_reducible refine gate_callee (f := 17) rfl ?_); refine goesL_ (some 63) rfl rfl Try.func17 (by kernel_rfl) rfl #[.slice A0 l0.length c0] rfl bM ?_; (with_reducible refine (laws_toBlkLastS.calls kj15 _ _ l0 t349 _ ?side1 ?side2 A39.out).mono ?_); (case side1 => repeat (first | exact (Kd.C_below HR0.out (pB HB.out)) | (with_reducible refine Kd.C_alloc ?_ _) | (with_reducible refine Kd.C_drewN ?_ _) | (with_reducible refine Kd.C_drew ?_))); (case side2 => exact HC0.out); rintro e w53 ⟨v350, rfl, ho0, hb⟩; refine ⟨_, rfl, ?_⟩; have n0_ := Aside0.mk (Kd.R_elder' (pR HO_8.out) (Kd.R_base ho0) hb); have n1_ := Aside0.mk (Kd.R_elder' (pR HO_10.out) (Kd.R_base ho0) hb); have n2_ := Aside0.mk (Kd.R_lower (Kd.R_new' (Kd.R_new' ho0 (Kd.R_lt (pR HO_8.out))) (Kd.R_lt (pR HO_10.out))) (below_size (pB HB.out))); have n3_ := Aside0.mk (below_step (pB HB.out) hb); clear HO_8; clear HO_10; clear HB; have HO_8 := n0_; have HO_10 := n1_; have HO351 := n2_; have HB := n3_; clear n0_ n1_ n2_ n3_; (try clear hb); (try clear hb2); (try clear hk); (try clear hi); (try clear ho0); obtain ⟨Ao54, co54, eo54⟩ := Kd.R_slice HO351.out; subst eo54) | ((with_reducible refine gate_callee (f := 29) rfl ?_); refine goesL_ (some 66) rfl rfl Try.func29 (by kernel_rfl) rfl #[.slice Ao54 t349.length co54, .int .i64 a1, .int .i64 a2] rfl bM ?_; (with_reducible refine (impl_BlkMark.calls kj15 _ _ t349 a1 a2 t352 _ ?side1 ?side2 A40.out).mono ?_); (case side1 => exact pC (Kd.R_reads' HO351.out).2.2); (case side2 => exact (Kd.R_reads' HO351.out).2.1); rintro e w55 ⟨v353, rfl, ho0, hb⟩; refine ⟨_, rfl, ?_⟩; have n0_ := Aside0.mk (Kd.R_elder' (pR HO_8.out) (Kd.R_base ho0) hb); have n1_ := Aside0.mk (Kd.R_elder' (pR HO_10.out) (Kd.R_base ho0) hb); have n2_ := Aside0.mk (Kd.R_elder' (pR HO351.out) (Kd.R_base ho0) hb); have n3_ := Aside0.mk (Kd.R_lower (Kd.R_new' (Kd.R_new' (Kd.R_new' ho0 (Kd.R_lt (pR HO_8.out))) (Kd.R_lt (pR HO_10.out))) (Kd.R_lt (pR HO351.out))) (below_size (pB HB.out))); have n4_ := Aside0.mk (below_step (pB HB.out) hb); clear HO_8; clear HO_10; clear HO351; clear HB; have HO_8 := n0_; have HO_10 := n1_; have HO351 := n2_; have HO354 := n3_; have HB := n4_; clear n0_ n1_ n2_ n3_ n4_; (try clear hb); (try clear hb2); (try clear hk); (try clear hi); (try clear ho0); obtain ⟨Ao56, co56, eo56⟩ := Kd.R_slice HO354.out; subst eo56) | ((with_reducible refine gate_callee (f := 19) rfl ?_); refine goesL_ (some 69) rfl rfl Try.func19 (by kernel_rfl) rfl #[.slice Ao56 t352.length co56, .slice Ao24 t329.length co24] rfl bM ?_; (with_reducible refine (laws_eqBlkLastS.calls kj15 _ _ t352 _ _ t329 true _ ?side1 ?side2 ?side3 ?side4 A41.out).mono ?_); (case side1 => exact pC (Kd.R_reads' HO354.out).2.2); (case side2 => exact (Kd.R_reads' HO354.out).2.1); (case side3 => exact pC (Kd.R_reads' HO_8.out).2.2); (case side4 => exact (Kd.R_reads' HO_8.out).2.1); rintro e w57 ⟨rfl, hb⟩; refine ⟨_, rfl, ?_⟩; have n0_ := Aside0.mk (Kd.R_below (pR HO_8.out) hb); have n1_ := Aside0.mk (Kd.R_below (pR HO_10.out) hb); have n2_ := Aside0.mk (Kd.R_below (pR HO351.out) hb); have n3_ := Aside0.mk (Kd.R_below (pR HO354.out) hb); have n4_ := Aside0.mk (below_step (pB HB.out) hb); clear HO_8; clear HO_10; clear HO351; clear HO354; clear HB; have HO_8 := n0_; have HO_10 := n1_; have HO351 := n2_; have HO354 := n3_; have HB := n4_; clear n0_ n1_ n2_ n3_ n4_; (try clear hb); (try clear hb2); (try clear hk); (try clear hi)) | ((with_reducible refine gate_callee (f := 32) rfl ?_); refine goesL_ (some 73) rfl rfl Try.func32 (by kernel_rfl) rfl #[.slice Ao23 t347.length co23, .int .i64 1] rfl (by (try simp only [List.map_toArray, List.map_cons, List.map_nil]); first | done | (rw [show t347.length = t335.length from (Kd.R_reads' HO_10.out).1.symm] <;> rfl) | rfl | (simp only [List.length_drop, List.length_take]; rfl)) ?_; (with_reducible refine (laws_heldBlkLastS.calls kj15 _ _ t347 1 t356 _ ?side1 ?side2 A43.out).mono ?_); (case side1 => exact pC (Kd.R_reads' HO_10.out).2.2); (case side2 => rw [show t347.length = t335.length from (Kd.R_reads' HO_10.out).1.symm]; exact (Kd.R_reads' HO_10.out).2.1); rintro e w' ⟨rfl, ⟨nd, rfl⟩⟩; refine ⟨_, rfl, ?_⟩))
            go_ret
            exact ⟨by first | rfl | (simp [errW_none, errW_some] <;> rfl) | (simp [*, errW_none, errW_some] <;> rfl), pB HB.out⟩
           ·rw [if_neg c51] at H
            have c51b0 : (t356 == t346) = false := beq_eq_false_iff_ne.mpr c51
            have c51b1 : (t356 != t346) = true := bne_iff_ne.mpr c51
            obtain rfl := Option.some.inj H
            go_wp2_with (first | ((with_reducible refine gate_callee (f := 31) rfl ?_); refine goesL_ (some 53) rfl rfl Try.func31 (by kernel_rfl) rfl #[.slice Ao23 t335.length co23, .int .i64 1] rfl bM ?_; (with_reducible refine (laws_markBlkLastS.calls kj15 (fun k_ => some k_ = (.slice Ao23 t335.length co23 : Value).ownBlock) (.slice Ao23 t335.length co23) t335 1 t346 t347 w _ ?side1 ?side2 A34.out).mono ?_); (case side1 => repeat (first | (with_reducible first | exact HB.out | apply below_alloc | apply pw_below_drewN | apply below_drew1) | exact HB.out)); (case side2 => exact Kd.R_tight rfl HO_10.out); rintro e w58 ⟨rfl, hy0, hb, hkp⟩; refine ⟨_, rfl, ?_⟩; have n0_ := Aside0.mk (Kd.R_mono (ok' := fun k_ => some k_ ≠ (.slice Ao23 t335.length co23 : Value).ownBlock) (Kd.R_keptB (HO_8.out) hkp (fun k_ hk_ hs_ => (hk_) hs_)) (fun k_ hk_ => hk_.1)); have n1_ := Aside0.mk (Kd.R_reok rfl hy0 (fun k_ e_ => HO_10.out.1 k_ e_)); have n2_ := Aside0.mk (hb); clear HO_8; clear HO_10; clear HB; have HO_8 := n0_; have HO_10 := n1_; have HB := n2_; clear n0_ n1_ n2_; (try clear hb); (try clear hkp); (try clear hy0)) | ((with_reducible refine gate_callee (f := 32) rfl ?_); refine goesL_ (some 56) rfl rfl Try.func32 (by kernel_rfl) rfl #[.slice Ao23 t347.length co23, .int .i64 1] rfl (by (try simp only [List.map_toArray, List.map_cons, List.map_nil]); first | done | (rw [show t347.length = t335.length from (Kd.R_reads' HO_10.out).1.symm] <;> rfl) | rfl | (simp only [List.length_drop, List.length_take]; rfl)) ?_; (with_reducible refine (laws_heldBlkLastS.calls kj15 _ _ t347 1 t348 _ ?side1 ?side2 A35.out).mono ?_); (case side1 => exact pC (Kd.R_reads' HO_10.out).2.2); (case side2 => rw [show t347.length = t335.length from (Kd.R_reads' HO_10.out).1.symm]; exact (Kd.R_reads' HO_10.out).2.1); rintro e w' ⟨rfl, ⟨nd, rfl⟩⟩; refine ⟨_, rfl, ?_⟩) | ((with_reducible refine gate_callee (f := 17) rfl ?_); refine goesL_ (some 63) rfl rfl Try.func17 (by kernel_rfl) rfl #[.slice A0 l0.length c0] rfl bM ?_; (with_reducible refine (laws_toBlkLastS.calls kj15 _ _ l0 t349 _ ?side1 ?side2 A39.out).mono ?_); (case side1 => repeat (first | exact (Kd.C_below HR0.out (pB HB.out)) | (with_reducible refine Kd.C_alloc ?_ _) | (with_reducible refine Kd.C_drewN ?_ _) | (with_reducible refine Kd.C_drew ?_))); (case side2 => exact HC0.out); rintro e w59 ⟨v350, rfl, ho0, hb⟩; refine ⟨_, rfl, ?_⟩; have n0_ := Aside0.mk (Kd.R_elder' (pR HO_8.out) (Kd.R_base ho0) hb); have n1_ := Aside0.mk (Kd.R_elder' (pR HO_10.out) (Kd.R_base ho0) hb); have n2_ := Aside0.mk (Kd.R_lower (Kd.R_new' (Kd.R_new' ho0 (Kd.R_lt (pR HO_8.out))) (Kd.R_lt (pR HO_10.out))) (below_size (pB HB.out))); have n3_ := Aside0.mk (below_step (pB HB.out) hb); clear HO_8; clear HO_10; clear HB; have HO_8 := n0_; have HO_10 := n1_; have HO351 := n2_; have HB := n3_; clear n0_ n1_ n2_ n3_; (try clear hb); (try clear hb2); (try clear hk); (try clear hi); (try clear ho0); obtain ⟨Ao60, co60, eo60⟩ := Kd.R_slice HO351.out; subst eo60) | ((with_reducible refine gate_callee (f := 29) rfl ?_); refine goesL_ (some 66) rfl rfl Try.func29 (by kernel_rfl) rfl #[.slice Ao60 t349.length co60, .int .i64 a1, .int .i64 a2] rfl bM ?_; (with_reducible refine (impl_BlkMark.calls kj15 _ _ t349 a1 a2 t352 _ ?side1 ?side2 A40.out).mono ?_); (case side1 => exact pC (Kd.R_reads' HO351.out).2.2); (case side2 => exact (Kd.R_reads' HO351.out).2.1); rintro e w61 ⟨v353, rfl, ho0, hb⟩; refine ⟨_, rfl, ?_⟩; have n0_ := Aside0.mk (Kd.R_elder' (pR HO_8.out) (Kd.R_base ho0) hb); have n1_ := Aside0.mk (Kd.R_elder' (pR HO_10.out) (Kd.R_base ho0) hb); have n2_ := Aside0.mk (Kd.R_elder' (pR HO351.out) (Kd.R_base ho0) hb); have n3_ := Aside0.mk (Kd.R_lower (Kd.R_new' (Kd.R_new' (Kd.R_new' ho0 (Kd.R_lt (pR HO_8.out))) (Kd.R_lt (pR HO_10.out))) (Kd.R_lt (pR HO351.out))) (below_size (pB HB.out))); have n4_ := Aside0.mk (below_step (pB HB.out) hb); clear HO_8; clear HO_10; clear HO351; clear HB; have HO_8 := n0_; have HO_10 := n1_; have HO351 := n2_; have HO354 := n3_; have HB := n4_; clear n0_ n1_ n2_ n3_ n4_; (try clear hb); (try clear hb2); (try clear hk); (try clear hi); (try clear ho0); obtain ⟨Ao62, co62, eo62⟩ := Kd.R_slice HO354.out; subst eo62) | ((with_reducible refine gate_callee (f := 19) rfl ?_); refine goesL_ (some 69) rfl rfl Try.func19 (by kernel_rfl) rfl #[.slice Ao62 t352.length co62, .slice Ao24 t329.length co24] rfl bM ?_; (with_reducible refine (laws_eqBlkLastS.calls kj15 _ _ t352 _ _ t329 true _ ?side1 ?side2 ?side3 ?side4 A41.out).mono ?_); (case side1 => exact pC (Kd.R_reads' HO354.out).2.2); (case side2 => exact (Kd.R_reads' HO354.out).2.1); (case side3 => exact pC (Kd.R_reads' HO_8.out).2.2); (case side4 => exact (Kd.R_reads' HO_8.out).2.1); rintro e w63 ⟨rfl, hb⟩; refine ⟨_, rfl, ?_⟩; have n0_ := Aside0.mk (Kd.R_below (pR HO_8.out) hb); have n1_ := Aside0.mk (Kd.R_below (pR HO_10.out) hb); have n2_ := Aside0.mk (Kd.R_below (pR HO351.out) hb); have n3_ := Aside0.mk (Kd.R_below (pR HO354.out) hb); have n4_ := Aside0.mk (below_step (pB HB.out) hb); clear HO_8; clear HO_10; clear HO351; clear HO354; clear HB; have HO_8 := n0_; have HO_10 := n1_; have HO351 := n2_; have HO354 := n3_; have HB := n4_; clear n0_ n1_ n2_ n3_ n4_; (try clear hb); (try clear hb2); (try clear hk); (try clear hi)) | ((with_reducible refine gate_callee (f := 32) rfl ?_); refine goesL_ (some 73) rfl rfl Try.func32 (by kernel_rfl) rfl #[.slice Ao23 t347.length co23, .int .i64 1] rfl (by (try simp only [List.map_toArray, List.map_cons, List.map_nil]); first | done | (rw [show t347.length = t335.length from (Kd.R_reads' HO_10.out).1.symm] <;> rfl) | rfl | (simp only [List.length_drop, List.length_take]; rfl)) ?_; (with_reducible refine (laws_heldBlkLastS.calls kj15 _ _ t347 1 t356 _ ?side1 ?side2 A43.out).mono ?_); (case side1 => exact pC (Kd.R_reads' HO_10.out).2.2); (case side2 => rw [show t347.length = t335.length from (Kd.R_reads' HO_10.out).1.symm]; exact (Kd.R_reads' HO_10.out).2.1); rintro e w' ⟨rfl, ⟨nd, rfl⟩⟩; refine ⟨_, rfl, ?_⟩))
            go_ret
            exact ⟨by first | rfl | (simp [errW_none, errW_some] <;> rfl) | (simp [*, errW_none, errW_some] <;> rfl), pB HB.out⟩
         ·replace c42 := Bool.eq_false_iff.mpr c42
          subst c42
          have H1 : (some false) = some r := by rw [if_neg (show ¬ (false = true) by decide)] at H; exact H
          clear H
          have H := H1
          clear H1
          obtain rfl := Option.some.inj H
          go_wp2_with (first | ((with_reducible refine gate_callee (f := 31) rfl ?_); refine goesL_ (some 53) rfl rfl Try.func31 (by kernel_rfl) rfl #[.slice Ao23 t335.length co23, .int .i64 1] rfl bM ?_; (with_reducible refine (laws_markBlkLastS.calls kj15 (fun k_ => some k_ = (.slice Ao23 t335.length co23 : Value).ownBlock) (.slice Ao23 t335.length co23) t335 1 t346 t347 w _ ?side1 ?side2 A34.out).mono ?_); (case side1 => repeat (first | (with_reducible first | exact HB.out | apply below_alloc | apply pw_below_drewN | apply below_drew1) | exact HB.out)); (case side2 => exact Kd.R_tight rfl HO_10.out); rintro e w64 ⟨rfl, hy0, hb, hkp⟩; refine ⟨_, rfl, ?_⟩; have n0_ := Aside0.mk (Kd.R_mono (ok' := fun k_ => some k_ ≠ (.slice Ao23 t335.length co23 : Value).ownBlock) (Kd.R_keptB (HO_8.out) hkp (fun k_ hk_ hs_ => (hk_) hs_)) (fun k_ hk_ => hk_.1)); have n1_ := Aside0.mk (Kd.R_reok rfl hy0 (fun k_ e_ => HO_10.out.1 k_ e_)); have n2_ := Aside0.mk (hb); clear HO_8; clear HO_10; clear HB; have HO_8 := n0_; have HO_10 := n1_; have HB := n2_; clear n0_ n1_ n2_; (try clear hb); (try clear hkp); (try clear hy0)) | ((with_reducible refine gate_callee (f := 32) rfl ?_); refine goesL_ (some 56) rfl rfl Try.func32 (by kernel_rfl) rfl #[.slice Ao23 t347.length co23, .int .i64 1] rfl (by (try simp only [List.map_toArray, List.map_cons, List.map_nil]); first | done | (rw [show t347.length = t335.length from (Kd.R_reads' HO_10.out).1.symm] <;> rfl) | rfl | (simp only [List.length_drop, List.length_take]; rfl)) ?_; (with_reducible refine (laws_heldBlkLastS.calls kj15 _ _ t347 1 t348 _ ?side1 ?side2 A35.out).mono ?_); (case side1 => exact pC (Kd.R_reads' HO_10.out).2.2); (case side2 => rw [show t347.length = t335.length from (Kd.R_reads' HO_10.out).1.symm]; exact (Kd.R_reads' HO_10.out).2.1); rintro e w' ⟨rfl, ⟨nd, rfl⟩⟩; refine ⟨_, rfl, ?_⟩) | ((with_reducible refine gate_callee (f := 17) rfl ?_); refine goesL_ (some 63) rfl rfl Try.func17 (by kernel_rfl) rfl #[.slice A0 l0.length c0] rfl bM ?_; (with_reducible refine (laws_toBlkLastS.calls kj15 _ _ l0 t349 _ ?side1 ?side2 A39.out).mono ?_); (case side1 => repeat (first | exact (Kd.C_below HR0.out (pB HB.out)) | (with_reducible refine Kd.C_alloc ?_ _) | (with_reducible refine Kd.C_drewN ?_ _) | (with_reducible refine Kd.C_drew ?_))); (case side2 => exact HC0.out); rintro e w65 ⟨v350, rfl, ho0, hb⟩; refine ⟨_, rfl, ?_⟩; have n0_ := Aside0.mk (Kd.R_elder' (pR HO_8.out) (Kd.R_base ho0) hb); have n1_ := Aside0.mk (Kd.R_elder' (pR HO_10.out) (Kd.R_base ho0) hb); have n2_ := Aside0.mk (Kd.R_lower (Kd.R_new' (Kd.R_new' ho0 (Kd.R_lt (pR HO_8.out))) (Kd.R_lt (pR HO_10.out))) (below_size (pB HB.out))); have n3_ := Aside0.mk (below_step (pB HB.out) hb); clear HO_8; clear HO_10; clear HB; have HO_8 := n0_; have HO_10 := n1_; have HO351 := n2_; have HB := n3_; clear n0_ n1_ n2_ n3_; (try clear hb); (try clear hb2); (try clear hk); (try clear hi); (try clear ho0); obtain ⟨Ao66, co66, eo66⟩ := Kd.R_slice HO351.out; subst eo66) | ((with_reducible refine gate_callee (f := 29) rfl ?_); refine goesL_ (some 66) rfl rfl Try.func29 (by kernel_rfl) rfl #[.slice Ao66 t349.length co66, .int .i64 a1, .int .i64 a2] rfl bM ?_; (with_reducible refine (impl_BlkMark.calls kj15 _ _ t349 a1 a2 t352 _ ?side1 ?side2 A40.out).mono ?_); (case side1 => exact pC (Kd.R_reads' HO351.out).2.2); (case side2 => exact (Kd.R_reads' HO351.out).2.1); rintro e w67 ⟨v353, rfl, ho0, hb⟩; refine ⟨_, rfl, ?_⟩; have n0_ := Aside0.mk (Kd.R_elder' (pR HO_8.out) (Kd.R_base ho0) hb); have n1_ := Aside0.mk (Kd.R_elder' (pR HO_10.out) (Kd.R_base ho0) hb); have n2_ := Aside0.mk (Kd.R_elder' (pR HO351.out) (Kd.R_base ho0) hb); have n3_ := Aside0.mk (Kd.R_lower (Kd.R_new' (Kd.R_new' (Kd.R_new' ho0 (Kd.R_lt (pR HO_8.out))) (Kd.R_lt (pR HO_10.out))) (Kd.R_lt (pR HO351.out))) (below_size (pB HB.out))); have n4_ := Aside0.mk (below_step (pB HB.out) hb); clear HO_8; clear HO_10; clear HO351; clear HB; have HO_8 := n0_; have HO_10 := n1_; have HO351 := n2_; have HO354 := n3_; have HB := n4_; clear n0_ n1_ n2_ n3_ n4_; (try clear hb); (try clear hb2); (try clear hk); (try clear hi); (try clear ho0); obtain ⟨Ao68, co68, eo68⟩ := Kd.R_slice HO354.out; subst eo68) | ((with_reducible refine gate_callee (f := 19) rfl ?_); refine goesL_ (some 69) rfl rfl Try.func19 (by kernel_rfl) rfl #[.slice Ao68 t352.length co68, .slice Ao24 t329.length co24] rfl bM ?_; (with_reducible refine (laws_eqBlkLastS.calls kj15 _ _ t352 _ _ t329 false _ ?side1 ?side2 ?side3 ?side4 A41.out).mono ?_); (case side1 => exact pC (Kd.R_reads' HO354.out).2.2); (case side2 => exact (Kd.R_reads' HO354.out).2.1); (case side3 => exact pC (Kd.R_reads' HO_8.out).2.2); (case side4 => exact (Kd.R_reads' HO_8.out).2.1); rintro e w69 ⟨rfl, hb⟩; refine ⟨_, rfl, ?_⟩; have n0_ := Aside0.mk (Kd.R_below (pR HO_8.out) hb); have n1_ := Aside0.mk (Kd.R_below (pR HO_10.out) hb); have n2_ := Aside0.mk (Kd.R_below (pR HO351.out) hb); have n3_ := Aside0.mk (Kd.R_below (pR HO354.out) hb); have n4_ := Aside0.mk (below_step (pB HB.out) hb); clear HO_8; clear HO_10; clear HO351; clear HO354; clear HB; have HO_8 := n0_; have HO_10 := n1_; have HO351 := n2_; have HO354 := n3_; have HB := n4_; clear n0_ n1_ n2_ n3_ n4_; (try clear hb); (try clear hb2); (try clear hk); (try clear hi)))
          go_ret
          exact ⟨by first | rfl | (simp [errW_none, errW_some] <;> rfl) | (simp [*, errW_none, errW_some] <;> rfl), pB HB.out⟩
        ·rw [if_neg c38] at H
         have c38b0 : (t348 == t346) = false := beq_eq_false_iff_ne.mpr c38
         have c38b1 : (t348 != t346) = true := bne_iff_ne.mpr c38
         obtain rfl := Option.some.inj H
         go_wp2_with (first | ((with_reducible refine gate_callee (f := 31) rfl ?_); refine goesL_ (some 53) rfl rfl Try.func31 (by kernel_rfl) rfl #[.slice Ao23 t335.length co23, .int .i64 1] rfl bM ?_; (with_reducible refine (laws_markBlkLastS.calls kj15 (fun k_ => some k_ = (.slice Ao23 t335.length co23 : Value).ownBlock) (.slice Ao23 t335.length co23) t335 1 t346 t347 w _ ?side1 ?side2 A34.out).mono ?_); (case side1 => repeat (first | (with_reducible first | exact HB.out | apply below_alloc | apply pw_below_drewN | apply below_drew1) | exact HB.out)); (case side2 => exact Kd.R_tight rfl HO_10.out); rintro e w70 ⟨rfl, hy0, hb, hkp⟩; refine ⟨_, rfl, ?_⟩; have n0_ := Aside0.mk (Kd.R_mono (ok' := fun k_ => some k_ ≠ (.slice Ao23 t335.length co23 : Value).ownBlock) (Kd.R_keptB (HO_8.out) hkp (fun k_ hk_ hs_ => (hk_) hs_)) (fun k_ hk_ => hk_.1)); have n1_ := Aside0.mk (Kd.R_reok rfl hy0 (fun k_ e_ => HO_10.out.1 k_ e_)); have n2_ := Aside0.mk (hb); clear HO_8; clear HO_10; clear HB; have HO_8 := n0_; have HO_10 := n1_; have HB := n2_; clear n0_ n1_ n2_; (try clear hb); (try clear hkp); (try clear hy0)) | ((with_reducible refine gate_callee (f := 32) rfl ?_); refine goesL_ (some 56) rfl rfl Try.func32 (by kernel_rfl) rfl #[.slice Ao23 t347.length co23, .int .i64 1] rfl (by (try simp only [List.map_toArray, List.map_cons, List.map_nil]); first | done | (rw [show t347.length = t335.length from (Kd.R_reads' HO_10.out).1.symm] <;> rfl) | rfl | (simp only [List.length_drop, List.length_take]; rfl)) ?_; (with_reducible refine (laws_heldBlkLastS.calls kj15 _ _ t347 1 t348 _ ?side1 ?side2 A35.out).mono ?_); (case side1 => exact pC (Kd.R_reads' HO_10.out).2.2); (case side2 => rw [show t347.length = t335.length from (Kd.R_reads' HO_10.out).1.symm]; exact (Kd.R_reads' HO_10.out).2.1); rintro e w' ⟨rfl, ⟨nd, rfl⟩⟩; refine ⟨_, rfl, ?_⟩))
         go_ret
         exact ⟨by first | rfl | (simp [errW_none, errW_some] <;> rfl) | (simp [*, errW_none, errW_some] <;> rfl), pB HB.out⟩
   ·replace c14 := Bool.eq_false_iff.mpr c14
    subst c14
    have H1 : (some false) = some r := by rw [if_neg (show ¬ (false = true) by decide)] at H; exact H
    clear H
    have H := H1
    clear H1
    obtain rfl := Option.some.inj H
    go_enter Try.func7, Try.ntmps7
    go_wp2_with (first | ((with_reducible refine gate_callee (f := 15) rfl ?_); refine goesL_ (some 17) rfl rfl Try.func15 (by kernel_rfl) rfl #[.slice A0 l0.length c0, .int .i64 1048576] rfl bM ?_; (with_reducible refine (laws_szBlkLastS.calls _ _ l0 1048576 t325 _ ?side1 ?side2 A4.out).mono ?_); (case side1 => exact pC HR0.out); (case side2 => exact HC0.out); rintro e w' ⟨rfl, ⟨nd, rfl⟩⟩; refine ⟨_, rfl, ?_⟩) | ((with_reducible refine gate_callee (f := 17) rfl ?_); refine goesL_ (some 21) rfl rfl Try.func17 (by kernel_rfl) rfl #[.slice A0 l0.length c0] rfl bM ?_; (with_reducible refine (laws_toBlkLastS.calls k _ _ l0 t326 _ ?side1 ?side2 A6.out).mono ?_); (case side1 => exact pC HR0.out); (case side2 => exact HC0.out); rintro e w71 ⟨v327, rfl, ho0, hb⟩; refine ⟨_, rfl, ?_⟩; have n0_ := Aside0.mk (Kd.R_lower ho0 (below_size (pB HB.out))); have n1_ := Aside0.mk (below_step (pB HB.out) hb); clear HB; have HO328 := n0_; have HB := n1_; clear n0_ n1_; (try clear hb); (try clear hb2); (try clear hk); (try clear hi); (try clear ho0); obtain ⟨Ao72, co72, eo72⟩ := Kd.R_slice HO328.out; subst eo72) | ((with_reducible refine gate_callee (f := 28) rfl ?_); refine goesL_ (some 24) rfl rfl Try.func28 (by kernel_rfl) rfl #[.slice Ao72 t326.length co72, .int .i64 a1, .int .i64 a2] rfl bM ?_; (with_reducible refine (spec_BlkMark.calls k _ _ t326 a1 a2 t329 _ ?side1 ?side2 A7.out).mono ?_); (case side1 => exact pC (Kd.R_reads' HO328.out).2.2); (case side2 => exact (Kd.R_reads' HO328.out).2.1); rintro e w73 ⟨v330, rfl, ho0, hb⟩; refine ⟨_, rfl, ?_⟩; have n0_ := Aside0.mk (Kd.R_elder' (pR HO328.out) (Kd.R_base ho0) hb); have n1_ := Aside0.mk (Kd.R_lower (Kd.R_new' ho0 (Kd.R_lt (pR HO328.out))) (below_size (pB HB.out))); have n2_ := Aside0.mk (below_step (pB HB.out) hb); clear HO328; clear HB; have HO328 := n0_; have HO331 := n1_; have HB := n2_; clear n0_ n1_ n2_; (try clear hb); (try clear hb2); (try clear hk); (try clear hi); (try clear ho0)) | ((with_reducible refine gate_callee (f := 17) rfl ?_); refine goesL_ (some 26) rfl rfl Try.func17 (by kernel_rfl) rfl #[.slice A0 l0.length c0] rfl bM ?_; (with_reducible refine (laws_toBlkLastS.calls k _ _ l0 t332 _ ?side1 ?side2 A8.out).mono ?_); (case side1 => repeat (first | exact (Kd.C_below HR0.out HB.out) | (with_reducible refine Kd.C_alloc ?_ _) | (with_reducible refine Kd.C_drewN ?_ _) | (with_reducible refine Kd.C_drew ?_))); (case side2 => exact HC0.out); rintro e w74 ⟨v333, rfl, ho0, hb⟩; refine ⟨_, rfl, ?_⟩; have n0_ := Aside0.mk (Kd.R_elder' (pR HO328.out) (Kd.R_base ho0) hb); have n1_ := Aside0.mk (Kd.R_elder' (pR HO331.out) (Kd.R_base ho0) hb); have n2_ := Aside0.mk (Kd.R_lower (Kd.R_new' (Kd.R_new' ho0 (Kd.R_lt (pR HO328.out))) (Kd.R_lt (pR HO331.out))) (below_size (pB HB.out))); have n3_ := Aside0.mk (below_step (pB HB.out) hb); clear HO328; clear HO331; clear HB; have HO328 := n0_; have HO331 := n1_; have HO334 := n2_; have HB := n3_; clear n0_ n1_ n2_ n3_; (try clear hb); (try clear hb2); (try clear hk); (try clear hi); (try clear ho0); obtain ⟨Ao75, co75, eo75⟩ := Kd.R_slice HO334.out; subst eo75) | ((with_reducible refine gate_callee (f := 29) rfl ?_); refine goesL_ (some 30) rfl rfl Try.func29 (by kernel_rfl) rfl #[.slice Ao75 t332.length co75, .int .i64 a1, .int .i64 a2] rfl bM ?_; (with_reducible refine (impl_BlkMark.calls k _ _ t332 a1 a2 t335 _ ?side1 ?side2 A9.out).mono ?_); (case side1 => exact pC (Kd.R_reads' HO334.out).2.2); (case side2 => exact (Kd.R_reads' HO334.out).2.1); rintro e w76 ⟨v336, rfl, ho0, hb⟩; refine ⟨_, rfl, ?_⟩; have n0_ := Aside0.mk (Kd.R_elder' (pR HO328.out) (Kd.R_base ho0) hb); have n1_ := Aside0.mk (Kd.R_elder' (pR HO331.out) (Kd.R_base ho0) hb); have n2_ := Aside0.mk (Kd.R_elder' (pR HO334.out) (Kd.R_base ho0) hb); have n3_ := Aside0.mk (Kd.R_lower (Kd.R_new' (Kd.R_new' (Kd.R_new' ho0 (Kd.R_lt (pR HO328.out))) (Kd.R_lt (pR HO331.out))) (Kd.R_lt (pR HO334.out))) (below_size (pB HB.out))); have n4_ := Aside0.mk (below_step (pB HB.out) hb); clear HO328; clear HO331; clear HO334; clear HB; have HO328 := n0_; have HO331 := n1_; have HO334 := n2_; have HO337 := n3_; have HB := n4_; clear n0_ n1_ n2_ n3_ n4_; (try clear hb); (try clear hb2); (try clear hk); (try clear hi); (try clear ho0); obtain ⟨Ao77, co77, eo77⟩ := Kd.R_slice HO337.out; subst eo77; obtain ⟨Ao78, co78, eo78⟩ := Kd.R_slice HO331.out; subst eo78) | ((with_reducible refine gate_callee (f := 19) rfl ?_); refine goesL_ (some 33) rfl rfl Try.func19 (by kernel_rfl) rfl #[.slice Ao77 t335.length co77, .slice Ao78 t329.length co78] rfl bM ?_; (with_reducible refine (laws_eqBlkLastS.calls k _ _ t335 _ _ t329 true _ ?side1 ?side2 ?side3 ?side4 A10.out).mono ?_); (case side1 => exact pC (Kd.R_reads' HO337.out).2.2); (case side2 => exact (Kd.R_reads' HO337.out).2.1); (case side3 => exact pC (Kd.R_reads' HO331.out).2.2); (case side4 => exact (Kd.R_reads' HO331.out).2.1); rintro e w79 ⟨rfl, hb⟩; refine ⟨_, rfl, ?_⟩; have n0_ := Aside0.mk (Kd.R_below (pR HO328.out) hb); have n1_ := Aside0.mk (Kd.R_below (pR HO331.out) hb); have n2_ := Aside0.mk (Kd.R_below (pR HO334.out) hb); have n3_ := Aside0.mk (Kd.R_below (pR HO337.out) hb); have n4_ := Aside0.mk (below_step (pB HB.out) hb); clear HO328; clear HO331; clear HO334; clear HO337; clear HB; have HO328 := n0_; have HO331 := n1_; have HO334 := n2_; have HO337 := n3_; have HB := n4_; clear n0_ n1_ n2_ n3_ n4_; (try clear hb); (try clear hb2); (try clear hk); (try clear hi)) | ((with_reducible refine gate_callee (f := 17) rfl ?_); refine goesL_ (some 37) rfl rfl Try.func17 (by kernel_rfl) rfl #[.slice A0 l0.length c0] rfl bM ?_; (with_reducible refine (laws_toBlkLastS.calls k _ _ l0 t339 _ ?side1 ?side2 A12.out).mono ?_); (case side1 => repeat (first | exact (Kd.C_below HR0.out HB.out) | (with_reducible refine Kd.C_alloc ?_ _) | (with_reducible refine Kd.C_drewN ?_ _) | (with_reducible refine Kd.C_drew ?_))); (case side2 => exact HC0.out); rintro e w80 ⟨v340, rfl, ho0, hb⟩; refine ⟨_, rfl, ?_⟩; have n0_ := Aside0.mk (Kd.R_elder' (pR HO328.out) (Kd.R_base ho0) hb); have n1_ := Aside0.mk (Kd.R_elder' (pR HO331.out) (Kd.R_base ho0) hb); have n2_ := Aside0.mk (Kd.R_elder' (pR HO334.out) (Kd.R_base ho0) hb); have n3_ := Aside0.mk (Kd.R_elder' (pR HO337.out) (Kd.R_base ho0) hb); have n4_ := Aside0.mk (Kd.R_lower (Kd.R_new' (Kd.R_new' (Kd.R_new' (Kd.R_new' ho0 (Kd.R_lt (pR HO328.out))) (Kd.R_lt (pR HO331.out))) (Kd.R_lt (pR HO334.out))) (Kd.R_lt (pR HO337.out))) (below_size (pB HB.out))); have n5_ := Aside0.mk (below_step (pB HB.out) hb); clear HO328; clear HO331; clear HO334; clear HO337; clear HB; have HO328 := n0_; have HO331 := n1_; have HO334 := n2_; have HO337 := n3_; have HO341 := n4_; have HB := n5_; clear n0_ n1_ n2_ n3_ n4_ n5_; (try clear hb); (try clear hb2); (try clear hk); (try clear hi); (try clear ho0); obtain ⟨Ao81, co81, eo81⟩ := Kd.R_slice HO341.out; subst eo81) | ((with_reducible refine gate_callee (f := 19) rfl ?_); refine goesL_ (some 38) rfl rfl Try.func19 (by kernel_rfl) rfl #[.slice Ao75 t332.length co75, .slice Ao81 t339.length co81] rfl bM ?_; (with_reducible refine (laws_eqBlkLastS.calls k _ _ t332 _ _ t339 false _ ?side1 ?side2 ?side3 ?side4 A13.out).mono ?_); (case side1 => exact pC (Kd.R_reads' HO334.out).2.2); (case side2 => exact (Kd.R_reads' HO334.out).2.1); (case side3 => exact pC (Kd.R_reads' HO341.out).2.2); (case side4 => exact (Kd.R_reads' HO341.out).2.1); rintro e w82 ⟨rfl, hb⟩; refine ⟨_, rfl, ?_⟩; have n0_ := Aside0.mk (Kd.R_below (pR HO328.out) hb); have n1_ := Aside0.mk (Kd.R_below (pR HO331.out) hb); have n2_ := Aside0.mk (Kd.R_below (pR HO334.out) hb); have n3_ := Aside0.mk (Kd.R_below (pR HO337.out) hb); have n4_ := Aside0.mk (Kd.R_below (pR HO341.out) hb); have n5_ := Aside0.mk (below_step (pB HB.out) hb); clear HO328; clear HO331; clear HO334; clear HO337; clear HO341; clear HB; have HO328 := n0_; have HO331 := n1_; have HO334 := n2_; have HO337 := n3_; have HO341 := n4_; have HB := n5_; clear n0_ n1_ n2_ n3_ n4_ n5_; (try clear hb); (try clear hb2); (try clear hk); (try clear hi)))
    go_ret
    exact ⟨by first | rfl | (simp [errW_none, errW_some] <;> rfl) | (simp [*, errW_none, errW_some] <;> rfl), pB HB.out⟩
  ·replace c11 := Bool.eq_false_iff.mpr c11
   subst c11
   have H1 : (some false) = some r := by rw [if_neg (show ¬ (false = true) by decide)] at H; exact H
   clear H
   have H := H1
   clear H1
   obtain rfl := Option.some.inj H
   go_enter Try.func7, Try.ntmps7
   go_wp2_with (first | ((with_reducible refine gate_callee (f := 15) rfl ?_); refine goesL_ (some 17) rfl rfl Try.func15 (by kernel_rfl) rfl #[.slice A0 l0.length c0, .int .i64 1048576] rfl bM ?_; (with_reducible refine (laws_szBlkLastS.calls _ _ l0 1048576 t325 _ ?side1 ?side2 A4.out).mono ?_); (case side1 => exact pC HR0.out); (case side2 => exact HC0.out); rintro e w' ⟨rfl, ⟨nd, rfl⟩⟩; refine ⟨_, rfl, ?_⟩) | ((with_reducible refine gate_callee (f := 17) rfl ?_); refine goesL_ (some 21) rfl rfl Try.func17 (by kernel_rfl) rfl #[.slice A0 l0.length c0] rfl bM ?_; (with_reducible refine (laws_toBlkLastS.calls k _ _ l0 t326 _ ?side1 ?side2 A6.out).mono ?_); (case side1 => exact pC HR0.out); (case side2 => exact HC0.out); rintro e w83 ⟨v327, rfl, ho0, hb⟩; refine ⟨_, rfl, ?_⟩; have n0_ := Aside0.mk (Kd.R_lower ho0 (below_size (pB HB.out))); have n1_ := Aside0.mk (below_step (pB HB.out) hb); clear HB; have HO328 := n0_; have HB := n1_; clear n0_ n1_; (try clear hb); (try clear hb2); (try clear hk); (try clear hi); (try clear ho0); obtain ⟨Ao84, co84, eo84⟩ := Kd.R_slice HO328.out; subst eo84) | ((with_reducible refine gate_callee (f := 28) rfl ?_); refine goesL_ (some 24) rfl rfl Try.func28 (by kernel_rfl) rfl #[.slice Ao84 t326.length co84, .int .i64 a1, .int .i64 a2] rfl bM ?_; (with_reducible refine (spec_BlkMark.calls k _ _ t326 a1 a2 t329 _ ?side1 ?side2 A7.out).mono ?_); (case side1 => exact pC (Kd.R_reads' HO328.out).2.2); (case side2 => exact (Kd.R_reads' HO328.out).2.1); rintro e w85 ⟨v330, rfl, ho0, hb⟩; refine ⟨_, rfl, ?_⟩; have n0_ := Aside0.mk (Kd.R_elder' (pR HO328.out) (Kd.R_base ho0) hb); have n1_ := Aside0.mk (Kd.R_lower (Kd.R_new' ho0 (Kd.R_lt (pR HO328.out))) (below_size (pB HB.out))); have n2_ := Aside0.mk (below_step (pB HB.out) hb); clear HO328; clear HB; have HO328 := n0_; have HO331 := n1_; have HB := n2_; clear n0_ n1_ n2_; (try clear hb); (try clear hb2); (try clear hk); (try clear hi); (try clear ho0)) | ((with_reducible refine gate_callee (f := 17) rfl ?_); refine goesL_ (some 26) rfl rfl Try.func17 (by kernel_rfl) rfl #[.slice A0 l0.length c0] rfl bM ?_; (with_reducible refine (laws_toBlkLastS.calls k _ _ l0 t332 _ ?side1 ?side2 A8.out).mono ?_); (case side1 => repeat (first | exact (Kd.C_below HR0.out HB.out) | (with_reducible refine Kd.C_alloc ?_ _) | (with_reducible refine Kd.C_drewN ?_ _) | (with_reducible refine Kd.C_drew ?_))); (case side2 => exact HC0.out); rintro e w86 ⟨v333, rfl, ho0, hb⟩; refine ⟨_, rfl, ?_⟩; have n0_ := Aside0.mk (Kd.R_elder' (pR HO328.out) (Kd.R_base ho0) hb); have n1_ := Aside0.mk (Kd.R_elder' (pR HO331.out) (Kd.R_base ho0) hb); have n2_ := Aside0.mk (Kd.R_lower (Kd.R_new' (Kd.R_new' ho0 (Kd.R_lt (pR HO328.out))) (Kd.R_lt (pR HO331.out))) (below_size (pB HB.out))); have n3_ := Aside0.mk (below_step (pB HB.out) hb); clear HO328; clear HO331; clear HB; have HO328 := n0_; have HO331 := n1_; have HO334 := n2_; have HB := n3_; clear n0_ n1_ n2_ n3_; (try clear hb); (try clear hb2); (try clear hk); (try clear hi); (try clear ho0); obtain ⟨Ao87, co87, eo87⟩ := Kd.R_slice HO334.out; subst eo87) | ((with_reducible refine gate_callee (f := 29) rfl ?_); refine goesL_ (some 30) rfl rfl Try.func29 (by kernel_rfl) rfl #[.slice Ao87 t332.length co87, .int .i64 a1, .int .i64 a2] rfl bM ?_; (with_reducible refine (impl_BlkMark.calls k _ _ t332 a1 a2 t335 _ ?side1 ?side2 A9.out).mono ?_); (case side1 => exact pC (Kd.R_reads' HO334.out).2.2); (case side2 => exact (Kd.R_reads' HO334.out).2.1); rintro e w88 ⟨v336, rfl, ho0, hb⟩; refine ⟨_, rfl, ?_⟩; have n0_ := Aside0.mk (Kd.R_elder' (pR HO328.out) (Kd.R_base ho0) hb); have n1_ := Aside0.mk (Kd.R_elder' (pR HO331.out) (Kd.R_base ho0) hb); have n2_ := Aside0.mk (Kd.R_elder' (pR HO334.out) (Kd.R_base ho0) hb); have n3_ := Aside0.mk (Kd.R_lower (Kd.R_new' (Kd.R_new' (Kd.R_new' ho0 (Kd.R_lt (pR HO328.out))) (Kd.R_lt (pR HO331.out))) (Kd.R_lt (pR HO334.out))) (below_size (pB HB.out))); have n4_ := Aside0.mk (below_step (pB HB.out) hb); clear HO328; clear HO331; clear HO334; clear HB; have HO328 := n0_; have HO331 := n1_; have HO334 := n2_; have HO337 := n3_; have HB := n4_; clear n0_ n1_ n2_ n3_ n4_; (try clear hb); (try clear hb2); (try clear hk); (try clear hi); (try clear ho0); obtain ⟨Ao89, co89, eo89⟩ := Kd.R_slice HO337.out; subst eo89; obtain ⟨Ao90, co90, eo90⟩ := Kd.R_slice HO331.out; subst eo90) | ((with_reducible refine gate_callee (f := 19) rfl ?_); refine goesL_ (some 33) rfl rfl Try.func19 (by kernel_rfl) rfl #[.slice Ao89 t335.length co89, .slice Ao90 t329.length co90] rfl bM ?_; (with_reducible refine (laws_eqBlkLastS.calls k _ _ t335 _ _ t329 false _ ?side1 ?side2 ?side3 ?side4 A10.out).mono ?_); (case side1 => exact pC (Kd.R_reads' HO337.out).2.2); (case side2 => exact (Kd.R_reads' HO337.out).2.1); (case side3 => exact pC (Kd.R_reads' HO331.out).2.2); (case side4 => exact (Kd.R_reads' HO331.out).2.1); rintro e w91 ⟨rfl, hb⟩; refine ⟨_, rfl, ?_⟩; have n0_ := Aside0.mk (Kd.R_below (pR HO328.out) hb); have n1_ := Aside0.mk (Kd.R_below (pR HO331.out) hb); have n2_ := Aside0.mk (Kd.R_below (pR HO334.out) hb); have n3_ := Aside0.mk (Kd.R_below (pR HO337.out) hb); have n4_ := Aside0.mk (below_step (pB HB.out) hb); clear HO328; clear HO331; clear HO334; clear HO337; clear HB; have HO328 := n0_; have HO331 := n1_; have HO334 := n2_; have HO337 := n3_; have HB := n4_; clear n0_ n1_ n2_ n3_ n4_; (try clear hb); (try clear hb2); (try clear hk); (try clear hi)))
   go_ret
   exact ⟨by first | rfl | (simp [errW_none, errW_some] <;> rfl) | (simp [*, errW_none, errW_some] <;> rfl), pB HB.out⟩

/-- THE ONE PURE STATEMENT of laws_FnExactBlkMark. -/
def laws_FnExactBlkMark.Pure : Prop := ∀ (l0 : List (S61)) (a1 : Int) (a2 : Int), (l0.length ≤ maxLen ∧ ∀ z_ ∈ l0, wf61 z_) → (Lit.int .i64 a1).wf = true → (Lit.int .i64 a2).wf = true → ∃ k, laws_FnExactBlkMark.f k l0 a1 a2 = some true
theorem laws_FnExactBlkMark.walk (P : laws_FnExactBlkMark.Pure) (A0 : Option Addr) (c0 : Nat) (l0 : List (S61)) (a1 : Int) (a2 : Int) (w : World) (hw0 : (l0.length ≤ maxLen ∧ ∀ z_ ∈ l0, wf61 z_)) (hw1 : (Lit.int .i64 a1).wf = true) (hw2 : (Lit.int .i64 a2).wf = true) (hr0 : Kd.C k61 w A0 l0.length l0) (hc0 : l0.length ≤ c0) :
  Calls Try.prog 7 #[.slice A0 l0.length c0, .int .i64 a1, .int .i64 a2] w fun e w' => e = .returned (.bool true) ∧ Below w.heap.size w w' := by
 obtain ⟨k, h⟩ := P l0 a1 a2 hw0 hw1 hw2
 refine (laws_FnExactBlkMark.calls k A0 c0 l0 a1 a2 true w hr0 hc0 h).mono ?_
 rintro e w' ⟨rfl, hd⟩
 exact ⟨rfl, hd⟩

end Go.Proofs.Ytdcdaclmicmiaaa.P
