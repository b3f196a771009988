-- printed by pprint.py (this session's program over the kit's printer) out of the translation. Lean checks it.
import Derived.Test.YthjocaegapchaaaPx0
import Derived.Test.YthjocaegapchaaaPx8
import Derived.Test.YthjocaegapchaaaPx9
import Derived.Test.YthjocaegapchaaaPx10
import Derived.Test.YthjocaegapchaaaPx11
import Derived.Test.YthjocaegapchaaaPx18
import Derived.Test.YthjocaegapchaaaPx27
namespace Go.Proofs.Ythjocaegapchaaa.P
open Go.RowKit Go.Proofs.YthjocaegapchaaaX Go.Proofs.YthjocaegapchaaaW.PrintWords Go.Proofs.YthjocaegapchaaaW.PrintLast Go.Proofs.YthjocaegapchaaaW.PrintMore
attribute [local go_sem] max2_int min2_int max_two min_two max_three min_three max_four min_four   -- for this text's walks alone
set_option linter.unusedVariables false
set_option linter.unusedSimpArgs false

/-! ### laws_FnExactWalDo: function 7 -/
set_option maxHeartbeats 8000000 in
set_option maxRecDepth 100000 in
theorem laws_FnExactWalDo.calls (k : Nat) (A0_0 : Option Addr) (c0_0 : Nat) (l0_0 : List ByteArray) (A0_1 : Option Addr) (c0_1 : Nat) (l0_1 : List (S105)) (A1 : Option Addr) (c1 : Nat) (l1 : List (S97)) (a2 : Bool) (a3 : Int) (A4 : Option Addr) (c4 : Nat) (l4 : List Int) (r : Bool) (w : World) (hr0_0 : Kd.C Kd.string w A0_0 l0_0.length l0_0) (hc0_0 : l0_0.length ≤ c0_0) (hr0_1 : Kd.C k105 w A0_1 l0_1.length l0_1) (hc0_1 : l0_1.length ≤ c0_1) (hr1 : Kd.C k97 w A1 l1.length l1) (hc1 : l1.length ≤ c1) (hr4 : Kd.C (Kd.int .i64) w A4 l4.length l4) (hc4 : l4.length ≤ c4) (h : laws_FnExactWalDo.f k l0_0 l0_1 l1 a2 a3 l4 = some r) :
  Calls Try.prog 7 #[.agg #[.slice A0_0 l0_0.length c0_0, .slice A0_1 l0_1.length c0_1], .slice A1 l1.length c1, .bool a2, .int .i64 a3, .slice A4 l4.length c4] w fun e w' => e = .returned (.bool r) ∧ Below w.heap.size w w' := by
 have hu25 := Try.underlying25
 have hu31 := Try.underlying31
 have HR0_0 := Aside0.mk hr0_0
 have HC0_0 := Aside0.mk hc0_0
 clear hr0_0 hc0_0
 have HR0_1 := Aside0.mk hr0_1
 have HC0_1 := Aside0.mk hc0_1
 clear hr0_1 hc0_1
 have HR1 := Aside0.mk hr1
 have HC1 := Aside0.mk hc1
 clear hr1 hc1
 have HR4 := Aside0.mk hr4
 have HC4 := Aside0.mk hc4
 clear hr4 hc4
 have HB := Aside0.mk (Below.refl w.heap.size w)
 have H : (if (l4.length : Int) > 1048576 then (some true) else (laws_FnExactWalDo.j0 k l1 a2 a3 l4 l0_0 l0_1)) = some r := h
 clear h
 have HC6 := Aside0.mk H
 clear H
 go_enter Try.func7, Try.ntmps7
 go_upto_if 23 with (first | ((with_reducible refine gate_dst (N := 5) rfl ?_); refine box_event ?hg (N := 5) ?hd (cs := #[.slice A0_0 l0_0.length c0_0, .slice A0_1 l0_1.length c0_1]) (t := 25) ?hr ?_; (case hd => rfl); (case hg => rfl); (case hr => first | (go_simp; done) | (go_simp; rfl)); intro gb1059 hg w7 hbox hb; have n0_ := Aside0.mk (below_step (pB HB.out) hb); have n1_ := Aside0.mk (hbox); have n2_ := Aside0.mk ((by rw [hg]; exact (below_size (pB HB.out)) : w.heap.size ≤ gb1059)); have n3_ := Aside0.mk ((by rw [hg]; exact (below_size (pB HB.out)) : w.heap.size ≤ gb1059)); clear HB; have HB := n0_; have BK1059 := n1_; have GW1059 := n2_; have GE1059 := n3_; clear n0_ n1_ n2_ n3_; clear hb hbox hg))
 (try simp only [Act.put, List.setIfInBounds_toArray, List.set_cons_zero, List.set_cons_succ])
 go_cut [] (fun wc => ∃ (kq : Nat), Aside0 (laws_FnExactWalDo.j0 kq l1 a2 a3 l4 l0_0 l0_1 = some r) ∧ Aside0 (kq ≤ k) ∧ Aside0 (wc.heap[gb1059]? = some (.cells #[(.slice A0_0 l0_0.length c0_0), (.slice A0_1 l0_1.length c0_1)] 25 (0, 0))) ∧ Aside0 (Below w.heap.size w wc))
 case first =>
  have H := HC6.out
  clear HC6
  by_cases c8 : (l4.length : Int) > 1048576
  ·rw [if_pos c8] at H
   have c8b0 : decide (1048576 < (l4.length : Int)) = true := decide_eq_true c8
   have c8b1 : decide (1048576 < l4.length) = true := decide_eq_true (by omega)
   clear c8
   (first | rw [c8b0] | (simp only [i64_w, i32_w]; rw [c8b0]) | skip)
   obtain rfl := Option.some.inj H
   go_wp2
   go_ret
   exact ⟨by first | rfl | (simp [errW_none, errW_some] <;> rfl) | (simp [*, errW_none, errW_some] <;> rfl), pS HB.out⟩
  ·rw [if_neg c8] at H
   have c8b0 : decide (1048576 < (l4.length : Int)) = false := decide_eq_false c8
   have c8b1 : decide (1048576 < l4.length) = false := decide_eq_false (by omega)
   clear c8
   (first | rw [c8b0] | (simp only [i64_w, i32_w]; rw [c8b0]) | skip)
   have H' := Aside0.mk H
   clear H
   go_wp2
   go_meet
   case rel => exact ⟨_, H', ⟨by first | omega | exact Nat.le_refl _⟩, ⟨pK BK1059.out⟩, ⟨pS HB.out⟩⟩
 case rest =>
  clear HC6
  try clear c1
  try clear p2
  try clear c4
  try clear c7
  try clear c8
  try clear c8b0
  try clear c8b1
  obtain ⟨kq, HA, HJ5, BK1059, HB⟩ := hcut
  cases kq with
  | zero => exact absurd HA.out (by simp [laws_FnExactWalDo.j0])
  | succ kj5 =>
   have H := HA.out
   clear HA
   simp only [laws_FnExactWalDo.j0] at H
   replace H := Option.bind_eq_some_iff.mp H
   obtain ⟨t1060, A90, H⟩ := H
   replace H : (if t1060 < 0 then (some true) else (laws_FnExactWalDo.j1 kj5 l1 a2 a3 l4 t1060 l0_0 l0_1)) = some r := H
   have A9 := Aside0.mk A90
   clear A90
   have HC10 := Aside0.mk H
   clear H
   have hcz11_0 : wc.cell? ⟨gb1059, 0, none⟩ = some (.slice A0_0 l0_0.length c0_0) := (blk_cell BK1059.out 0).trans rfl
   have hcz11_1 : wc.cell? ⟨gb1059, 1, none⟩ = some (.slice A0_1 l0_1.length c0_1) := (blk_cell BK1059.out 1).trans rfl
   have hfz11_0 := blk_frozen BK1059.out 0
   have hfz11_1 := blk_frozen BK1059.out 1
   go_upto_if 28 with (first | ((with_reducible refine gate_callee (f := 11) rfl ?_); refine goesL_ (some 26) rfl rfl Try.func11 (by kernel_rfl) rfl #[.agg #[.slice A0_0 l0_0.length c0_0, .slice A0_1 l0_1.length c0_1], .int .i64 1048576] rfl bM ?_; (with_reducible refine (laws_szSecDisk.calls kj5 _ _ l0_0 _ _ l0_1 1048576 t1060 _ ?side1 ?side2 ?side3 ?side4 A9.out).mono ?_); (case side1 => exact pC (Kd.C_below HR0_0.out HB.out)); (case side2 => exact HC0_0.out); (case side3 => exact pC (Kd.C_below HR0_1.out HB.out)); (case side4 => exact HC0_1.out); rintro e w12 ⟨rfl, hb⟩; refine ⟨_, rfl, ?_⟩; have n0_ := Aside0.mk (blk_below (pK BK1059.out) hb); have n1_ := Aside0.mk (below_step (pS HB.out) hb); clear BK1059; clear HB; have BK1059 := n0_; have HB := n1_; clear n0_ n1_; (try clear hb); (try clear hb2); (try clear hk); (try clear hi)))
   (try simp only [Act.put, List.setIfInBounds_toArray, List.set_cons_zero, List.set_cons_succ])
   go_cut [] (fun wc => ∃ (kq : Nat), Aside0 (laws_FnExactWalDo.j1 kq l1 a2 a3 l4 t1060 l0_0 l0_1 = some r) ∧ Aside0 (kq ≤ kj5) ∧ Aside0 (wc.heap[gb1059]? = some (.cells #[(.slice A0_0 l0_0.length c0_0), (.slice A0_1 l0_1.length c0_1)] 25 (0, 0))) ∧ Aside0 (Below w.heap.size w wc))
   case first =>
    have H := HC10.out
    clear HC10
    by_cases c13 : t1060 < 0
    ·rw [if_pos c13] at H
     have c13b0 : decide (t1060 < 0) = true := decide_eq_true c13
     clear c13
     (first | rw [c13b0] | (simp only [i64_w, i32_w]; rw [c13b0]) | skip)
     obtain rfl := Option.some.inj H
     go_wp2
     go_ret
     exact ⟨by first | rfl | (simp [errW_none, errW_some] <;> rfl) | (simp [*, errW_none, errW_some] <;> rfl), pS HB.out⟩
    ·rw [if_neg c13] at H
     have c13b0 : decide (t1060 < 0) = false := decide_eq_false c13
     clear c13
     (first | rw [c13b0] | (simp only [i64_w, i32_w]; rw [c13b0]) | skip)
     have H' := Aside0.mk H
     clear H
     go_wp2
     go_meet
     case rel => exact ⟨_, H', ⟨by have := HJ5.out; first | omega | exact Nat.le_refl _⟩, ⟨pK BK1059.out⟩, ⟨pS HB.out⟩⟩
   case rest =>
    clear HC10
    try clear c1
    try clear p2
    try clear c4
    try clear c7
    try clear c8
    try clear c8b0
    try clear c8b1
    try clear c11
    try clear c13
    try clear c13b0
    try clear hcz11_0
    try clear hcz11_1
    try clear hfz11_0
    try clear hfz11_1
    try clear p2
    obtain ⟨kq, HA, HJ9, BK1059, HB⟩ := hcut
    cases kq with
    | zero => exact absurd HA.out (by simp [laws_FnExactWalDo.j1])
    | succ kj9 =>
     have H := HA.out
     clear HA
     simp only [laws_FnExactWalDo.j1] at H
     replace H := Option.bind_eq_some_iff.mp H
     obtain ⟨t1061, A140, H⟩ := H
     replace H : (if t1061 < 0 then (some true) else (laws_FnExactWalDo.j2 kj9 l1 a2 a3 l4 l0_0 l0_1)) = some r := H
     have A14 := Aside0.mk A140
     clear A140
     have HC15 := Aside0.mk H
     clear H
     go_upto_if 33 with (first | ((with_reducible refine gate_callee (f := 32) rfl ?_); refine goesL_ (some 31) rfl rfl Try.func32 (by kernel_rfl) rfl #[.slice A1 l1.length c1, .int .i64 t1060] rfl bM ?_; (with_reducible refine (laws_szSecStepS.calls kj9 _ _ l1 t1060 t1061 _ ?side1 ?side2 A14.out).mono ?_); (case side1 => exact pC (Kd.C_below HR1.out HB.out)); (case side2 => exact HC1.out); rintro e w16 ⟨rfl, hb⟩; refine ⟨_, rfl, ?_⟩; have n0_ := Aside0.mk (blk_below (pK BK1059.out) hb); have n1_ := Aside0.mk (below_step (pS HB.out) hb); clear BK1059; clear HB; have BK1059 := n0_; have HB := n1_; clear n0_ n1_; (try clear hb); (try clear hb2); (try clear hk); (try clear hi)))
     (try simp only [Act.put, List.setIfInBounds_toArray, List.set_cons_zero, List.set_cons_succ])
     go_cut [] (fun wc => ∃ (kq : Nat), Aside0 (laws_FnExactWalDo.j2 kq l1 a2 a3 l4 l0_0 l0_1 = some r) ∧ Aside0 (kq ≤ kj9) ∧ Aside0 (wc.heap[gb1059]? = some (.cells #[(.slice A0_0 l0_0.length c0_0), (.slice A0_1 l0_1.length c0_1)] 25 (0, 0))) ∧ Aside0 (Below w.heap.size w wc))
     case first =>
      have H := HC15.out
      clear HC15
      by_cases c17 : t1061 < 0
      ·rw [if_pos c17] at H
       have c17b0 : decide (t1061 < 0) = true := decide_eq_true c17
       clear c17
       (first | rw [c17b0] | (simp only [i64_w, i32_w]; rw [c17b0]) | skip)
       obtain rfl := Option.some.inj H
       go_wp2
       go_ret
       exact ⟨by first | rfl | (simp [errW_none, errW_some] <;> rfl) | (simp [*, errW_none, errW_some] <;> rfl), pS HB.out⟩
      ·rw [if_neg c17] at H
       have c17b0 : decide (t1061 < 0) = false := decide_eq_false c17
       clear c17
       (first | rw [c17b0] | (simp only [i64_w, i32_w]; rw [c17b0]) | skip)
       have H' := Aside0.mk H
       clear H
       go_wp2
       go_meet
       case rel => exact ⟨_, H', ⟨by have := HJ5.out; have := HJ9.out; first | omega | exact Nat.le_refl _⟩, ⟨pK BK1059.out⟩, ⟨pS HB.out⟩⟩
     case rest =>
      clear HC15
      try clear c1
      try clear p2
      try clear c3
      try clear c4
      try clear c7
      try clear c8
      try clear c8b0
      try clear c8b1
      try clear c11
      try clear c13
      try clear c13b0
      try clear c17
      try clear c17b0
      try clear hcz11_0
      try clear hcz11_1
      try clear hfz11_0
      try clear hfz11_1
      try clear p2
      obtain ⟨kq, HA, HJ14, BK1059, HB⟩ := hcut
      cases kq with
      | zero => exact absurd HA.out (by simp [laws_FnExactWalDo.j2])
      | succ kj14 =>
       have H := HA.out
       clear HA
       simp only [laws_FnExactWalDo.j2] at H
       replace H := Option.bind_eq_some_iff.mp H
       obtain ⟨⟨t1062, t1065⟩, A180, H⟩ := H
       replace H : ((laws_toSecStepS.f kj14 l1).bind fun t1068 => ((laws_toIntS.f kj14 l4).bind fun t1071 => ((spec_WalDo.f kj14 t1062 t1065 t1068 a2 a3 t1071).bind fun bt1074 => ((laws_toSecDisk.f kj14 l0_0 l0_1).bind fun bt1081 => ((laws_toSecStepS.f kj14 l1).bind fun t1088 => ((laws_toIntS.f kj14 l4).bind fun t1091 => ((impl_WalDo.f kj14 bt1081.1 bt1081.2 t1088 a2 a3 t1091).bind fun bt1094 => ((laws_eqSecDisk.f kj14 bt1094.1 bt1094.2 bt1074.1 bt1074.2).bind fun t1101 => (if t1101 = true then (laws_FnExactWalDo.j3 kj14 l1 a2 a3 l4 t1088 t1091 l0_0 l0_1 bt1074.1 bt1074.2 bt1081.1 bt1081.2 bt1094.1 bt1094.2) else (some false)))))))))) = some r := H
       have A18 := Aside0.mk A180
       clear A180
       replace H := Option.bind_eq_some_iff.mp H
       obtain ⟨t1068, A190, H⟩ := H
       replace H : ((laws_toIntS.f kj14 l4).bind fun t1071 => ((spec_WalDo.f kj14 t1062 t1065 t1068 a2 a3 t1071).bind fun bt1074 => ((laws_toSecDisk.f kj14 l0_0 l0_1).bind fun bt1081 => ((laws_toSecStepS.f kj14 l1).bind fun t1088 => ((laws_toIntS.f kj14 l4).bind fun t1091 => ((impl_WalDo.f kj14 bt1081.1 bt1081.2 t1088 a2 a3 t1091).bind fun bt1094 => ((laws_eqSecDisk.f kj14 bt1094.1 bt1094.2 bt1074.1 bt1074.2).bind fun t1101 => (if t1101 = true then (laws_FnExactWalDo.j3 kj14 l1 a2 a3 l4 t1088 t1091 l0_0 l0_1 bt1074.1 bt1074.2 bt1081.1 bt1081.2 bt1094.1 bt1094.2) else (some false))))))))) = some r := H
       have A19 := Aside0.mk A190
       clear A190
       replace H := Option.bind_eq_some_iff.mp H
       obtain ⟨t1071, A200, H⟩ := H
       replace H : ((spec_WalDo.f kj14 t1062 t1065 t1068 a2 a3 t1071).bind fun bt1074 => ((laws_toSecDisk.f kj14 l0_0 l0_1).bind fun bt1081 => ((laws_toSecStepS.f kj14 l1).bind fun t1088 => ((laws_toIntS.f kj14 l4).bind fun t1091 => ((impl_WalDo.f kj14 bt1081.1 bt1081.2 t1088 a2 a3 t1091).bind fun bt1094 => ((laws_eqSecDisk.f kj14 bt1094.1 bt1094.2 bt1074.1 bt1074.2).bind fun t1101 => (if t1101 = true then (laws_FnExactWalDo.j3 kj14 l1 a2 a3 l4 t1088 t1091 l0_0 l0_1 bt1074.1 bt1074.2 bt1081.1 bt1081.2 bt1094.1 bt1094.2) else (some false)))))))) = some r := H
       have A20 := Aside0.mk A200
       clear A200
       replace H := Option.bind_eq_some_iff.mp H
       obtain ⟨⟨t1074, t1077⟩, A210, H⟩ := H
       replace H : ((laws_toSecDisk.f kj14 l0_0 l0_1).bind fun bt1081 => ((laws_toSecStepS.f kj14 l1).bind fun t1088 => ((laws_toIntS.f kj14 l4).bind fun t1091 => ((impl_WalDo.f kj14 bt1081.1 bt1081.2 t1088 a2 a3 t1091).bind fun bt1094 => ((laws_eqSecDisk.f kj14 bt1094.1 bt1094.2 t1074 t1077).bind fun t1101 => (if t1101 = true then (laws_FnExactWalDo.j3 kj14 l1 a2 a3 l4 t1088 t1091 l0_0 l0_1 t1074 t1077 bt1081.1 bt1081.2 bt1094.1 bt1094.2) else (some false))))))) = some r := H
       have A21 := Aside0.mk A210
       clear A210
       replace H := Option.bind_eq_some_iff.mp H
       obtain ⟨⟨t1081, t1084⟩, A220, H⟩ := H
       replace H : ((laws_toSecStepS.f kj14 l1).bind fun t1088 => ((laws_toIntS.f kj14 l4).bind fun t1091 => ((impl_WalDo.f kj14 t1081 t1084 t1088 a2 a3 t1091).bind fun bt1094 => ((laws_eqSecDisk.f kj14 bt1094.1 bt1094.2 t1074 t1077).bind fun t1101 => (if t1101 = true then (laws_FnExactWalDo.j3 kj14 l1 a2 a3 l4 t1088 t1091 l0_0 l0_1 t1074 t1077 t1081 t1084 bt1094.1 bt1094.2) else (some false)))))) = some r := H
       have A22 := Aside0.mk A220
       clear A220
       replace H := Option.bind_eq_some_iff.mp H
       obtain ⟨t1088, A230, H⟩ := H
       replace H : ((laws_toIntS.f kj14 l4).bind fun t1091 => ((impl_WalDo.f kj14 t1081 t1084 t1088 a2 a3 t1091).bind fun bt1094 => ((laws_eqSecDisk.f kj14 bt1094.1 bt1094.2 t1074 t1077).bind fun t1101 => (if t1101 = true then (laws_FnExactWalDo.j3 kj14 l1 a2 a3 l4 t1088 t1091 l0_0 l0_1 t1074 t1077 t1081 t1084 bt1094.1 bt1094.2) else (some false))))) = some r := H
       have A23 := Aside0.mk A230
       clear A230
       replace H := Option.bind_eq_some_iff.mp H
       obtain ⟨t1091, A240, H⟩ := H
       replace H : ((impl_WalDo.f kj14 t1081 t1084 t1088 a2 a3 t1091).bind fun bt1094 => ((laws_eqSecDisk.f kj14 bt1094.1 bt1094.2 t1074 t1077).bind fun t1101 => (if t1101 = true then (laws_FnExactWalDo.j3 kj14 l1 a2 a3 l4 t1088 t1091 l0_0 l0_1 t1074 t1077 t1081 t1084 bt1094.1 bt1094.2) else (some false)))) = some r := H
       have A24 := Aside0.mk A240
       clear A240
       replace H := Option.bind_eq_some_iff.mp H
       obtain ⟨⟨t1094, t1097⟩, A250, H⟩ := H
       replace H : ((laws_eqSecDisk.f kj14 t1094 t1097 t1074 t1077).bind fun t1101 => (if t1101 = true then (laws_FnExactWalDo.j3 kj14 l1 a2 a3 l4 t1088 t1091 l0_0 l0_1 t1074 t1077 t1081 t1084 t1094 t1097) else (some false))) = some r := H
       have A25 := Aside0.mk A250
       clear A250
       replace H := Option.bind_eq_some_iff.mp H
       obtain ⟨t1101, A260, H⟩ := H
       replace H : (if t1101 = true then (laws_FnExactWalDo.j3 kj14 l1 a2 a3 l4 t1088 t1091 l0_0 l0_1 t1074 t1077 t1081 t1084 t1094 t1097) else (some false)) = some r := H
       have A26 := Aside0.mk A260
       clear A260
       have HC27 := Aside0.mk H
       clear H
       have hcz28_0 : wc.cell? ⟨gb1059, 0, none⟩ = some (.slice A0_0 l0_0.length c0_0) := (blk_cell BK1059.out 0).trans rfl
       have hcz28_1 : wc.cell? ⟨gb1059, 1, none⟩ = some (.slice A0_1 l0_1.length c0_1) := (blk_cell BK1059.out 1).trans rfl
       have hfz28_0 := blk_frozen BK1059.out 0
       have hfz28_1 := blk_frozen BK1059.out 1
       go_upto_if 58 with (first | ((with_reducible refine gate_callee (f := 13) rfl ?_); refine goesL_ (some 35) rfl rfl Try.func13 (by kernel_rfl) rfl #[.agg #[.slice A0_0 l0_0.length c0_0, .slice A0_1 l0_1.length c0_1]] rfl bM ?_; (with_reducible refine (laws_toSecDisk.calls kj14 _ _ l0_0 _ _ l0_1 t1062 t1065 _ ?side1 ?side2 ?side3 ?side4 A18.out).mono ?_); (case side1 => exact pC (Kd.C_below HR0_0.out HB.out)); (case side2 => exact HC0_0.out); (case side3 => exact pC (Kd.C_below HR0_1.out HB.out)); (case side4 => exact HC0_1.out); rintro e w29 ⟨v1063, v1066, rfl, ho0, ho1, hb⟩; refine ⟨_, rfl, ?_⟩; have n0_ := Aside0.mk (Kd.R_lower ho0 (below_size (pS HB.out))); have n1_ := Aside0.mk (Kd.R_lower ho1 (below_size (pS HB.out))); have n2_ := Aside0.mk (blk_below (pK BK1059.out) hb); have n3_ := Aside0.mk (below_step (pS HB.out) hb); clear BK1059; clear HB; have HO1064 := n0_; have HO1067 := n1_; have BK1059 := n2_; have HB := n3_; clear n0_ n1_ n2_ n3_; (try clear hb); (try clear hb2); (try clear hk); (try clear hi); (try clear ho0); (try clear ho1)) | ((with_reducible refine gate_callee (f := 34) rfl ?_); refine goesL_ (some 37) rfl rfl Try.func34 (by kernel_rfl) rfl #[.slice A1 l1.length c1] rfl bM ?_; (with_reducible refine (laws_toSecStepS.calls kj14 _ _ l1 t1068 _ ?side1 ?side2 A19.out).mono ?_); (case side1 => exact pC (Kd.C_below HR1.out HB.out)); (case side2 => exact HC1.out); rintro e w30 ⟨v1069, rfl, ho0, hb⟩; refine ⟨_, rfl, ?_⟩; have n0_ := Aside0.mk (Kd.R_below (pR HO1064.out) hb); have n1_ := Aside0.mk (Kd.R_below (pR HO1067.out) hb); have n2_ := Aside0.mk (Kd.R_lower ho0 (below_size (pS HB.out))); have n3_ := Aside0.mk (blk_below (pK BK1059.out) hb); have n4_ := Aside0.mk (below_step (pS HB.out) hb); clear HO1064; clear HO1067; clear BK1059; clear HB; have HO1064 := n0_; have HO1067 := n1_; have HO1070 := n2_; have BK1059 := n3_; have HB := n4_; clear n0_ n1_ n2_ n3_ n4_; (try clear hb); (try clear hb2); (try clear hk); (try clear hi); (try clear ho0)) | ((with_reducible refine gate_callee (f := 35) rfl ?_); refine goesL_ (some 41) rfl rfl Try.func35 (by kernel_rfl) rfl #[.slice A4 l4.length c4] rfl bM ?_; (with_reducible refine (laws_toIntS.calls kj14 _ _ l4 t1071 _ ?side1 ?side2 A20.out).mono ?_); (case side1 => exact pC (Kd.C_below HR4.out HB.out)); (case side2 => exact HC4.out); rintro e w31 ⟨v1072, rfl, ho0, hb⟩; refine ⟨_, rfl, ?_⟩; have n0_ := Aside0.mk (Kd.R_below (pR HO1064.out) hb); have n1_ := Aside0.mk (Kd.R_below (pR HO1067.out) hb); have n2_ := Aside0.mk (Kd.R_below (pR HO1070.out) hb); have n3_ := Aside0.mk (Kd.R_lower ho0 (below_size (pS HB.out))); have n4_ := Aside0.mk (blk_below (pK BK1059.out) hb); have n5_ := Aside0.mk (below_step (pS HB.out) hb); clear HO1064; clear HO1067; clear HO1070; clear BK1059; clear HB; have HO1064 := n0_; have HO1067 := n1_; have HO1070 := n2_; have HO1073 := n3_; have BK1059 := n4_; have HB := n5_; clear n0_ n1_ n2_ n3_ n4_ n5_; (try clear hb); (try clear hb2); (try clear hk); (try clear hi); (try clear ho0); obtain ⟨Ao32, co32, eo32⟩ := Kd.R_slice HO1064.out; subst eo32; obtain ⟨Ao33, co33, eo33⟩ := Kd.R_slice HO1067.out; subst eo33; obtain ⟨Ao34, co34, eo34⟩ := Kd.R_slice HO1070.out; subst eo34; obtain ⟨Ao35, co35, eo35⟩ := Kd.R_slice HO1073.out; subst eo35) | ((with_reducible refine gate_callee (f := 33) rfl ?_); refine goesL_ (some 42) rfl rfl Try.func33 (by kernel_rfl) rfl #[.agg #[.slice Ao32 t1062.length co32, .slice Ao33 t1065.length co33], .slice Ao34 t1068.length co34, .bool a2, .int .i64 a3, .slice Ao35 t1071.length co35] rfl bM ?_; (with_reducible refine (spec_WalDo.calls kj14 _ _ t1062 _ _ t1065 _ _ t1068 a2 a3 _ _ t1071 t1074 t1077 _ ?side1 ?side2 ?side3 ?side4 ?side5 ?side6 ?side7 ?side8 A21.out).mono ?_); (case side1 => exact pC (Kd.R_reads' HO1064.out).2.2); (case side2 => exact (Kd.R_reads' HO1064.out).2.1); (case side3 => exact pC (Kd.R_reads' HO1067.out).2.2); (case side4 => exact (Kd.R_reads' HO1067.out).2.1); (case side5 => exact pC (Kd.R_reads' HO1070.out).2.2); (case side6 => exact (Kd.R_reads' HO1070.out).2.1); (case side7 => exact pC (Kd.R_reads' HO1073.out).2.2); (case side8 => exact (Kd.R_reads' HO1073.out).2.1); rintro e w36 ⟨v1075, v1078, rfl, ho0, ho1, hb⟩; refine ⟨_, rfl, ?_⟩; have n0_ := Aside0.mk (Kd.R_elder' (pR HO1064.out) (Kd.R_base ho0) hb); have n1_ := Aside0.mk (Kd.R_elder' (pR HO1067.out) (Kd.R_base ho1) hb); have n2_ := Aside0.mk (Kd.R_below (pR HO1070.out) hb); have n3_ := Aside0.mk (Kd.R_below (pR HO1073.out) hb); have n4_ := Aside0.mk (Kd.R_lower (Kd.R_new' ho0 (Kd.R_lt (pR HO1064.out))) (below_size (pS HB.out))); have n5_ := Aside0.mk (Kd.R_lower (Kd.R_new' ho1 (Kd.R_lt (pR HO1067.out))) (below_size (pS HB.out))); have n6_ := Aside0.mk (blk_below (pK BK1059.out) hb); have n7_ := Aside0.mk (below_step (pS HB.out) hb); clear HO1064; clear HO1067; clear HO1070; clear HO1073; clear BK1059; clear HB; have HO1064 := n0_; have HO1067 := n1_; have HO1070 := n2_; have HO1073 := n3_; have HO1076 := n4_; have HO1079 := n5_; have BK1059 := n6_; have HB := n7_; clear n0_ n1_ n2_ n3_ n4_ n5_ n6_ n7_; (try clear hb); (try clear hb2); (try clear hk); (try clear hi); (try clear ho0); (try clear ho1)) | ((with_reducible refine gate_dst (N := 12) rfl ?_); refine box_event ?hg (N := 12) ?hd (cs := #[.slice none 0 0, .slice none 0 0]) (t := 31) ?hr ?_; (case hd => rfl); (case hg => rfl); (case hr => first | (go_simp; done) | (go_simp; rfl)); intro gb1080 hg w37 hbox hb; have n0_ := Aside0.mk (Kd.R_below (pR HO1064.out) hb); have n1_ := Aside0.mk (Kd.R_below (pR HO1067.out) hb); have n2_ := Aside0.mk (Kd.R_below (pR HO1070.out) hb); have n3_ := Aside0.mk (Kd.R_below (pR HO1073.out) hb); have n4_ := Aside0.mk (Kd.R_below (pR HO1076.out) hb); have n5_ := Aside0.mk (Kd.R_below (pR HO1079.out) hb); have n6_ := Aside0.mk (blk_below (pK BK1059.out) hb); have n7_ := Aside0.mk (below_step (pS HB.out) hb); have n8_ := Aside0.mk (hbox); have n9_ := Aside0.mk ((by rw [hg]; exact (below_size (pS HB.out)) : w.heap.size ≤ gb1080)); have n10_ := Aside0.mk ((by rw [hg]; exact (below_size (pS HB.out)) : w.heap.size ≤ gb1080)); have n11_ := Aside0.mk ((by rw [hg]; exact Nat.ne_of_lt (blk_lt (pK BK1059.out)) : gb1059 ≠ gb1080)); have n12_ := Aside0.mk ((by rw [hg]; exact Nat.ne_of_gt (blk_lt (pK BK1059.out)) : gb1080 ≠ gb1059)); clear HO1064; clear HO1067; clear HO1070; clear HO1073; clear HO1076; clear HO1079; clear BK1059; clear HB; have HO1064 := n0_; have HO1067 := n1_; have HO1070 := n2_; have HO1073 := n3_; have HO1076 := n4_; have HO1079 := n5_; have BK1059 := n6_; have HB := n7_; have BK1080 := n8_; have GW1080 := n9_; have GE1080 := n10_; have NB1059_1080 := n11_; have NB1080_1059 := n12_; clear n0_ n1_ n2_ n3_ n4_ n5_ n6_ n7_ n8_ n9_ n10_ n11_ n12_; clear hb hbox hg; obtain ⟨Ao38, co38, eo38⟩ := Kd.R_slice HO1076.out; subst eo38; have hnb39 := NB1080_1059.out; have hnc39 := NB1059_1080.out; have hcz40_0 : w37.cell? ⟨gb1080, 0, none⟩ = some (.slice none 0 0) := (blk_cell BK1080.out 0).trans rfl; have hcz40_1 : w37.cell? ⟨gb1080, 1, none⟩ = some (.slice none 0 0) := (blk_cell BK1080.out 1).trans rfl; have hfz40_0 := blk_frozen BK1080.out 0; have hfz40_1 := blk_frozen BK1080.out 1; obtain ⟨Ao41, co41, eo41⟩ := Kd.R_slice HO1079.out; subst eo41; have hcz42_0 : w37.cell? ⟨gb1059, 0, none⟩ = some (.slice A0_0 l0_0.length c0_0) := (blk_cell BK1059.out 0).trans rfl; have hcz42_1 : w37.cell? ⟨gb1059, 1, none⟩ = some (.slice A0_1 l0_1.length c0_1) := (blk_cell BK1059.out 1).trans rfl; have hfz42_0 := blk_frozen BK1059.out 0; have hfz42_1 := blk_frozen BK1059.out 1) | ((with_reducible refine gate_callee (f := 13) rfl ?_); refine goesL_ (some 44) rfl rfl Try.func13 (by kernel_rfl) rfl #[.agg #[.slice A0_0 l0_0.length c0_0, .slice A0_1 l0_1.length c0_1]] rfl bM ?_; (with_reducible refine (laws_toSecDisk.calls kj14 _ _ l0_0 _ _ l0_1 t1081 t1084 _ ?side1 ?side2 ?side3 ?side4 A22.out).mono ?_); (case side1 => exact Kd.C_below HR0_0.out (pS HB.out)); (case side2 => exact HC0_0.out); (case side3 => exact Kd.C_below HR0_1.out (pS HB.out)); (case side4 => exact HC0_1.out); rintro e w43 ⟨v1082, v1085, rfl, ho0, ho1, hb⟩; refine ⟨_, rfl, ?_⟩; have n0_ := Aside0.mk (Kd.R_elder' (pR (Kd.R_mono (Kd.R_far (p := ⟨gb1080, 1, none⟩) (Kd.R_far (p := ⟨gb1080, 0, none⟩) (Kd.R_types HO1064.out BK1080.out (by decide)) (fun _ hk => hk.2) (.slice Ao38 t1074.length co38)) (fun _ hk => hk.2) (.slice Ao41 t1077.length co41)) (fun _ h_ => h_.1))) (Kd.R_base ho0) hb); have n1_ := Aside0.mk (Kd.R_elder' (pR (Kd.R_mono (Kd.R_far (p := ⟨gb1080, 1, none⟩) (Kd.R_far (p := ⟨gb1080, 0, none⟩) (Kd.R_types HO1067.out BK1080.out (by decide)) (fun _ hk => hk.2) (.slice Ao38 t1074.length co38)) (fun _ hk => hk.2) (.slice Ao41 t1077.length co41)) (fun _ h_ => h_.1))) (Kd.R_base ho1) hb); have n2_ := Aside0.mk (Kd.R_below (pR (Kd.R_mono (Kd.R_far (p := ⟨gb1080, 1, none⟩) (Kd.R_far (p := ⟨gb1080, 0, none⟩) (Kd.R_types HO1070.out BK1080.out (by decide)) (fun _ hk => hk.2) (.slice Ao38 t1074.length co38)) (fun _ hk => hk.2) (.slice Ao41 t1077.length co41)) (fun _ h_ => h_.1))) hb); have n3_ := Aside0.mk (Kd.R_below (pR (Kd.R_mono (Kd.R_far (p := ⟨gb1080, 1, none⟩) (Kd.R_far (p := ⟨gb1080, 0, none⟩) (Kd.R_types HO1073.out BK1080.out (by decide)) (fun _ hk => hk.2) (.slice Ao38 t1074.length co38)) (fun _ hk => hk.2) (.slice Ao41 t1077.length co41)) (fun _ h_ => h_.1))) hb); have n4_ := Aside0.mk (Kd.R_elder' (pR (Kd.R_mono (Kd.R_far (p := ⟨gb1080, 1, none⟩) (Kd.R_far (p := ⟨gb1080, 0, none⟩) (Kd.R_types HO1076.out BK1080.out (by decide)) (fun _ hk => hk.2) (.slice Ao38 t1074.length co38)) (fun _ hk => hk.2) (.slice Ao41 t1077.length co41)) (fun _ h_ => h_.1))) (Kd.R_base ho0) hb); have n5_ := Aside0.mk (Kd.R_elder' (pR (Kd.R_mono (Kd.R_far (p := ⟨gb1080, 1, none⟩) (Kd.R_far (p := ⟨gb1080, 0, none⟩) (Kd.R_types HO1079.out BK1080.out (by decide)) (fun _ hk => hk.2) (.slice Ao38 t1074.length co38)) (fun _ hk => hk.2) (.slice Ao41 t1077.length co41)) (fun _ h_ => h_.1))) (Kd.R_base ho1) hb); have n6_ := Aside0.mk (Kd.R_lower (Kd.R_new' (Kd.R_new' ho0 (Kd.R_lt (pR (Kd.R_mono (Kd.R_far (p := ⟨gb1080, 1, none⟩) (Kd.R_far (p := ⟨gb1080, 0, none⟩) (Kd.R_types HO1064.out BK1080.out (by decide)) (fun _ hk => hk.2) (.slice Ao38 t1074.length co38)) (fun _ hk => hk.2) (.slice Ao41 t1077.length co41)) (fun _ h_ => h_.1))))) (Kd.R_lt (pR (Kd.R_mono (Kd.R_far (p := ⟨gb1080, 1, none⟩) (Kd.R_far (p := ⟨gb1080, 0, none⟩) (Kd.R_types HO1076.out BK1080.out (by decide)) (fun _ hk => hk.2) (.slice Ao38 t1074.length co38)) (fun _ hk => hk.2) (.slice Ao41 t1077.length co41)) (fun _ h_ => h_.1))))) (below_size (pS HB.out))); have n7_ := Aside0.mk (Kd.R_lower (Kd.R_new' (Kd.R_new' ho1 (Kd.R_lt (pR (Kd.R_mono (Kd.R_far (p := ⟨gb1080, 1, none⟩) (Kd.R_far (p := ⟨gb1080, 0, none⟩) (Kd.R_types HO1067.out BK1080.out (by decide)) (fun _ hk => hk.2) (.slice Ao38 t1074.length co38)) (fun _ hk => hk.2) (.slice Ao41 t1077.length co41)) (fun _ h_ => h_.1))))) (Kd.R_lt (pR (Kd.R_mono (Kd.R_far (p := ⟨gb1080, 1, none⟩) (Kd.R_far (p := ⟨gb1080, 0, none⟩) (Kd.R_types HO1079.out BK1080.out (by decide)) (fun _ hk => hk.2) (.slice Ao38 t1074.length co38)) (fun _ hk => hk.2) (.slice Ao41 t1077.length co41)) (fun _ h_ => h_.1))))) (below_size (pS HB.out))); have n8_ := Aside0.mk (blk_below (g := gb1059) (o := .cells #[.slice A0_0 l0_0.length c0_0, .slice A0_1 l0_1.length c0_1] 25 (0, 0)) (by (with_reducible repeat (first | refine blk_drewN ?_ _ | refine blk_drew ?_ | refine blk_alloc ?_ _)); refine blk_far ?_ NB1059_1080.out _; (with_reducible repeat (first | refine blk_drewN ?_ _ | refine blk_drew ?_ | refine blk_alloc ?_ _)); refine blk_far ?_ NB1059_1080.out _; (with_reducible repeat (first | refine blk_drewN ?_ _ | refine blk_drew ?_ | refine blk_alloc ?_ _)); exact BK1059.out) hb); have n9_ := Aside0.mk (blk_below (g := gb1080) (o := .cells #[.slice Ao38 t1074.length co38, .slice Ao41 t1077.length co41] 31 (0, 0)) (by (with_reducible repeat (first | refine blk_drewN ?_ _ | refine blk_drew ?_ | refine blk_alloc ?_ _)); refine blk_put (cs := #[.slice Ao38 t1074.length co38, .slice none 0 0]) ?_ 1 _ rfl; (with_reducible repeat (first | refine blk_drewN ?_ _ | refine blk_drew ?_ | refine blk_alloc ?_ _)); refine blk_put (cs := #[.slice none 0 0, .slice none 0 0]) ?_ 0 _ rfl; (with_reducible repeat (first | refine blk_drewN ?_ _ | refine blk_drew ?_ | refine blk_alloc ?_ _)); exact BK1080.out) hb); have n10_ := Aside0.mk (below_step (pS HB.out) hb); clear HO1064; clear HO1067; clear HO1070; clear HO1073; clear HO1076; clear HO1079; clear BK1059; clear BK1080; clear HB; have HO1064 := n0_; have HO1067 := n1_; have HO1070 := n2_; have HO1073 := n3_; have HO1076 := n4_; have HO1079 := n5_; have HO1083 := n6_; have HO1086 := n7_; have BK1059 := n8_; have BK1080 := n9_; have HB := n10_; clear n0_ n1_ n2_ n3_ n4_ n5_ n6_ n7_ n8_ n9_ n10_; (try clear hb); (try clear hb2); (try clear hk); (try clear hi); (try clear ho0); (try clear ho1)) | ((with_reducible refine gate_dst (N := 13) rfl ?_); refine box_event ?hg (N := 13) ?hd (cs := #[.slice none 0 0, .slice none 0 0]) (t := 31) ?hr ?_; (case hd => rfl); (case hg => rfl); (case hr => first | (go_simp; done) | (go_simp; rfl)); intro gb1087 hg w44 hbox hb; have n0_ := Aside0.mk (Kd.R_below (pR HO1064.out) hb); have n1_ := Aside0.mk (Kd.R_below (pR HO1067.out) hb); have n2_ := Aside0.mk (Kd.R_below (pR HO1070.out) hb); have n3_ := Aside0.mk (Kd.R_below (pR HO1073.out) hb); have n4_ := Aside0.mk (Kd.R_below (pR HO1076.out) hb); have n5_ := Aside0.mk (Kd.R_below (pR HO1079.out) hb); have n6_ := Aside0.mk (Kd.R_below (pR HO1083.out) hb); have n7_ := Aside0.mk (Kd.R_below (pR HO1086.out) hb); have n8_ := Aside0.mk (blk_below (pK BK1059.out) hb); have n9_ := Aside0.mk (blk_below (pK BK1080.out) hb); have n10_ := Aside0.mk (below_step (pS HB.out) hb); have n11_ := Aside0.mk (hbox); have n12_ := Aside0.mk ((by rw [hg]; exact (below_size (pS HB.out)) : w.heap.size ≤ gb1087)); have n13_ := Aside0.mk ((by rw [hg]; exact (below_size (pS HB.out)) : w.heap.size ≤ gb1087)); have n14_ := Aside0.mk ((by rw [hg]; exact Nat.ne_of_lt (blk_lt (pK BK1059.out)) : gb1059 ≠ gb1087)); have n15_ := Aside0.mk ((by rw [hg]; exact Nat.ne_of_gt (blk_lt (pK BK1059.out)) : gb1087 ≠ gb1059)); have n16_ := Aside0.mk ((by rw [hg]; exact Nat.ne_of_lt (blk_lt (pK BK1080.out)) : gb1080 ≠ gb1087)); have n17_ := Aside0.mk ((by rw [hg]; exact Nat.ne_of_gt (blk_lt (pK BK1080.out)) : gb1087 ≠ gb1080)); clear HO1064; clear HO1067; clear HO1070; clear HO1073; clear HO1076; clear HO1079; clear HO1083; clear HO1086; clear BK1059; clear BK1080; clear HB; have HO1064 := n0_; have HO1067 := n1_; have HO1070 := n2_; have HO1073 := n3_; have HO1076 := n4_; have HO1079 := n5_; have HO1083 := n6_; have HO1086 := n7_; have BK1059 := n8_; have BK1080 := n9_; have HB := n10_; have BK1087 := n11_; have GW1087 := n12_; have GE1087 := n13_; have NB1059_1087 := n14_; have NB1087_1059 := n15_; have NB1080_1087 := n16_; have NB1087_1080 := n17_; clear n0_ n1_ n2_ n3_ n4_ n5_ n6_ n7_ n8_ n9_ n10_ n11_ n12_ n13_ n14_ n15_ n16_ n17_; clear hb hbox hg; obtain ⟨Ao45, co45, eo45⟩ := Kd.R_slice HO1083.out; subst eo45; have hnb46 := NB1087_1059.out; have hnc46 := NB1059_1087.out; have hnb47 := NB1087_1080.out; have hnc47 := NB1080_1087.out; have hcz48_0 : w44.cell? ⟨gb1087, 0, none⟩ = some (.slice none 0 0) := (blk_cell BK1087.out 0).trans rfl; have hcz48_1 : w44.cell? ⟨gb1087, 1, none⟩ = some (.slice none 0 0) := (blk_cell BK1087.out 1).trans rfl; have hfz48_0 := blk_frozen BK1087.out 0; have hfz48_1 := blk_frozen BK1087.out 1; obtain ⟨Ao49, co49, eo49⟩ := Kd.R_slice HO1086.out; subst eo49) | ((with_reducible refine gate_callee (f := 34) rfl ?_); refine goesL_ (some 46) rfl rfl Try.func34 (by kernel_rfl) rfl #[.slice A1 l1.length c1] rfl bM ?_; (with_reducible refine (laws_toSecStepS.calls kj14 _ _ l1 t1088 _ ?side1 ?side2 A23.out).mono ?_); (case side1 => exact Kd.C_below HR1.out (pS HB.out)); (case side2 => exact HC1.out); rintro e w50 ⟨v1089, rfl, ho0, hb⟩; refine ⟨_, rfl, ?_⟩; have n0_ := Aside0.mk (Kd.R_below (pR (Kd.R_mono (Kd.R_far (p := ⟨gb1087, 1, none⟩) (Kd.R_far (p := ⟨gb1087, 0, none⟩) (Kd.R_types HO1064.out BK1087.out (by decide)) (fun _ hk => hk.2) (.slice Ao45 t1081.length co45)) (fun _ hk => hk.2) (.slice Ao49 t1084.length co49)) (fun _ h_ => h_.1))) hb); have n1_ := Aside0.mk (Kd.R_below (pR (Kd.R_mono (Kd.R_far (p := ⟨gb1087, 1, none⟩) (Kd.R_far (p := ⟨gb1087, 0, none⟩) (Kd.R_types HO1067.out BK1087.out (by decide)) (fun _ hk => hk.2) (.slice Ao45 t1081.length co45)) (fun _ hk => hk.2) (.slice Ao49 t1084.length co49)) (fun _ h_ => h_.1))) hb); have n2_ := Aside0.mk (Kd.R_elder' (pR (Kd.R_mono (Kd.R_far (p := ⟨gb1087, 1, none⟩) (Kd.R_far (p := ⟨gb1087, 0, none⟩) (Kd.R_types HO1070.out BK1087.out (by decide)) (fun _ hk => hk.2) (.slice Ao45 t1081.length co45)) (fun _ hk => hk.2) (.slice Ao49 t1084.length co49)) (fun _ h_ => h_.1))) (Kd.R_base ho0) hb); have n3_ := Aside0.mk (Kd.R_below (pR (Kd.R_mono (Kd.R_far (p := ⟨gb1087, 1, none⟩) (Kd.R_far (p := ⟨gb1087, 0, none⟩) (Kd.R_types HO1073.out BK1087.out (by decide)) (fun _ hk => hk.2) (.slice Ao45 t1081.length co45)) (fun _ hk => hk.2) (.slice Ao49 t1084.length co49)) (fun _ h_ => h_.1))) hb); have n4_ := Aside0.mk (Kd.R_below (pR (Kd.R_mono (Kd.R_far (p := ⟨gb1087, 1, none⟩) (Kd.R_far (p := ⟨gb1087, 0, none⟩) (Kd.R_types HO1076.out BK1087.out (by decide)) (fun _ hk => hk.2) (.slice Ao45 t1081.length co45)) (fun _ hk => hk.2) (.slice Ao49 t1084.length co49)) (fun _ h_ => h_.1))) hb); have n5_ := Aside0.mk (Kd.R_below (pR (Kd.R_mono (Kd.R_far (p := ⟨gb1087, 1, none⟩) (Kd.R_far (p := ⟨gb1087, 0, none⟩) (Kd.R_types HO1079.out BK1087.out (by decide)) (fun _ hk => hk.2) (.slice Ao45 t1081.length co45)) (fun _ hk => hk.2) (.slice Ao49 t1084.length co49)) (fun _ h_ => h_.1))) hb); have n6_ := Aside0.mk (Kd.R_below (pR (Kd.R_mono (Kd.R_far (p := ⟨gb1087, 1, none⟩) (Kd.R_far (p := ⟨gb1087, 0, none⟩) (Kd.R_types HO1083.out BK1087.out (by decide)) (fun _ hk => hk.2) (.slice Ao45 t1081.length co45)) (fun _ hk => hk.2) (.slice Ao49 t1084.length co49)) (fun _ h_ => h_.1))) hb); have n7_ := Aside0.mk (Kd.R_below (pR (Kd.R_mono (Kd.R_far (p := ⟨gb1087, 1, none⟩) (Kd.R_far (p := ⟨gb1087, 0, none⟩) (Kd.R_types HO1086.out BK1087.out (by decide)) (fun _ hk => hk.2) (.slice Ao45 t1081.length co45)) (fun _ hk => hk.2) (.slice Ao49 t1084.length co49)) (fun _ h_ => h_.1))) hb); have n8_ := Aside0.mk (Kd.R_lower (Kd.R_new' ho0 (Kd.R_lt (pR (Kd.R_mono (Kd.R_far (p := ⟨gb1087, 1, none⟩) (Kd.R_far (p := ⟨gb1087, 0, none⟩) (Kd.R_types HO1070.out BK1087.out (by decide)) (fun _ hk => hk.2) (.slice Ao45 t1081.length co45)) (fun _ hk => hk.2) (.slice Ao49 t1084.length co49)) (fun _ h_ => h_.1))))) (below_size (pS HB.out))); have n9_ := Aside0.mk (blk_below (g := gb1059) (o := .cells #[.slice A0_0 l0_0.length c0_0, .slice A0_1 l0_1.length c0_1] 25 (0, 0)) (by (with_reducible repeat (first | refine blk_drewN ?_ _ | refine blk_drew ?_ | refine blk_alloc ?_ _)); refine blk_far ?_ NB1059_1087.out _; (with_reducible repeat (first | refine blk_drewN ?_ _ | refine blk_drew ?_ | refine blk_alloc ?_ _)); refine blk_far ?_ NB1059_1087.out _; (with_reducible repeat (first | refine blk_drewN ?_ _ | refine blk_drew ?_ | refine blk_alloc ?_ _)); exact BK1059.out) hb); have n10_ := Aside0.mk (blk_below (g := gb1080) (o := .cells #[.slice Ao38 t1074.length co38, .slice Ao41 t1077.length co41] 31 (0, 0)) (by (with_reducible repeat (first | refine blk_drewN ?_ _ | refine blk_drew ?_ | refine blk_alloc ?_ _)); refine blk_far ?_ NB1080_1087.out _; (with_reducible repeat (first | refine blk_drewN ?_ _ | refine blk_drew ?_ | refine blk_alloc ?_ _)); refine blk_far ?_ NB1080_1087.out _; (with_reducible repeat (first | refine blk_drewN ?_ _ | refine blk_drew ?_ | refine blk_alloc ?_ _)); exact BK1080.out) hb); have n11_ := Aside0.mk (blk_below (g := gb1087) (o := .cells #[.slice Ao45 t1081.length co45, .slice Ao49 t1084.length co49] 31 (0, 0)) (by (with_reducible repeat (first | refine blk_drewN ?_ _ | refine blk_drew ?_ | refine blk_alloc ?_ _)); refine blk_put (cs := #[.slice Ao45 t1081.length co45, .slice none 0 0]) ?_ 1 _ rfl; (with_reducible repeat (first | refine blk_drewN ?_ _ | refine blk_drew ?_ | refine blk_alloc ?_ _)); refine blk_put (cs := #[.slice none 0 0, .slice none 0 0]) ?_ 0 _ rfl; (with_reducible repeat (first | refine blk_drewN ?_ _ | refine blk_drew ?_ | refine blk_alloc ?_ _)); exact BK1087.out) hb); have n12_ := Aside0.mk (below_step (pS HB.out) hb); clear HO1064; clear HO1067; clear HO1070; clear HO1073; clear HO1076; clear HO1079; clear HO1083; clear HO1086; clear BK1059; clear BK1080; clear BK1087; clear HB; have HO1064 := n0_; have HO1067 := n1_; have HO1070 := n2_; have HO1073 := n3_; have HO1076 := n4_; have HO1079 := n5_; have HO1083 := n6_; have HO1086 := n7_; have HO1090 := n8_; have BK1059 := n9_; have BK1080 := n10_; have BK1087 := n11_; have HB := n12_; clear n0_ n1_ n2_ n3_ n4_ n5_ n6_ n7_ n8_ n9_ n10_ n11_ n12_; (try clear hb); (try clear hb2); (try clear hk); (try clear hi); (try clear ho0)) | ((with_reducible refine gate_callee (f := 35) rfl ?_); refine goesL_ (some 48) rfl rfl Try.func35 (by kernel_rfl) rfl #[.slice A4 l4.length c4] rfl bM ?_; (with_reducible refine (laws_toIntS.calls kj14 _ _ l4 t1091 _ ?side1 ?side2 A24.out).mono ?_); (case side1 => exact pC (Kd.C_below HR4.out HB.out)); (case side2 => exact HC4.out); rintro e w51 ⟨v1092, rfl, ho0, hb⟩; refine ⟨_, rfl, ?_⟩; have n0_ := Aside0.mk (Kd.R_below (pR HO1064.out) hb); have n1_ := Aside0.mk (Kd.R_below (pR HO1067.out) hb); have n2_ := Aside0.mk (Kd.R_below (pR HO1070.out) hb); have n3_ := Aside0.mk (Kd.R_elder' (pR HO1073.out) (Kd.R_base ho0) hb); have n4_ := Aside0.mk (Kd.R_below (pR HO1076.out) hb); have n5_ := Aside0.mk (Kd.R_below (pR HO1079.out) hb); have n6_ := Aside0.mk (Kd.R_below (pR HO1083.out) hb); have n7_ := Aside0.mk (Kd.R_below (pR HO1086.out) hb); have n8_ := Aside0.mk (Kd.R_below (pR HO1090.out) hb); have n9_ := Aside0.mk (Kd.R_lower (Kd.R_new' ho0 (Kd.R_lt (pR HO1073.out))) (below_size (pS HB.out))); have n10_ := Aside0.mk (blk_below (pK BK1059.out) hb); have n11_ := Aside0.mk (blk_below (pK BK1080.out) hb); have n12_ := Aside0.mk (blk_below (pK BK1087.out) hb); have n13_ := Aside0.mk (below_step (pS HB.out) hb); clear HO1064; clear HO1067; clear HO1070; clear HO1073; clear HO1076; clear HO1079; clear HO1083; clear HO1086; clear HO1090; clear BK1059; clear BK1080; clear BK1087; clear HB; have HO1064 := n0_; have HO1067 := n1_; have HO1070 := n2_; have HO1073 := n3_; have HO1076 := n4_; have HO1079 := n5_; have HO1083 := n6_; have HO1086 := n7_; have HO1090 := n8_; have HO1093 := n9_; have BK1059 := n10_; have BK1080 := n11_; have BK1087 := n12_; have HB := n13_; clear n0_ n1_ n2_ n3_ n4_ n5_ n6_ n7_ n8_ n9_ n10_ n11_ n12_ n13_; (try clear hb); (try clear hb2); (try clear hk); (try clear hi); (try clear ho0); have hcz52_0 : w51.cell? ⟨gb1087, 0, none⟩ = some (.slice Ao45 t1081.length co45) := (blk_cell BK1087.out 0).trans rfl; have hcz52_1 : w51.cell? ⟨gb1087, 1, none⟩ = some (.slice Ao49 t1084.length co49) := (blk_cell BK1087.out 1).trans rfl; have hfz52_0 := blk_frozen BK1087.out 0; have hfz52_1 := blk_frozen BK1087.out 1; obtain ⟨Ao53, co53, eo53⟩ := Kd.R_slice HO1090.out; subst eo53; obtain ⟨Ao54, co54, eo54⟩ := Kd.R_slice HO1093.out; subst eo54) | ((with_reducible refine gate_callee (f := 30) rfl ?_); refine goesL_ (some 54) rfl rfl Try.func30 (by kernel_rfl) rfl #[.agg #[.slice Ao45 t1081.length co45, .slice Ao49 t1084.length co49], .slice Ao53 t1088.length co53, .bool a2, .int .i64 a3, .slice Ao54 t1091.length co54] rfl bM ?_; (with_reducible refine (impl_WalDo.calls kj14 _ _ t1081 _ _ t1084 _ _ t1088 a2 a3 _ _ t1091 t1094 t1097 _ ?side1 ?side2 ?side3 ?side4 ?side5 ?side6 ?side7 ?side8 A25.out).mono ?_); (case side1 => exact pC (Kd.R_reads' HO1083.out).2.2); (case side2 => exact (Kd.R_reads' HO1083.out).2.1); (case side3 => exact pC (Kd.R_reads' HO1086.out).2.2); (case side4 => exact (Kd.R_reads' HO1086.out).2.1); (case side5 => exact pC (Kd.R_reads' HO1090.out).2.2); (case side6 => exact (Kd.R_reads' HO1090.out).2.1); (case side7 => exact pC (Kd.R_reads' HO1093.out).2.2); (case side8 => exact (Kd.R_reads' HO1093.out).2.1); rintro e w55 ⟨v1095, v1098, rfl, ho0, ho1, hb⟩; refine ⟨_, rfl, ?_⟩; have n0_ := Aside0.mk (Kd.R_elder' (pR HO1064.out) (Kd.R_base ho0) hb); have n1_ := Aside0.mk (Kd.R_elder' (pR HO1067.out) (Kd.R_base ho1) hb); have n2_ := Aside0.mk (Kd.R_below (pR HO1070.out) hb); have n3_ := Aside0.mk (Kd.R_below (pR HO1073.out) hb); have n4_ := Aside0.mk (Kd.R_elder' (pR HO1076.out) (Kd.R_base ho0) hb); have n5_ := Aside0.mk (Kd.R_elder' (pR HO1079.out) (Kd.R_base ho1) hb); have n6_ := Aside0.mk (Kd.R_elder' (pR HO1083.out) (Kd.R_base ho0) hb); have n7_ := Aside0.mk (Kd.R_elder' (pR HO1086.out) (Kd.R_base ho1) hb); have n8_ := Aside0.mk (Kd.R_below (pR HO1090.out) hb); have n9_ := Aside0.mk (Kd.R_below (pR HO1093.out) hb); have n10_ := Aside0.mk (Kd.R_lower (Kd.R_new' (Kd.R_new' (Kd.R_new' ho0 (Kd.R_lt (pR HO1064.out))) (Kd.R_lt (pR HO1076.out))) (Kd.R_lt (pR HO1083.out))) (below_size (pS HB.out))); have n11_ := Aside0.mk (Kd.R_lower (Kd.R_new' (Kd.R_new' (Kd.R_new' ho1 (Kd.R_lt (pR HO1067.out))) (Kd.R_lt (pR HO1079.out))) (Kd.R_lt (pR HO1086.out))) (below_size (pS HB.out))); have n12_ := Aside0.mk (blk_below (pK BK1059.out) hb); have n13_ := Aside0.mk (blk_below (pK BK1080.out) hb); have n14_ := Aside0.mk (blk_below (pK BK1087.out) hb); have n15_ := Aside0.mk (below_step (pS HB.out) hb); clear HO1064; clear HO1067; clear HO1070; clear HO1073; clear HO1076; clear HO1079; clear HO1083; clear HO1086; clear HO1090; clear HO1093; clear BK1059; clear BK1080; clear BK1087; clear HB; have HO1064 := n0_; have HO1067 := n1_; have HO1070 := n2_; have HO1073 := n3_; have HO1076 := n4_; have HO1079 := n5_; have HO1083 := n6_; have HO1086 := n7_; have HO1090 := n8_; have HO1093 := n9_; have HO1096 := n10_; have HO1099 := n11_; have BK1059 := n12_; have BK1080 := n13_; have BK1087 := n14_; have HB := n15_; clear n0_ n1_ n2_ n3_ n4_ n5_ n6_ n7_ n8_ n9_ n10_ n11_ n12_ n13_ n14_ n15_; (try clear hb); (try clear hb2); (try clear hk); (try clear hi); (try clear ho0); (try clear ho1)) | ((with_reducible refine gate_dst (N := 16) rfl ?_); refine box_event ?hg (N := 16) ?hd (cs := #[.slice none 0 0, .slice none 0 0]) (t := 31) ?hr ?_; (case hd => rfl); (case hg => rfl); (case hr => first | (go_simp; done) | (go_simp; rfl)); intro gb1100 hg w56 hbox hb; have n0_ := Aside0.mk (Kd.R_below (pR HO1064.out) hb); have n1_ := Aside0.mk (Kd.R_below (pR HO1067.out) hb); have n2_ := Aside0.mk (Kd.R_below (pR HO1070.out) hb); have n3_ := Aside0.mk (Kd.R_below (pR HO1073.out) hb); have n4_ := Aside0.mk (Kd.R_below (pR HO1076.out) hb); have n5_ := Aside0.mk (Kd.R_below (pR HO1079.out) hb); have n6_ := Aside0.mk (Kd.R_below (pR HO1083.out) hb); have n7_ := Aside0.mk (Kd.R_below (pR HO1086.out) hb); have n8_ := Aside0.mk (Kd.R_below (pR HO1090.out) hb); have n9_ := Aside0.mk (Kd.R_below (pR HO1093.out) hb); have n10_ := Aside0.mk (Kd.R_below (pR HO1096.out) hb); have n11_ := Aside0.mk (Kd.R_below (pR HO1099.out) hb); have n12_ := Aside0.mk (blk_below (pK BK1059.out) hb); have n13_ := Aside0.mk (blk_below (pK BK1080.out) hb); have n14_ := Aside0.mk (blk_below (pK BK1087.out) hb); have n15_ := Aside0.mk (below_step (pS HB.out) hb); have n16_ := Aside0.mk (hbox); have n17_ := Aside0.mk ((by rw [hg]; exact (below_size (pS HB.out)) : w.heap.size ≤ gb1100)); have n18_ := Aside0.mk ((by rw [hg]; exact (below_size (pS HB.out)) : w.heap.size ≤ gb1100)); have n19_ := Aside0.mk ((by rw [hg]; exact Nat.ne_of_lt (blk_lt (pK BK1059.out)) : gb1059 ≠ gb1100)); have n20_ := Aside0.mk ((by rw [hg]; exact Nat.ne_of_gt (blk_lt (pK BK1059.out)) : gb1100 ≠ gb1059)); have n21_ := Aside0.mk ((by rw [hg]; exact Nat.ne_of_lt (blk_lt (pK BK1080.out)) : gb1080 ≠ gb1100)); have n22_ := Aside0.mk ((by rw [hg]; exact Nat.ne_of_gt (blk_lt (pK BK1080.out)) : gb1100 ≠ gb1080)); have n23_ := Aside0.mk ((by rw [hg]; exact Nat.ne_of_lt (blk_lt (pK BK1087.out)) : gb1087 ≠ gb1100)); have n24_ := Aside0.mk ((by rw [hg]; exact Nat.ne_of_gt (blk_lt (pK BK1087.out)) : gb1100 ≠ gb1087)); clear HO1064; clear HO1067; clear HO1070; clear HO1073; clear HO1076; clear HO1079; clear HO1083; clear HO1086; clear HO1090; clear HO1093; clear HO1096; clear HO1099; clear BK1059; clear BK1080; clear BK1087; clear HB; have HO1064 := n0_; have HO1067 := n1_; have HO1070 := n2_; have HO1073 := n3_; have HO1076 := n4_; have HO1079 := n5_; have HO1083 := n6_; have HO1086 := n7_; have HO1090 := n8_; have HO1093 := n9_; have HO1096 := n10_; have HO1099 := n11_; have BK1059 := n12_; have BK1080 := n13_; have BK1087 := n14_; have HB := n15_; have BK1100 := n16_; have GW1100 := n17_; have GE1100 := n18_; have NB1059_1100 := n19_; have NB1100_1059 := n20_; have NB1080_1100 := n21_; have NB1100_1080 := n22_; have NB1087_1100 := n23_; have NB1100_1087 := n24_; clear n0_ n1_ n2_ n3_ n4_ n5_ n6_ n7_ n8_ n9_ n10_ n11_ n12_ n13_ n14_ n15_ n16_ n17_ n18_ n19_ n20_ n21_ n22_ n23_ n24_; clear hb hbox hg; obtain ⟨Ao57, co57, eo57⟩ := Kd.R_slice HO1096.out; subst eo57; have hnb58 := NB1100_1059.out; have hnc58 := NB1059_1100.out; have hnb59 := NB1100_1080.out; have hnc59 := NB1080_1100.out; have hnb60 := NB1100_1087.out; have hnc60 := NB1087_1100.out; have hcz61_0 : w56.cell? ⟨gb1100, 0, none⟩ = some (.slice none 0 0) := (blk_cell BK1100.out 0).trans rfl; have hcz61_1 : w56.cell? ⟨gb1100, 1, none⟩ = some (.slice none 0 0) := (blk_cell BK1100.out 1).trans rfl; have hfz61_0 := blk_frozen BK1100.out 0; have hfz61_1 := blk_frozen BK1100.out 1; obtain ⟨Ao62, co62, eo62⟩ := Kd.R_slice HO1099.out; subst eo62; have hcz63_0 : w56.cell? ⟨gb1080, 0, none⟩ = some (.slice Ao38 t1074.length co38) := (blk_cell BK1080.out 0).trans rfl; have hcz63_1 : w56.cell? ⟨gb1080, 1, none⟩ = some (.slice Ao41 t1077.length co41) := (blk_cell BK1080.out 1).trans rfl; have hfz63_0 := blk_frozen BK1080.out 0; have hfz63_1 := blk_frozen BK1080.out 1) | ((with_reducible refine gate_callee (f := 16) rfl ?_); refine goesL_ (some 57) rfl rfl Try.func16 (by kernel_rfl) rfl #[.agg #[.slice Ao57 t1094.length co57, .slice Ao62 t1097.length co62], .agg #[.slice Ao38 t1074.length co38, .slice Ao41 t1077.length co41]] rfl bM ?_; (with_reducible refine (laws_eqSecDisk.calls kj14 _ _ t1094 _ _ t1097 _ _ t1074 _ _ t1077 t1101 _ ?side1 ?side2 ?side3 ?side4 ?side5 ?side6 ?side7 ?side8 A26.out).mono ?_); (case side1 => refine (Kd.R_reads' (e := 9) (base := w.heap.size) (ok := fun k_ => (((True ∧ some k_ ≠ (.slice Ao32 t1062.length co32 : Value).ownBlock) ∧ some k_ ≠ (.slice Ao38 t1074.length co38 : Value).ownBlock) ∧ some k_ ≠ (.slice Ao45 t1081.length co45 : Value).ownBlock)) (n := t1094.length) (c := co57) ?_).2.2; exact (pR (Kd.R_mono (Kd.R_far (p := ⟨gb1100, 1, none⟩) (Kd.R_far (p := ⟨gb1100, 0, none⟩) (Kd.R_types HO1096.out BK1100.out (by decide)) (fun _ hk => hk.2) (.slice Ao57 t1094.length co57)) (fun _ hk => hk.2) (.slice Ao62 t1097.length co62)) (fun _ h_ => h_.1)))); (case side2 => exact (Kd.R_reads' HO1096.out).2.1); (case side3 => refine (Kd.R_reads' (e := 75) (base := w.heap.size) (ok := fun k_ => (((True ∧ some k_ ≠ (.slice Ao33 t1065.length co33 : Value).ownBlock) ∧ some k_ ≠ (.slice Ao41 t1077.length co41 : Value).ownBlock) ∧ some k_ ≠ (.slice Ao49 t1084.length co49 : Value).ownBlock)) (n := t1097.length) (c := co62) ?_).2.2; exact (pR (Kd.R_mono (Kd.R_far (p := ⟨gb1100, 1, none⟩) (Kd.R_far (p := ⟨gb1100, 0, none⟩) (Kd.R_types HO1099.out BK1100.out (by decide)) (fun _ hk => hk.2) (.slice Ao57 t1094.length co57)) (fun _ hk => hk.2) (.slice Ao62 t1097.length co62)) (fun _ h_ => h_.1)))); (case side4 => exact (Kd.R_reads' HO1099.out).2.1); (case side5 => refine (Kd.R_reads' (e := 9) (base := w.heap.size) (ok := fun k_ => (((True ∧ some k_ ≠ (.slice Ao32 t1062.length co32 : Value).ownBlock) ∧ some k_ ≠ (.slice Ao45 t1081.length co45 : Value).ownBlock) ∧ some k_ ≠ (.slice Ao57 t1094.length co57 : Value).ownBlock)) (n := t1074.length) (c := co38) ?_).2.2; exact (pR (Kd.R_mono (Kd.R_far (p := ⟨gb1100, 1, none⟩) (Kd.R_far (p := ⟨gb1100, 0, none⟩) (Kd.R_types HO1076.out BK1100.out (by decide)) (fun _ hk => hk.2) (.slice Ao57 t1094.length co57)) (fun _ hk => hk.2) (.slice Ao62 t1097.length co62)) (fun _ h_ => h_.1)))); (case side6 => exact (Kd.R_reads' HO1076.out).2.1); (case side7 => refine (Kd.R_reads' (e := 75) (base := w.heap.size) (ok := fun k_ => (((True ∧ some k_ ≠ (.slice Ao33 t1065.length co33 : Value).ownBlock) ∧ some k_ ≠ (.slice Ao49 t1084.length co49 : Value).ownBlock) ∧ some k_ ≠ (.slice Ao62 t1097.length co62 : Value).ownBlock)) (n := t1077.length) (c := co41) ?_).2.2; exact (pR (Kd.R_mono (Kd.R_far (p := ⟨gb1100, 1, none⟩) (Kd.R_far (p := ⟨gb1100, 0, none⟩) (Kd.R_types HO1079.out BK1100.out (by decide)) (fun _ hk => hk.2) (.slice Ao57 t1094.length co57)) (fun _ hk => hk.2) (.slice Ao62 t1097.length co62)) (fun _ h_ => h_.1)))); (case side8 => exact (Kd.R_reads' HO1079.out).2.1); rintro e w64 ⟨rfl, hb⟩; refine ⟨_, rfl, ?_⟩; have n0_ := Aside0.mk (Kd.R_below (pR (Kd.R_mono (Kd.R_far (p := ⟨gb1100, 1, none⟩) (Kd.R_far (p := ⟨gb1100, 0, none⟩) (Kd.R_types HO1064.out BK1100.out (by decide)) (fun _ hk => hk.2) (.slice Ao57 t1094.length co57)) (fun _ hk => hk.2) (.slice Ao62 t1097.length co62)) (fun _ h_ => h_.1))) hb); have n1_ := Aside0.mk (Kd.R_below (pR (Kd.R_mono (Kd.R_far (p := ⟨gb1100, 1, none⟩) (Kd.R_far (p := ⟨gb1100, 0, none⟩) (Kd.R_types HO1067.out BK1100.out (by decide)) (fun _ hk => hk.2) (.slice Ao57 t1094.length co57)) (fun _ hk => hk.2) (.slice Ao62 t1097.length co62)) (fun _ h_ => h_.1))) hb); have n2_ := Aside0.mk (Kd.R_below (pR (Kd.R_mono (Kd.R_far (p := ⟨gb1100, 1, none⟩) (Kd.R_far (p := ⟨gb1100, 0, none⟩) (Kd.R_types HO1070.out BK1100.out (by decide)) (fun _ hk => hk.2) (.slice Ao57 t1094.length co57)) (fun _ hk => hk.2) (.slice Ao62 t1097.length co62)) (fun _ h_ => h_.1))) hb); have n3_ := Aside0.mk (Kd.R_below (pR (Kd.R_mono (Kd.R_far (p := ⟨gb1100, 1, none⟩) (Kd.R_far (p := ⟨gb1100, 0, none⟩) (Kd.R_types HO1073.out BK1100.out (by decide)) (fun _ hk => hk.2) (.slice Ao57 t1094.length co57)) (fun _ hk => hk.2) (.slice Ao62 t1097.length co62)) (fun _ h_ => h_.1))) hb); have n4_ := Aside0.mk (Kd.R_below (pR (Kd.R_mono (Kd.R_far (p := ⟨gb1100, 1, none⟩) (Kd.R_far (p := ⟨gb1100, 0, none⟩) (Kd.R_types HO1076.out BK1100.out (by decide)) (fun _ hk => hk.2) (.slice Ao57 t1094.length co57)) (fun _ hk => hk.2) (.slice Ao62 t1097.length co62)) (fun _ h_ => h_.1))) hb); have n5_ := Aside0.mk (Kd.R_below (pR (Kd.R_mono (Kd.R_far (p := ⟨gb1100, 1, none⟩) (Kd.R_far (p := ⟨gb1100, 0, none⟩) (Kd.R_types HO1079.out BK1100.out (by decide)) (fun _ hk => hk.2) (.slice Ao57 t1094.length co57)) (fun _ hk => hk.2) (.slice Ao62 t1097.length co62)) (fun _ h_ => h_.1))) hb); have n6_ := Aside0.mk (Kd.R_below (pR (Kd.R_mono (Kd.R_far (p := ⟨gb1100, 1, none⟩) (Kd.R_far (p := ⟨gb1100, 0, none⟩) (Kd.R_types HO1083.out BK1100.out (by decide)) (fun _ hk => hk.2) (.slice Ao57 t1094.length co57)) (fun _ hk => hk.2) (.slice Ao62 t1097.length co62)) (fun _ h_ => h_.1))) hb); have n7_ := Aside0.mk (Kd.R_below (pR (Kd.R_mono (Kd.R_far (p := ⟨gb1100, 1, none⟩) (Kd.R_far (p := ⟨gb1100, 0, none⟩) (Kd.R_types HO1086.out BK1100.out (by decide)) (fun _ hk => hk.2) (.slice Ao57 t1094.length co57)) (fun _ hk => hk.2) (.slice Ao62 t1097.length co62)) (fun _ h_ => h_.1))) hb); have n8_ := Aside0.mk (Kd.R_below (pR (Kd.R_mono (Kd.R_far (p := ⟨gb1100, 1, none⟩) (Kd.R_far (p := ⟨gb1100, 0, none⟩) (Kd.R_types HO1090.out BK1100.out (by decide)) (fun _ hk => hk.2) (.slice Ao57 t1094.length co57)) (fun _ hk => hk.2) (.slice Ao62 t1097.length co62)) (fun _ h_ => h_.1))) hb); have n9_ := Aside0.mk (Kd.R_below (pR (Kd.R_mono (Kd.R_far (p := ⟨gb1100, 1, none⟩) (Kd.R_far (p := ⟨gb1100, 0, none⟩) (Kd.R_types HO1093.out BK1100.out (by decide)) (fun _ hk => hk.2) (.slice Ao57 t1094.length co57)) (fun _ hk => hk.2) (.slice Ao62 t1097.length co62)) (fun _ h_ => h_.1))) hb); have n10_ := Aside0.mk (Kd.R_below (pR (Kd.R_mono (Kd.R_far (p := ⟨gb1100, 1, none⟩) (Kd.R_far (p := ⟨gb1100, 0, none⟩) (Kd.R_types HO1096.out BK1100.out (by decide)) (fun _ hk => hk.2) (.slice Ao57 t1094.length co57)) (fun _ hk => hk.2) (.slice Ao62 t1097.length co62)) (fun _ h_ => h_.1))) hb); have n11_ := Aside0.mk (Kd.R_below (pR (Kd.R_mono (Kd.R_far (p := ⟨gb1100, 1, none⟩) (Kd.R_far (p := ⟨gb1100, 0, none⟩) (Kd.R_types HO1099.out BK1100.out (by decide)) (fun _ hk => hk.2) (.slice Ao57 t1094.length co57)) (fun _ hk => hk.2) (.slice Ao62 t1097.length co62)) (fun _ h_ => h_.1))) hb); have n12_ := Aside0.mk (blk_below (g := gb1059) (o := .cells #[.slice A0_0 l0_0.length c0_0, .slice A0_1 l0_1.length c0_1] 25 (0, 0)) (by (with_reducible repeat (first | refine blk_drewN ?_ _ | refine blk_drew ?_ | refine blk_alloc ?_ _)); refine blk_far ?_ NB1059_1100.out _; (with_reducible repeat (first | refine blk_drewN ?_ _ | refine blk_drew ?_ | refine blk_alloc ?_ _)); refine blk_far ?_ NB1059_1100.out _; (with_reducible repeat (first | refine blk_drewN ?_ _ | refine blk_drew ?_ | refine blk_alloc ?_ _)); exact BK1059.out) hb); have n13_ := Aside0.mk (blk_below (g := gb1080) (o := .cells #[.slice Ao38 t1074.length co38, .slice Ao41 t1077.length co41] 31 (0, 0)) (by (with_reducible repeat (first | refine blk_drewN ?_ _ | refine blk_drew ?_ | refine blk_alloc ?_ _)); refine blk_far ?_ NB1080_1100.out _; (with_reducible repeat (first | refine blk_drewN ?_ _ | refine blk_drew ?_ | refine blk_alloc ?_ _)); refine blk_far ?_ NB1080_1100.out _; (with_reducible repeat (first | refine blk_drewN ?_ _ | refine blk_drew ?_ | refine blk_alloc ?_ _)); exact BK1080.out) hb); have n14_ := Aside0.mk (blk_below (g := gb1087) (o := .cells #[.slice Ao45 t1081.length co45, .slice Ao49 t1084.length co49] 31 (0, 0)) (by (with_reducible repeat (first | refine blk_drewN ?_ _ | refine blk_drew ?_ | refine blk_alloc ?_ _)); refine blk_far ?_ NB1087_1100.out _; (with_reducible repeat (first | refine blk_drewN ?_ _ | refine blk_drew ?_ | refine blk_alloc ?_ _)); refine blk_far ?_ NB1087_1100.out _; (with_reducible repeat (first | refine blk_drewN ?_ _ | refine blk_drew ?_ | refine blk_alloc ?_ _)); exact BK1087.out) hb); have n15_ := Aside0.mk (blk_below (g := gb1100) (o := .cells #[.slice Ao57 t1094.length co57, .slice Ao62 t1097.length co62] 31 (0, 0)) (by (with_reducible repeat (first | refine blk_drewN ?_ _ | refine blk_drew ?_ | refine blk_alloc ?_ _)); refine blk_put (cs := #[.slice Ao57 t1094.length co57, .slice none 0 0]) ?_ 1 _ rfl; (with_reducible repeat (first | refine blk_drewN ?_ _ | refine blk_drew ?_ | refine blk_alloc ?_ _)); refine blk_put (cs := #[.slice none 0 0, .slice none 0 0]) ?_ 0 _ rfl; (with_reducible repeat (first | refine blk_drewN ?_ _ | refine blk_drew ?_ | refine blk_alloc ?_ _)); exact BK1100.out) hb); have n16_ := Aside0.mk (below_step (pS HB.out) hb); clear HO1064; clear HO1067; clear HO1070; clear HO1073; clear HO1076; clear HO1079; clear HO1083; clear HO1086; clear HO1090; clear HO1093; clear HO1096; clear HO1099; clear BK1059; clear BK1080; clear BK1087; clear BK1100; clear HB; have HO1064 := n0_; have HO1067 := n1_; have HO1070 := n2_; have HO1073 := n3_; have HO1076 := n4_; have HO1079 := n5_; have HO1083 := n6_; have HO1086 := n7_; have HO1090 := n8_; have HO1093 := n9_; have HO1096 := n10_; have HO1099 := n11_; have BK1059 := n12_; have BK1080 := n13_; have BK1087 := n14_; have BK1100 := n15_; have HB := n16_; clear n0_ n1_ n2_ n3_ n4_ n5_ n6_ n7_ n8_ n9_ n10_ n11_ n12_ n13_ n14_ n15_ n16_; (try clear hb); (try clear hb2); (try clear hk); (try clear hi)))
       (try simp only [Act.put, List.setIfInBounds_toArray, List.set_cons_zero, List.set_cons_succ])
       go_cut [] (fun wc => ∃ (kq : Nat), Aside0 (laws_FnExactWalDo.j3 kq l1 a2 a3 l4 t1088 t1091 l0_0 l0_1 t1074 t1077 t1081 t1084 t1094 t1097 = some r) ∧ Aside0 (kq ≤ kj14) ∧ Aside0 (Kd.R k61 61 wc w.heap.size (fun _ => True) (.slice Ao53 t1088.length co53) t1088) ∧ Aside0 (Kd.R (Kd.int .i64) 3 wc w.heap.size (fun _ => True) (.slice Ao54 t1091.length co54) t1091) ∧ Aside0 (Kd.R Kd.string 9 wc w.heap.size (fun k_ => some k_ ≠ ((.slice Ao45 t1081.length co45) : Value).ownBlock ∧ some k_ ≠ ((.slice Ao57 t1094.length co57) : Value).ownBlock) (.slice Ao38 t1074.length co38) t1074) ∧ Aside0 (Kd.R k75 75 wc w.heap.size (fun k_ => some k_ ≠ ((.slice Ao49 t1084.length co49) : Value).ownBlock ∧ some k_ ≠ ((.slice Ao62 t1097.length co62) : Value).ownBlock) (.slice Ao41 t1077.length co41) t1077) ∧ Aside0 (Kd.R Kd.string 9 wc w.heap.size (fun k_ => some k_ ≠ ((.slice Ao38 t1074.length co38) : Value).ownBlock ∧ some k_ ≠ ((.slice Ao57 t1094.length co57) : Value).ownBlock) (.slice Ao45 t1081.length co45) t1081) ∧ Aside0 (Kd.R k75 75 wc w.heap.size (fun k_ => some k_ ≠ ((.slice Ao41 t1077.length co41) : Value).ownBlock ∧ some k_ ≠ ((.slice Ao62 t1097.length co62) : Value).ownBlock) (.slice Ao49 t1084.length co49) t1084) ∧ Aside0 (Kd.R Kd.string 9 wc w.heap.size (fun k_ => some k_ ≠ ((.slice Ao38 t1074.length co38) : Value).ownBlock ∧ some k_ ≠ ((.slice Ao45 t1081.length co45) : Value).ownBlock) (.slice Ao57 t1094.length co57) t1094) ∧ Aside0 (Kd.R k75 75 wc w.heap.size (fun k_ => some k_ ≠ ((.slice Ao41 t1077.length co41) : Value).ownBlock ∧ some k_ ≠ ((.slice Ao49 t1084.length co49) : Value).ownBlock) (.slice Ao62 t1097.length co62) t1097) ∧ Aside0 (wc.heap[gb1059]? = some (.cells #[(.slice A0_0 l0_0.length c0_0), (.slice A0_1 l0_1.length c0_1)] 25 (0, 0))) ∧ Aside0 (wc.heap[gb1080]? = some (.cells #[(.slice Ao38 t1074.length co38), (.slice Ao41 t1077.length co41)] 31 (0, 0))) ∧ Aside0 (wc.heap[gb1087]? = some (.cells #[(.slice Ao45 t1081.length co45), (.slice Ao49 t1084.length co49)] 31 (0, 0))) ∧ Aside0 (wc.heap[gb1100]? = some (.cells #[(.slice Ao57 t1094.length co57), (.slice Ao62 t1097.length co62)] 31 (0, 0))) ∧ Aside0 (Below w.heap.size w wc))
       case first =>
        have H := HC27.out
        clear HC27
        by_cases c65 : t1101 = true
        ·subst c65
         have H1 : (laws_FnExactWalDo.j3 kj14 l1 a2 a3 l4 t1088 t1091 l0_0 l0_1 t1074 t1077 t1081 t1084 t1094 t1097) = some r := by rw [if_pos rfl] at H; exact H
         clear H
         have H := H1
         clear H1
         have H' := Aside0.mk H
         clear H
         go_wp2
         go_meet
         case rel => exact ⟨_, H', ⟨by have := HJ5.out; have := HJ9.out; have := HJ14.out; first | omega | exact Nat.le_refl _⟩, ⟨pR (Kd.R_mono HO1090.out (fun _ hk => trivial))⟩, ⟨pR (Kd.R_mono HO1093.out (fun _ hk => trivial))⟩, ⟨pR (Kd.R_mono HO1076.out (fun _ hk => ⟨hk.1.2, hk.2⟩))⟩, ⟨pR (Kd.R_mono HO1079.out (fun _ hk => ⟨hk.1.2, hk.2⟩))⟩, ⟨pR (Kd.R_mono HO1083.out (fun _ hk => ⟨hk.1.2, hk.2⟩))⟩, ⟨pR (Kd.R_mono HO1086.out (fun _ hk => ⟨hk.1.2, hk.2⟩))⟩, ⟨pR (Kd.R_mono HO1096.out (fun _ hk => ⟨hk.1.2, hk.2⟩))⟩, ⟨pR (Kd.R_mono HO1099.out (fun _ hk => ⟨hk.1.2, hk.2⟩))⟩, ⟨pK BK1059.out⟩, ⟨pK BK1080.out⟩, ⟨pK BK1087.out⟩, ⟨pK BK1100.out⟩, ⟨pS HB.out⟩⟩
        ·replace c65 := Bool.eq_false_iff.mpr c65
         subst c65
         have H1 : (some false) = some r := by rw [if_neg (show ¬ (false = true) by decide)] at H; exact H
         clear H
         have H := H1
         clear H1
         obtain rfl := Option.some.inj H
         go_wp2
         go_ret
         exact ⟨by first | rfl | (simp [errW_none, errW_some] <;> rfl) | (simp [*, errW_none, errW_some] <;> rfl), pS HB.out⟩
       case rest =>
        clear HC27
        try clear c1
        try clear p2
        try clear c3
        try clear c4
        try clear c5
        try clear c6
        try clear c7
        try clear c8
        try clear c8b0
        try clear c8b1
        try clear c11
        try clear c13
        try clear c13b0
        try clear c16
        try clear c17
        try clear c17b0
        try clear c30
        try clear c32
        try clear c33
        try clear c34
        try clear c35
        try clear c39
        try clear c46
        try clear c47
        try clear c58
        try clear c59
        try clear c60
        try clear c65
        try clear hcz11_0
        try clear hcz11_1
        try clear hcz28_0
        try clear hcz28_1
        try clear hcz40_0
        try clear hcz40_1
        try clear hcz42_0
        try clear hcz42_1
        try clear hcz48_0
        try clear hcz48_1
        try clear hcz52_0
        try clear hcz52_1
        try clear hcz61_0
        try clear hcz61_1
        try clear hcz63_0
        try clear hcz63_1
        try clear hfz11_0
        try clear hfz11_1
        try clear hfz28_0
        try clear hfz28_1
        try clear hfz40_0
        try clear hfz40_1
        try clear hfz42_0
        try clear hfz42_1
        try clear hfz48_0
        try clear hfz48_1
        try clear hfz52_0
        try clear hfz52_1
        try clear hfz61_0
        try clear hfz61_1
        try clear hfz63_0
        try clear hfz63_1
        try clear p2
        obtain ⟨kq, HA, HJ26, HO_14, HO_15, HO_1081000, HO_1081001, HO_1088000, HO_1088001, HO_1101000, HO_1101001, BK1059, BK1080, BK1087, BK1100, HB⟩ := hcut
        cases kq with
        | zero => exact absurd HA.out (by simp [laws_FnExactWalDo.j3])
        | succ kj26 =>
         have H := HA.out
         clear HA
         simp only [laws_FnExactWalDo.j3] at H
         replace H := Option.bind_eq_some_iff.mp H
         obtain ⟨⟨t1102, t1105⟩, A660, H⟩ := H
         replace H : ((laws_eqSecDisk.f kj26 t1081 t1084 t1102 t1105).bind fun t1108 => (if t1108 = true then (laws_FnExactWalDo.j4 kj26 l1 a2 a3 l4 t1088 t1091 l0_0 l0_1 t1074 t1077 t1081 t1084 t1094 t1097) else (some false))) = some r := H
         have A66 := Aside0.mk A660
         clear A660
         replace H := Option.bind_eq_some_iff.mp H
         obtain ⟨t1108, A670, H⟩ := H
         replace H : (if t1108 = true then (laws_FnExactWalDo.j4 kj26 l1 a2 a3 l4 t1088 t1091 l0_0 l0_1 t1074 t1077 t1081 t1084 t1094 t1097) else (some false)) = some r := H
         have A67 := Aside0.mk A670
         clear A670
         have HC68 := Aside0.mk H
         clear H
         try go_wp2
         have n0_ := Aside0.mk (Kd.R_drew HO_14.out)
         have n1_ := Aside0.mk (Kd.R_drew HO_15.out)
         have n2_ := Aside0.mk (Kd.R_drew HO_1081000.out)
         have n3_ := Aside0.mk (Kd.R_drew HO_1081001.out)
         have n4_ := Aside0.mk (Kd.R_drew HO_1088000.out)
         have n5_ := Aside0.mk (Kd.R_drew HO_1088001.out)
         have n6_ := Aside0.mk (Kd.R_drew HO_1101000.out)
         have n7_ := Aside0.mk (Kd.R_drew HO_1101001.out)
         have n8_ := Aside0.mk (blk_drew BK1059.out)
         have n9_ := Aside0.mk (blk_drew BK1080.out)
         have n10_ := Aside0.mk (blk_drew BK1087.out)
         have n11_ := Aside0.mk (blk_drew BK1100.out)
         have n12_ := Aside0.mk (below_drew1 HB.out)
         clear HO_14
         clear HO_15
         clear HO_1081000
         clear HO_1081001
         clear HO_1088000
         clear HO_1088001
         clear HO_1101000
         clear HO_1101001
         clear BK1059
         clear BK1080
         clear BK1087
         clear BK1100
         clear HB
         have HO_14 := n0_
         have HO_15 := n1_
         have HO_1081000 := n2_
         have HO_1081001 := n3_
         have HO_1088000 := n4_
         have HO_1088001 := n5_
         have HO_1101000 := n6_
         have HO_1101001 := n7_
         have BK1059 := n8_
         have BK1080 := n9_
         have BK1087 := n10_
         have BK1100 := n11_
         have HB := n12_
         clear n0_ n1_ n2_ n3_ n4_ n5_ n6_ n7_ n8_ n9_ n10_ n11_ n12_
         refine start_ (n := 5) (S := fun w' => w'.cell? ⟨gb1087, 0, none⟩ = some (.slice Ao45 t1081.length co45) ∧ w'.cell? ⟨gb1087, 1, none⟩ = some (.slice Ao49 t1084.length co49) ∧ w'.cell? ⟨gb1059, 0, none⟩ = some (.slice A0_0 l0_0.length c0_0) ∧ w'.cell? ⟨gb1059, 1, none⟩ = some (.slice A0_1 l0_1.length c0_1)) (ds := []) #[false, false, false, false, false] (by kernel_rfl) rfl rfl ⟨(blk_cell BK1087.out 0).trans rfl, (blk_cell BK1087.out 1).trans rfl, (blk_cell BK1059.out 0).trans rfl, (blk_cell BK1059.out 1).trans rfl⟩ (fun hHeld => ?_)
         generalize wc.drew = w69 at HO_14 HO_15 HO_1081000 HO_1081001 HO_1088000 HO_1088001 HO_1101000 HO_1101001 BK1059 BK1080 BK1087 BK1100 HB hHeld ⊢
         refine take_ (i := 0) (N := some 59) (v := ?_) (a' := ?_) #[true, false, false, false, false] rfl rfl (by kernel_rfl) (fun _ _ _ h => h) (Or.inl ⟨by rfl, ?_⟩) hHeld ?_ ?_
         rotate_left
         ·rintro w' ⟨s0, s1, s2, s3⟩
          go_simp
          with_reducible rfl
         rotate_left
         ·simp only [Act.put, List.setIfInBounds_toArray, List.set_cons_zero, List.set_cons_succ, i64_w, i32_w]
          rfl
         refine take_ (i := 1) (N := some 60) (v := ?_) (a' := ?_) #[true, true, false, false, false] rfl rfl (by kernel_rfl) (fun _ _ _ h => h) (Or.inl ⟨by rfl, ?_⟩) hHeld ?_ ?_
         rotate_left
         ·rintro w' ⟨s0, s1, s2, s3⟩
          go_simp
          with_reducible rfl
         rotate_left
         ·simp only [Act.put, List.setIfInBounds_toArray, List.set_cons_zero, List.set_cons_succ, i64_w, i32_w]
          rfl
         refine one_ (i := 2) (N := some 61) #[true, true, true, false, false] rfl rfl (by kernel_rfl) (by decide) (fun K hK => ?_)
         refine goes_ Try.func13 (by kernel_rfl) rfl #[.agg #[.slice A0_0 l0_0.length c0_0, .slice A0_1 l0_1.length c0_1]] (by rfl) rfl rfl bM ?_
         with_reducible refine (laws_toSecDisk.calls kj26 _ _ l0_0 _ _ l0_1 t1102 t1105 _ ?side1 ?side2 ?side3 ?side4 A66.out).mono ?_
         (case side1 => exact pC (Kd.C_below HR0_0.out HB.out))
         (case side2 => exact HC0_0.out)
         (case side3 => exact pC (Kd.C_below HR0_1.out HB.out))
         (case side4 => exact HC0_1.out)
         rintro e w70 ⟨v1103, v1106, rfl, ho0, ho1, hb⟩
         refine ⟨_, rfl, ?_⟩
         have n0_ := Aside0.mk (Kd.R_below (pR HO_14.out) hb)
         have n1_ := Aside0.mk (Kd.R_below (pR HO_15.out) hb)
         have n2_ := Aside0.mk (Kd.R_elder' (pR HO_1081000.out) (Kd.R_base ho0) hb)
         have n3_ := Aside0.mk (Kd.R_elder' (pR HO_1081001.out) (Kd.R_base ho1) hb)
         have n4_ := Aside0.mk (Kd.R_elder' (pR HO_1088000.out) (Kd.R_base ho0) hb)
         have n5_ := Aside0.mk (Kd.R_elder' (pR HO_1088001.out) (Kd.R_base ho1) hb)
         have n6_ := Aside0.mk (Kd.R_elder' (pR HO_1101000.out) (Kd.R_base ho0) hb)
         have n7_ := Aside0.mk (Kd.R_elder' (pR HO_1101001.out) (Kd.R_base ho1) hb)
         have n8_ := Aside0.mk (Kd.R_lower (Kd.R_new' (Kd.R_new' (Kd.R_new' ho0 (Kd.R_lt (pR HO_1081000.out))) (Kd.R_lt (pR HO_1088000.out))) (Kd.R_lt (pR HO_1101000.out))) (below_size (pS HB.out)))
         have n9_ := Aside0.mk (Kd.R_lower (Kd.R_new' (Kd.R_new' (Kd.R_new' ho1 (Kd.R_lt (pR HO_1081001.out))) (Kd.R_lt (pR HO_1088001.out))) (Kd.R_lt (pR HO_1101001.out))) (below_size (pS HB.out)))
         have n10_ := Aside0.mk (blk_below (pK BK1059.out) hb)
         have n11_ := Aside0.mk (blk_below (pK BK1080.out) hb)
         have n12_ := Aside0.mk (blk_below (pK BK1087.out) hb)
         have n13_ := Aside0.mk (blk_below (pK BK1100.out) hb)
         have n14_ := Aside0.mk (below_step (pS HB.out) hb)
         clear HO_14
         clear HO_15
         clear HO_1081000
         clear HO_1081001
         clear HO_1088000
         clear HO_1088001
         clear HO_1101000
         clear HO_1101001
         clear BK1059
         clear BK1080
         clear BK1087
         clear BK1100
         clear HB
         have HO_14 := n0_
         have HO_15 := n1_
         have HO_1081000 := n2_
         have HO_1081001 := n3_
         have HO_1088000 := n4_
         have HO_1088001 := n5_
         have HO_1101000 := n6_
         have HO_1101001 := n7_
         have HO1104 := n8_
         have HO1107 := n9_
         have BK1059 := n10_
         have BK1080 := n11_
         have BK1087 := n12_
         have BK1100 := n13_
         have HB := n14_
         clear n0_ n1_ n2_ n3_ n4_ n5_ n6_ n7_ n8_ n9_ n10_ n11_ n12_ n13_ n14_
         (try clear hb)
         (try clear hb2)
         (try clear hk)
         (try clear hi)
         (try clear ho0)
         (try clear ho1)
         obtain ⟨Ao71, co71, eo71⟩ := Kd.R_slice HO1104.out
         (first | subst eo71 | (injection eo71 with f1_ f2_ f3_; have f4_ := f1_.symm; have f5_ := f3_.symm; clear f1_ f2_ f3_; subst f4_; subst f5_))
         obtain ⟨Ao72, co72, eo72⟩ := Kd.R_slice HO1107.out
         (first | subst eo72 | (injection eo72 with f1_ f2_ f3_; have f4_ := f1_.symm; have f5_ := f3_.symm; clear f1_ f2_ f3_; subst f4_; subst f5_))
         refine hK.out _ _ ⟨(blk_cell BK1087.out 0).trans rfl, (blk_cell BK1087.out 1).trans rfl, (blk_cell BK1059.out 0).trans rfl, (blk_cell BK1059.out 1).trans rfl⟩ (fun hHeld => ?_)
         clear hK K
         refine norm_ (a' := ?_) ?_ ?_
         rotate_left
         ·show Act.put _ (some 61) _ = _
          simp only [Act.put, List.setIfInBounds_toArray, List.set_cons_zero, List.set_cons_succ, i64_w, i32_w]
          rfl
         refine one_ (i := 3) (N := some 62) #[true, true, true, true, false] rfl rfl (by kernel_rfl) (by decide) (fun K hK => ?_)
         refine goes_ Try.func16 (by kernel_rfl) rfl #[.agg #[.slice Ao45 t1081.length co45, .slice Ao49 t1084.length co49], .agg #[.slice Ao71 t1102.length co71, .slice Ao72 t1105.length co72]] (by rfl) rfl rfl bM ?_
         with_reducible refine (laws_eqSecDisk.calls kj26 _ _ t1081 _ _ t1084 _ _ t1102 _ _ t1105 t1108 _ ?side1 ?side2 ?side3 ?side4 ?side5 ?side6 ?side7 ?side8 A67.out).mono ?_
         (case side1 => exact pC (Kd.R_reads' HO_1088000.out).2.2)
         (case side2 => exact (Kd.R_reads' HO_1088000.out).2.1)
         (case side3 => exact pC (Kd.R_reads' HO_1088001.out).2.2)
         (case side4 => exact (Kd.R_reads' HO_1088001.out).2.1)
         (case side5 => exact pC (Kd.R_reads' HO1104.out).2.2)
         (case side6 => exact (Kd.R_reads' HO1104.out).2.1)
         (case side7 => exact pC (Kd.R_reads' HO1107.out).2.2)
         (case side8 => exact (Kd.R_reads' HO1107.out).2.1)
         rintro e w73 ⟨rfl, hb⟩
         refine ⟨_, rfl, ?_⟩
         have n0_ := Aside0.mk (Kd.R_below (pR HO_14.out) hb)
         have n1_ := Aside0.mk (Kd.R_below (pR HO_15.out) hb)
         have n2_ := Aside0.mk (Kd.R_below (pR HO_1081000.out) hb)
         have n3_ := Aside0.mk (Kd.R_below (pR HO_1081001.out) hb)
         have n4_ := Aside0.mk (Kd.R_below (pR HO_1088000.out) hb)
         have n5_ := Aside0.mk (Kd.R_below (pR HO_1088001.out) hb)
         have n6_ := Aside0.mk (Kd.R_below (pR HO_1101000.out) hb)
         have n7_ := Aside0.mk (Kd.R_below (pR HO_1101001.out) hb)
         have n8_ := Aside0.mk (Kd.R_below (pR HO1104.out) hb)
         have n9_ := Aside0.mk (Kd.R_below (pR HO1107.out) hb)
         have n10_ := Aside0.mk (blk_below (pK BK1059.out) hb)
         have n11_ := Aside0.mk (blk_below (pK BK1080.out) hb)
         have n12_ := Aside0.mk (blk_below (pK BK1087.out) hb)
         have n13_ := Aside0.mk (blk_below (pK BK1100.out) hb)
         have n14_ := Aside0.mk (below_step (pS HB.out) hb)
         clear HO_14
         clear HO_15
         clear HO_1081000
         clear HO_1081001
         clear HO_1088000
         clear HO_1088001
         clear HO_1101000
         clear HO_1101001
         clear HO1104
         clear HO1107
         clear BK1059
         clear BK1080
         clear BK1087
         clear BK1100
         clear HB
         have HO_14 := n0_
         have HO_15 := n1_
         have HO_1081000 := n2_
         have HO_1081001 := n3_
         have HO_1088000 := n4_
         have HO_1088001 := n5_
         have HO_1101000 := n6_
         have HO_1101001 := n7_
         have HO1104 := n8_
         have HO1107 := n9_
         have BK1059 := n10_
         have BK1080 := n11_
         have BK1087 := n12_
         have BK1100 := n13_
         have HB := n14_
         clear n0_ n1_ n2_ n3_ n4_ n5_ n6_ n7_ n8_ n9_ n10_ n11_ n12_ n13_ n14_
         (try clear hb)
         (try clear hb2)
         (try clear hk)
         (try clear hi)
         refine hK.out _ _ ⟨(blk_cell BK1087.out 0).trans rfl, (blk_cell BK1087.out 1).trans rfl, (blk_cell BK1059.out 0).trans rfl, (blk_cell BK1059.out 1).trans rfl⟩ (fun hHeld => ?_)
         clear hK K
         refine norm_ (a' := ?_) ?_ ?_
         rotate_left
         ·show Act.put _ (some 62) _ = _
          simp only [Act.put, List.setIfInBounds_toArray, List.set_cons_zero, List.set_cons_succ, i64_w, i32_w]
          rfl
         refine pure_ (i := 4) (N := some 63) (v := ?_) (a' := ?_) #[true, true, true, true, true] rfl rfl (by kernel_rfl) (fun _ _ _ h => h) (Or.inl ⟨by rfl, ?_⟩) ?_ ?_
         rotate_left
         ·intro w'
          go_simp
          with_reducible rfl
         rotate_left
         ·simp only [Act.put, List.setIfInBounds_toArray, List.set_cons_zero, List.set_cons_succ, i64_w, i32_w]
          rfl
         refine done_ (by kernel_rfl) ?_
         go_upto_if 63 with (fail)
         go_cut [] (fun wc => ∃ (kq : Nat), Aside0 (laws_FnExactWalDo.j4 kq l1 a2 a3 l4 t1088 t1091 l0_0 l0_1 t1074 t1077 t1081 t1084 t1094 t1097 = some r) ∧ Aside0 (kq ≤ kj26) ∧ Aside0 (Kd.R k61 61 wc w.heap.size (fun _ => True) (.slice Ao53 t1088.length co53) t1088) ∧ Aside0 (Kd.R (Kd.int .i64) 3 wc w.heap.size (fun _ => True) (.slice Ao54 t1091.length co54) t1091) ∧ Aside0 (Kd.R Kd.string 9 wc w.heap.size (fun k_ => some k_ ≠ ((.slice Ao45 t1081.length co45) : Value).ownBlock ∧ some k_ ≠ ((.slice Ao57 t1094.length co57) : Value).ownBlock) (.slice Ao38 t1074.length co38) t1074) ∧ Aside0 (Kd.R k75 75 wc w.heap.size (fun k_ => some k_ ≠ ((.slice Ao49 t1084.length co49) : Value).ownBlock ∧ some k_ ≠ ((.slice Ao62 t1097.length co62) : Value).ownBlock) (.slice Ao41 t1077.length co41) t1077) ∧ Aside0 (Kd.R Kd.string 9 wc w.heap.size (fun k_ => some k_ ≠ ((.slice Ao38 t1074.length co38) : Value).ownBlock ∧ some k_ ≠ ((.slice Ao57 t1094.length co57) : Value).ownBlock) (.slice Ao45 t1081.length co45) t1081) ∧ Aside0 (Kd.R k75 75 wc w.heap.size (fun k_ => some k_ ≠ ((.slice Ao41 t1077.length co41) : Value).ownBlock ∧ some k_ ≠ ((.slice Ao62 t1097.length co62) : Value).ownBlock) (.slice Ao49 t1084.length co49) t1084) ∧ Aside0 (Kd.R Kd.string 9 wc w.heap.size (fun k_ => some k_ ≠ ((.slice Ao38 t1074.length co38) : Value).ownBlock ∧ some k_ ≠ ((.slice Ao45 t1081.length co45) : Value).ownBlock) (.slice Ao57 t1094.length co57) t1094) ∧ Aside0 (Kd.R k75 75 wc w.heap.size (fun k_ => some k_ ≠ ((.slice Ao41 t1077.length co41) : Value).ownBlock ∧ some k_ ≠ ((.slice Ao49 t1084.length co49) : Value).ownBlock) (.slice Ao62 t1097.length co62) t1097) ∧ Aside0 (wc.heap[gb1059]? = some (.cells #[(.slice A0_0 l0_0.length c0_0), (.slice A0_1 l0_1.length c0_1)] 25 (0, 0))) ∧ Aside0 (wc.heap[gb1080]? = some (.cells #[(.slice Ao38 t1074.length co38), (.slice Ao41 t1077.length co41)] 31 (0, 0))) ∧ Aside0 (wc.heap[gb1087]? = some (.cells #[(.slice Ao45 t1081.length co45), (.slice Ao49 t1084.length co49)] 31 (0, 0))) ∧ Aside0 (wc.heap[gb1100]? = some (.cells #[(.slice Ao57 t1094.length co57), (.slice Ao62 t1097.length co62)] 31 (0, 0))) ∧ Aside0 (Below w.heap.size w wc))
         case first =>
          have H := HC68.out
          clear HC68
          by_cases c74 : t1108 = true
          ·subst c74
           have H1 : (laws_FnExactWalDo.j4 kj26 l1 a2 a3 l4 t1088 t1091 l0_0 l0_1 t1074 t1077 t1081 t1084 t1094 t1097) = some r := by rw [if_pos rfl] at H; exact H
           clear H
           have H := H1
           clear H1
           have H' := Aside0.mk H
           clear H
           go_wp2
           go_meet
           case rel => exact ⟨_, H', ⟨by have := HJ5.out; have := HJ9.out; have := HJ14.out; have := HJ26.out; first | omega | exact Nat.le_refl _⟩, ⟨pR HO_14.out⟩, ⟨pR HO_15.out⟩, ⟨pR (Kd.R_mono HO_1081000.out (fun _ hk => ⟨hk.1.1, hk.1.2⟩))⟩, ⟨pR (Kd.R_mono HO_1081001.out (fun _ hk => ⟨hk.1.1, hk.1.2⟩))⟩, ⟨pR (Kd.R_mono HO_1088000.out (fun _ hk => ⟨hk.1.1, hk.1.2⟩))⟩, ⟨pR (Kd.R_mono HO_1088001.out (fun _ hk => ⟨hk.1.1, hk.1.2⟩))⟩, ⟨pR (Kd.R_mono HO_1101000.out (fun _ hk => ⟨hk.1.1, hk.1.2⟩))⟩, ⟨pR (Kd.R_mono HO_1101001.out (fun _ hk => ⟨hk.1.1, hk.1.2⟩))⟩, ⟨pK BK1059.out⟩, ⟨pK BK1080.out⟩, ⟨pK BK1087.out⟩, ⟨pK BK1100.out⟩, ⟨pS HB.out⟩⟩
          ·replace c74 := Bool.eq_false_iff.mpr c74
           subst c74
           have H1 : (some false) = some r := by rw [if_neg (show ¬ (false = true) by decide)] at H; exact H
           clear H
           have H := H1
           clear H1
           obtain rfl := Option.some.inj H
           go_wp2
           go_ret
           exact ⟨by first | rfl | (simp [errW_none, errW_some] <;> rfl) | (simp [*, errW_none, errW_some] <;> rfl), pS HB.out⟩
         case rest =>
          clear HC68
          try clear c1
          try clear p2
          try clear c3
          try clear c4
          try clear c5
          try clear c6
          try clear c7
          try clear c8
          try clear c8b0
          try clear c8b1
          try clear c11
          try clear c13
          try clear c13b0
          try clear c16
          try clear c17
          try clear c17b0
          try clear c30
          try clear c32
          try clear c33
          try clear c34
          try clear c35
          try clear c39
          try clear c46
          try clear c47
          try clear c58
          try clear c59
          try clear c60
          try clear c65
          try clear c74
          try clear hcz11_0
          try clear hcz11_1
          try clear hcz28_0
          try clear hcz28_1
          try clear hcz40_0
          try clear hcz40_1
          try clear hcz42_0
          try clear hcz42_1
          try clear hcz48_0
          try clear hcz48_1
          try clear hcz52_0
          try clear hcz52_1
          try clear hcz61_0
          try clear hcz61_1
          try clear hcz63_0
          try clear hcz63_1
          try clear hfz11_0
          try clear hfz11_1
          try clear hfz28_0
          try clear hfz28_1
          try clear hfz40_0
          try clear hfz40_1
          try clear hfz42_0
          try clear hfz42_1
          try clear hfz48_0
          try clear hfz48_1
          try clear hfz52_0
          try clear hfz52_1
          try clear hfz61_0
          try clear hfz61_1
          try clear hfz63_0
          try clear hfz63_1
          try clear p2
          obtain ⟨kq, HA, HJ67, HO_14, HO_15, HO_1081000, HO_1081001, HO_1088000, HO_1088001, HO_1101000, HO_1101001, BK1059, BK1080, BK1087, BK1100, HB⟩ := hcut
          cases kq with
          | zero => exact absurd HA.out (by simp [laws_FnExactWalDo.j4])
          | succ kj67 =>
           have H := HA.out
           clear HA
           simp only [laws_FnExactWalDo.j4] at H
           replace H := Option.bind_eq_some_iff.mp H
           obtain ⟨t1109, A750, H⟩ := H
           replace H : ((laws_eqSecStepS.f kj67 t1088 t1109).bind fun t1112 => (if t1112 = true then (laws_FnExactWalDo.j5 kj67 l1 a2 a3 l4 t1088 t1091 l0_0 l0_1 t1074 t1077 t1081 t1084 t1094 t1097) else (some false))) = some r := H
           have A75 := Aside0.mk A750
           clear A750
           replace H := Option.bind_eq_some_iff.mp H
           obtain ⟨t1112, A760, H⟩ := H
           replace H : (if t1112 = true then (laws_FnExactWalDo.j5 kj67 l1 a2 a3 l4 t1088 t1091 l0_0 l0_1 t1074 t1077 t1081 t1084 t1094 t1097) else (some false)) = some r := H
           have A76 := Aside0.mk A760
           clear A760
           have HC77 := Aside0.mk H
           clear H
           go_upto_if 68 with (first | ((with_reducible refine gate_callee (f := 34) rfl ?_); refine goesL_ (some 66) rfl rfl Try.func34 (by kernel_rfl) rfl #[.slice A1 l1.length c1] rfl bM ?_; (with_reducible refine (laws_toSecStepS.calls kj67 _ _ l1 t1109 _ ?side1 ?side2 A75.out).mono ?_); (case side1 => exact pC (Kd.C_below HR1.out HB.out)); (case side2 => exact HC1.out); rintro e w78 ⟨v1110, rfl, ho0, hb⟩; refine ⟨_, rfl, ?_⟩; have n0_ := Aside0.mk (Kd.R_elder' (pR HO_14.out) (Kd.R_base ho0) hb); have n1_ := Aside0.mk (Kd.R_below (pR HO_15.out) hb); have n2_ := Aside0.mk (Kd.R_below (pR HO_1081000.out) hb); have n3_ := Aside0.mk (Kd.R_below (pR HO_1081001.out) hb); have n4_ := Aside0.mk (Kd.R_below (pR HO_1088000.out) hb); have n5_ := Aside0.mk (Kd.R_below (pR HO_1088001.out) hb); have n6_ := Aside0.mk (Kd.R_below (pR HO_1101000.out) hb); have n7_ := Aside0.mk (Kd.R_below (pR HO_1101001.out) hb); have n8_ := Aside0.mk (Kd.R_lower (Kd.R_new' ho0 (Kd.R_lt (pR HO_14.out))) (below_size (pS HB.out))); have n9_ := Aside0.mk (blk_below (pK BK1059.out) hb); have n10_ := Aside0.mk (blk_below (pK BK1080.out) hb); have n11_ := Aside0.mk (blk_below (pK BK1087.out) hb); have n12_ := Aside0.mk (blk_below (pK BK1100.out) hb); have n13_ := Aside0.mk (below_step (pS HB.out) hb); clear HO_14; clear HO_15; clear HO_1081000; clear HO_1081001; clear HO_1088000; clear HO_1088001; clear HO_1101000; clear HO_1101001; clear BK1059; clear BK1080; clear BK1087; clear BK1100; clear HB; have HO_14 := n0_; have HO_15 := n1_; have HO_1081000 := n2_; have HO_1081001 := n3_; have HO_1088000 := n4_; have HO_1088001 := n5_; have HO_1101000 := n6_; have HO_1101001 := n7_; have HO1111 := n8_; have BK1059 := n9_; have BK1080 := n10_; have BK1087 := n11_; have BK1100 := n12_; have HB := n13_; clear n0_ n1_ n2_ n3_ n4_ n5_ n6_ n7_ n8_ n9_ n10_ n11_ n12_ n13_; (try clear hb); (try clear hb2); (try clear hk); (try clear hi); (try clear ho0); obtain ⟨Ao79, co79, eo79⟩ := Kd.R_slice HO1111.out; subst eo79) | ((with_reducible refine gate_callee (f := 22) rfl ?_); refine goesL_ (some 67) rfl rfl Try.func22 (by kernel_rfl) rfl #[.slice Ao53 t1088.length co53, .slice Ao79 t1109.length co79] rfl bM ?_; (with_reducible refine (laws_eqSecStepS.calls kj67 _ _ t1088 _ _ t1109 t1112 _ ?side1 ?side2 ?side3 ?side4 A76.out).mono ?_); (case side1 => exact pC (Kd.R_reads' HO_14.out).2.2); (case side2 => exact (Kd.R_reads' HO_14.out).2.1); (case side3 => exact pC (Kd.R_reads' HO1111.out).2.2); (case side4 => exact (Kd.R_reads' HO1111.out).2.1); rintro e w80 ⟨rfl, hb⟩; refine ⟨_, rfl, ?_⟩; have n0_ := Aside0.mk (Kd.R_below (pR HO_14.out) hb); have n1_ := Aside0.mk (Kd.R_below (pR HO_15.out) hb); have n2_ := Aside0.mk (Kd.R_below (pR HO_1081000.out) hb); have n3_ := Aside0.mk (Kd.R_below (pR HO_1081001.out) hb); have n4_ := Aside0.mk (Kd.R_below (pR HO_1088000.out) hb); have n5_ := Aside0.mk (Kd.R_below (pR HO_1088001.out) hb); have n6_ := Aside0.mk (Kd.R_below (pR HO_1101000.out) hb); have n7_ := Aside0.mk (Kd.R_below (pR HO_1101001.out) hb); have n8_ := Aside0.mk (Kd.R_below (pR HO1111.out) hb); have n9_ := Aside0.mk (blk_below (pK BK1059.out) hb); have n10_ := Aside0.mk (blk_below (pK BK1080.out) hb); have n11_ := Aside0.mk (blk_below (pK BK1087.out) hb); have n12_ := Aside0.mk (blk_below (pK BK1100.out) hb); have n13_ := Aside0.mk (below_step (pS HB.out) hb); clear HO_14; clear HO_15; clear HO_1081000; clear HO_1081001; clear HO_1088000; clear HO_1088001; clear HO_1101000; clear HO_1101001; clear HO1111; clear BK1059; clear BK1080; clear BK1087; clear BK1100; clear HB; have HO_14 := n0_; have HO_15 := n1_; have HO_1081000 := n2_; have HO_1081001 := n3_; have HO_1088000 := n4_; have HO_1088001 := n5_; have HO_1101000 := n6_; have HO_1101001 := n7_; have HO1111 := n8_; have BK1059 := n9_; have BK1080 := n10_; have BK1087 := n11_; have BK1100 := n12_; have HB := n13_; clear n0_ n1_ n2_ n3_ n4_ n5_ n6_ n7_ n8_ n9_ n10_ n11_ n12_ n13_; (try clear hb); (try clear hb2); (try clear hk); (try clear hi)))
           (try simp only [Act.put, List.setIfInBounds_toArray, List.set_cons_zero, List.set_cons_succ])
           go_cut [] (fun wc => ∃ (kq : Nat), Aside0 (laws_FnExactWalDo.j5 kq l1 a2 a3 l4 t1088 t1091 l0_0 l0_1 t1074 t1077 t1081 t1084 t1094 t1097 = some r) ∧ Aside0 (kq ≤ kj67) ∧ Aside0 (Kd.R k61 61 wc w.heap.size (fun _ => True) (.slice Ao53 t1088.length co53) t1088) ∧ Aside0 (Kd.R (Kd.int .i64) 3 wc w.heap.size (fun _ => True) (.slice Ao54 t1091.length co54) t1091) ∧ Aside0 (Kd.R Kd.string 9 wc w.heap.size (fun k_ => some k_ ≠ ((.slice Ao45 t1081.length co45) : Value).ownBlock ∧ some k_ ≠ ((.slice Ao57 t1094.length co57) : Value).ownBlock) (.slice Ao38 t1074.length co38) t1074) ∧ Aside0 (Kd.R k75 75 wc w.heap.size (fun k_ => some k_ ≠ ((.slice Ao49 t1084.length co49) : Value).ownBlock ∧ some k_ ≠ ((.slice Ao62 t1097.length co62) : Value).ownBlock) (.slice Ao41 t1077.length co41) t1077) ∧ Aside0 (Kd.R Kd.string 9 wc w.heap.size (fun k_ => some k_ ≠ ((.slice Ao38 t1074.length co38) : Value).ownBlock ∧ some k_ ≠ ((.slice Ao57 t1094.length co57) : Value).ownBlock) (.slice Ao45 t1081.length co45) t1081) ∧ Aside0 (Kd.R k75 75 wc w.heap.size (fun k_ => some k_ ≠ ((.slice Ao41 t1077.length co41) : Value).ownBlock ∧ some k_ ≠ ((.slice Ao62 t1097.length co62) : Value).ownBlock) (.slice Ao49 t1084.length co49) t1084) ∧ Aside0 (Kd.R Kd.string 9 wc w.heap.size (fun k_ => some k_ ≠ ((.slice Ao38 t1074.length co38) : Value).ownBlock ∧ some k_ ≠ ((.slice Ao45 t1081.length co45) : Value).ownBlock) (.slice Ao57 t1094.length co57) t1094) ∧ Aside0 (Kd.R k75 75 wc w.heap.size (fun k_ => some k_ ≠ ((.slice Ao41 t1077.length co41) : Value).ownBlock ∧ some k_ ≠ ((.slice Ao49 t1084.length co49) : Value).ownBlock) (.slice Ao62 t1097.length co62) t1097) ∧ Aside0 (wc.heap[gb1059]? = some (.cells #[(.slice A0_0 l0_0.length c0_0), (.slice A0_1 l0_1.length c0_1)] 25 (0, 0))) ∧ Aside0 (wc.heap[gb1080]? = some (.cells #[(.slice Ao38 t1074.length co38), (.slice Ao41 t1077.length co41)] 31 (0, 0))) ∧ Aside0 (wc.heap[gb1087]? = some (.cells #[(.slice Ao45 t1081.length co45), (.slice Ao49 t1084.length co49)] 31 (0, 0))) ∧ Aside0 (wc.heap[gb1100]? = some (.cells #[(.slice Ao57 t1094.length co57), (.slice Ao62 t1097.length co62)] 31 (0, 0))) ∧ Aside0 (Below w.heap.size w wc))
           case first =>
            have H := HC77.out
            clear HC77
            by_cases c81 : t1112 = true
            ·subst c81
             have H1 : (laws_FnExactWalDo.j5 kj67 l1 a2 a3 l4 t1088 t1091 l0_0 l0_1 t1074 t1077 t1081 t1084 t1094 t1097) = some r := by rw [if_pos rfl] at H; exact H
             clear H
             have H := H1
             clear H1
             have H' := Aside0.mk H
             clear H
             go_wp2
             go_meet
             case rel => exact ⟨_, H', ⟨by have := HJ5.out; have := HJ9.out; have := HJ14.out; have := HJ26.out; have := HJ67.out; first | omega | exact Nat.le_refl _⟩, ⟨pR (Kd.R_mono HO_14.out (fun _ hk => trivial))⟩, ⟨pR HO_15.out⟩, ⟨pR HO_1081000.out⟩, ⟨pR HO_1081001.out⟩, ⟨pR HO_1088000.out⟩, ⟨pR HO_1088001.out⟩, ⟨pR HO_1101000.out⟩, ⟨pR HO_1101001.out⟩, ⟨pK BK1059.out⟩, ⟨pK BK1080.out⟩, ⟨pK BK1087.out⟩, ⟨pK BK1100.out⟩, ⟨pS HB.out⟩⟩
            ·replace c81 := Bool.eq_false_iff.mpr c81
             subst c81
             have H1 : (some false) = some r := by rw [if_neg (show ¬ (false = true) by decide)] at H; exact H
             clear H
             have H := H1
             clear H1
             obtain rfl := Option.some.inj H
             go_wp2
             go_ret
             exact ⟨by first | rfl | (simp [errW_none, errW_some] <;> rfl) | (simp [*, errW_none, errW_some] <;> rfl), pS HB.out⟩
           case rest =>
            clear HC77
            try clear c1
            try clear c2
            try clear p2
            try clear c3
            try clear c4
            try clear c5
            try clear c6
            try clear c7
            try clear c8
            try clear c8b0
            try clear c8b1
            try clear c11
            try clear c13
            try clear c13b0
            try clear c16
            try clear c17
            try clear c17b0
            try clear c22
            try clear c30
            try clear c32
            try clear c33
            try clear c34
            try clear c35
            try clear c39
            try clear c46
            try clear c47
            try clear c58
            try clear c59
            try clear c60
            try clear c65
            try clear c74
            try clear c81
            try clear hcz11_0
            try clear hcz11_1
            try clear hcz28_0
            try clear hcz28_1
            try clear hcz40_0
            try clear hcz40_1
            try clear hcz42_0
            try clear hcz42_1
            try clear hcz48_0
            try clear hcz48_1
            try clear hcz52_0
            try clear hcz52_1
            try clear hcz61_0
            try clear hcz61_1
            try clear hcz63_0
            try clear hcz63_1
            try clear hfz11_0
            try clear hfz11_1
            try clear hfz28_0
            try clear hfz28_1
            try clear hfz40_0
            try clear hfz40_1
            try clear hfz42_0
            try clear hfz42_1
            try clear hfz48_0
            try clear hfz48_1
            try clear hfz52_0
            try clear hfz52_1
            try clear hfz61_0
            try clear hfz61_1
            try clear hfz63_0
            try clear hfz63_1
            try clear p2
            obtain ⟨kq, HA, HJ76, HO_14, HO_15, HO_1081000, HO_1081001, HO_1088000, HO_1088001, HO_1101000, HO_1101001, BK1059, BK1080, BK1087, BK1100, HB⟩ := hcut
            cases kq with
            | zero => exact absurd HA.out (by simp [laws_FnExactWalDo.j5])
            | succ kj76 =>
             have H := HA.out
             clear HA
             simp only [laws_FnExactWalDo.j5] at H
             replace H := Option.bind_eq_some_iff.mp H
             obtain ⟨t1113, A820, H⟩ := H
             replace H : ((laws_eqIntS.f kj76 t1091 t1113).bind fun t1116 => (if t1116 = true then (laws_FnExactWalDo.j6 kj76 l1 a2 a3 l4 t1088 t1091 l0_0 l0_1 t1074 t1077 t1081 t1084 t1094 t1097) else (some false))) = some r := H
             have A82 := Aside0.mk A820
             clear A820
             replace H := Option.bind_eq_some_iff.mp H
             obtain ⟨t1116, A830, H⟩ := H
             replace H : (if t1116 = true then (laws_FnExactWalDo.j6 kj76 l1 a2 a3 l4 t1088 t1091 l0_0 l0_1 t1074 t1077 t1081 t1084 t1094 t1097) else (some false)) = some r := H
             have A83 := Aside0.mk A830
             clear A830
             have HC84 := Aside0.mk H
             clear H
             go_upto_if 73 with (first | ((with_reducible refine gate_callee (f := 35) rfl ?_); refine goesL_ (some 71) rfl rfl Try.func35 (by kernel_rfl) rfl #[.slice A4 l4.length c4] rfl bM ?_; (with_reducible refine (laws_toIntS.calls kj76 _ _ l4 t1113 _ ?side1 ?side2 A82.out).mono ?_); (case side1 => exact pC (Kd.C_below HR4.out HB.out)); (case side2 => exact HC4.out); rintro e w85 ⟨v1114, rfl, ho0, hb⟩; refine ⟨_, rfl, ?_⟩; have n0_ := Aside0.mk (Kd.R_below (pR HO_14.out) hb); have n1_ := Aside0.mk (Kd.R_elder' (pR HO_15.out) (Kd.R_base ho0) hb); have n2_ := Aside0.mk (Kd.R_below (pR HO_1081000.out) hb); have n3_ := Aside0.mk (Kd.R_below (pR HO_1081001.out) hb); have n4_ := Aside0.mk (Kd.R_below (pR HO_1088000.out) hb); have n5_ := Aside0.mk (Kd.R_below (pR HO_1088001.out) hb); have n6_ := Aside0.mk (Kd.R_below (pR HO_1101000.out) hb); have n7_ := Aside0.mk (Kd.R_below (pR HO_1101001.out) hb); have n8_ := Aside0.mk (Kd.R_lower (Kd.R_new' ho0 (Kd.R_lt (pR HO_15.out))) (below_size (pS HB.out))); have n9_ := Aside0.mk (blk_below (pK BK1059.out) hb); have n10_ := Aside0.mk (blk_below (pK BK1080.out) hb); have n11_ := Aside0.mk (blk_below (pK BK1087.out) hb); have n12_ := Aside0.mk (blk_below (pK BK1100.out) hb); have n13_ := Aside0.mk (below_step (pS HB.out) hb); clear HO_14; clear HO_15; clear HO_1081000; clear HO_1081001; clear HO_1088000; clear HO_1088001; clear HO_1101000; clear HO_1101001; clear BK1059; clear BK1080; clear BK1087; clear BK1100; clear HB; have HO_14 := n0_; have HO_15 := n1_; have HO_1081000 := n2_; have HO_1081001 := n3_; have HO_1088000 := n4_; have HO_1088001 := n5_; have HO_1101000 := n6_; have HO_1101001 := n7_; have HO1115 := n8_; have BK1059 := n9_; have BK1080 := n10_; have BK1087 := n11_; have BK1100 := n12_; have HB := n13_; clear n0_ n1_ n2_ n3_ n4_ n5_ n6_ n7_ n8_ n9_ n10_ n11_ n12_ n13_; (try clear hb); (try clear hb2); (try clear hk); (try clear hi); (try clear ho0); obtain ⟨Ao86, co86, eo86⟩ := Kd.R_slice HO1115.out; subst eo86) | ((with_reducible refine gate_callee (f := 36) rfl ?_); refine goesL_ (some 72) rfl rfl Try.func36 (by kernel_rfl) rfl #[.slice Ao54 t1091.length co54, .slice Ao86 t1113.length co86] rfl bM ?_; (with_reducible refine (laws_eqIntS.calls kj76 _ _ t1091 _ _ t1113 t1116 _ ?side1 ?side2 ?side3 ?side4 A83.out).mono ?_); (case side1 => exact pC (Kd.R_reads' HO_15.out).2.2); (case side2 => exact (Kd.R_reads' HO_15.out).2.1); (case side3 => exact pC (Kd.R_reads' HO1115.out).2.2); (case side4 => exact (Kd.R_reads' HO1115.out).2.1); rintro e w' ⟨rfl, ⟨nd, rfl⟩⟩; refine ⟨_, rfl, ?_⟩))
             (try simp only [Act.put, List.setIfInBounds_toArray, List.set_cons_zero, List.set_cons_succ])
             go_cut [] (fun wc => ∃ (kq : Nat), Aside0 (laws_FnExactWalDo.j6 kq l1 a2 a3 l4 t1088 t1091 l0_0 l0_1 t1074 t1077 t1081 t1084 t1094 t1097 = some r) ∧ Aside0 (kq ≤ kj76) ∧ Aside0 (Kd.R k61 61 wc w.heap.size (fun _ => True) (.slice Ao53 t1088.length co53) t1088) ∧ Aside0 (Kd.R (Kd.int .i64) 3 wc w.heap.size (fun _ => True) (.slice Ao54 t1091.length co54) t1091) ∧ Aside0 (Kd.R Kd.string 9 wc w.heap.size (fun k_ => some k_ ≠ ((.slice Ao45 t1081.length co45) : Value).ownBlock ∧ some k_ ≠ ((.slice Ao57 t1094.length co57) : Value).ownBlock) (.slice Ao38 t1074.length co38) t1074) ∧ Aside0 (Kd.R k75 75 wc w.heap.size (fun k_ => some k_ ≠ ((.slice Ao49 t1084.length co49) : Value).ownBlock ∧ some k_ ≠ ((.slice Ao62 t1097.length co62) : Value).ownBlock) (.slice Ao41 t1077.length co41) t1077) ∧ Aside0 (Kd.R Kd.string 9 wc w.heap.size (fun k_ => some k_ ≠ ((.slice Ao38 t1074.length co38) : Value).ownBlock ∧ some k_ ≠ ((.slice Ao57 t1094.length co57) : Value).ownBlock) (.slice Ao45 t1081.length co45) t1081) ∧ Aside0 (Kd.R k75 75 wc w.heap.size (fun k_ => some k_ ≠ ((.slice Ao41 t1077.length co41) : Value).ownBlock ∧ some k_ ≠ ((.slice Ao62 t1097.length co62) : Value).ownBlock) (.slice Ao49 t1084.length co49) t1084) ∧ Aside0 (Kd.R Kd.string 9 wc w.heap.size (fun k_ => some k_ ≠ ((.slice Ao38 t1074.length co38) : Value).ownBlock ∧ some k_ ≠ ((.slice Ao45 t1081.length co45) : Value).ownBlock) (.slice Ao57 t1094.length co57) t1094) ∧ Aside0 (Kd.R k75 75 wc w.heap.size (fun k_ => some k_ ≠ ((.slice Ao41 t1077.length co41) : Value).ownBlock ∧ some k_ ≠ ((.slice Ao49 t1084.length co49) : Value).ownBlock) (.slice Ao62 t1097.length co62) t1097) ∧ Aside0 (wc.heap[gb1059]? = some (.cells #[(.slice A0_0 l0_0.length c0_0), (.slice A0_1 l0_1.length c0_1)] 25 (0, 0))) ∧ Aside0 (wc.heap[gb1080]? = some (.cells #[(.slice Ao38 t1074.length co38), (.slice Ao41 t1077.length co41)] 31 (0, 0))) ∧ Aside0 (wc.heap[gb1087]? = some (.cells #[(.slice Ao45 t1081.length co45), (.slice Ao49 t1084.length co49)] 31 (0, 0))) ∧ Aside0 (wc.heap[gb1100]? = some (.cells #[(.slice Ao57 t1094.length co57), (.slice Ao62 t1097.length co62)] 31 (0, 0))) ∧ Aside0 (Below w.heap.size w wc))
             case first =>
              have H := HC84.out
              clear HC84
              by_cases c87 : t1116 = true
              ·subst c87
               have H1 : (laws_FnExactWalDo.j6 kj76 l1 a2 a3 l4 t1088 t1091 l0_0 l0_1 t1074 t1077 t1081 t1084 t1094 t1097) = some r := by rw [if_pos rfl] at H; exact H
               clear H
               have H := H1
               clear H1
               have H' := Aside0.mk H
               clear H
               go_wp2
               go_meet
               case rel => exact ⟨_, H', ⟨by have := HJ5.out; have := HJ9.out; have := HJ14.out; have := HJ26.out; have := HJ67.out; have := HJ76.out; first | omega | exact Nat.le_refl _⟩, ⟨pR HO_14.out⟩, ⟨pR (Kd.R_mono HO_15.out (fun _ hk => trivial))⟩, ⟨pR HO_1081000.out⟩, ⟨pR HO_1081001.out⟩, ⟨pR HO_1088000.out⟩, ⟨pR HO_1088001.out⟩, ⟨pR HO_1101000.out⟩, ⟨pR HO_1101001.out⟩, ⟨pK BK1059.out⟩, ⟨pK BK1080.out⟩, ⟨pK BK1087.out⟩, ⟨pK BK1100.out⟩, ⟨pS HB.out⟩⟩
              ·replace c87 := Bool.eq_false_iff.mpr c87
               subst c87
               have H1 : (some false) = some r := by rw [if_neg (show ¬ (false = true) by decide)] at H; exact H
               clear H
               have H := H1
               clear H1
               obtain rfl := Option.some.inj H
               go_wp2
               go_ret
               exact ⟨by first | rfl | (simp [errW_none, errW_some] <;> rfl) | (simp [*, errW_none, errW_some] <;> rfl), pS HB.out⟩
             case rest =>
              clear HC84
              try clear c1
              try clear c2
              try clear p2
              try clear c3
              try clear c4
              try clear c5
              try clear c6
              try clear c7
              try clear c8
              try clear c8b0
              try clear c8b1
              try clear c11
              try clear c13
              try clear c13b0
              try clear c16
              try clear c17
              try clear c17b0
              try clear c22
              try clear c30
              try clear c32
              try clear c33
              try clear c34
              try clear c35
              try clear c36
              try clear c39
              try clear c46
              try clear c47
              try clear c58
              try clear c59
              try clear c60
              try clear c65
              try clear c74
              try clear c81
              try clear c87
              try clear hcz11_0
              try clear hcz11_1
              try clear hcz28_0
              try clear hcz28_1
              try clear hcz40_0
              try clear hcz40_1
              try clear hcz42_0
              try clear hcz42_1
              try clear hcz48_0
              try clear hcz48_1
              try clear hcz52_0
              try clear hcz52_1
              try clear hcz61_0
              try clear hcz61_1
              try clear hcz63_0
              try clear hcz63_1
              try clear hfz11_0
              try clear hfz11_1
              try clear hfz28_0
              try clear hfz28_1
              try clear hfz40_0
              try clear hfz40_1
              try clear hfz42_0
              try clear hfz42_1
              try clear hfz48_0
              try clear hfz48_1
              try clear hfz52_0
              try clear hfz52_1
              try clear hfz61_0
              try clear hfz61_1
              try clear hfz63_0
              try clear hfz63_1
              try clear p2
              obtain ⟨kq, HA, HJ83, HO_14, HO_15, HO_1081000, HO_1081001, HO_1088000, HO_1088001, HO_1101000, HO_1101001, BK1059, BK1080, BK1087, BK1100, HB⟩ := hcut
              cases kq with
              | zero => exact absurd HA.out (by simp [laws_FnExactWalDo.j6])
              | succ kj83 =>
               have H := HA.out
               clear HA
               simp only [laws_FnExactWalDo.j6] at H
               replace H := Option.bind_eq_some_iff.mp H
               obtain ⟨⟨t1117, t1118, t1119⟩, A880, H⟩ := H
               replace H : ((laws_markSecStepS.f kj83 t1088 t1117).bind fun bt1120 => ((laws_markIntS.f kj83 t1091 bt1120.1).bind fun bt1122 => (if bt1122.1 < 0 then (laws_FnExactWalDo.j7 kj83 l1 a2 a3 l4 true l0_0 l0_1 t1074 t1077 t1094 t1097) else ((laws_eqSecDisk.f kj83 t1094 t1097 t1074 t1077).bind fun t1124 => (laws_FnExactWalDo.j7 kj83 l1 a2 a3 l4 (!t1124) l0_0 l0_1 t1074 t1077 t1094 t1097))))) = some r := H
               have A88 := Aside0.mk A880
               clear A880
               replace H := Option.bind_eq_some_iff.mp H
               obtain ⟨⟨t1120, t1121⟩, A890, H⟩ := H
               replace H : ((laws_markIntS.f kj83 t1091 t1120).bind fun bt1122 => (if bt1122.1 < 0 then (laws_FnExactWalDo.j7 kj83 l1 a2 a3 l4 true l0_0 l0_1 t1074 t1077 t1094 t1097) else ((laws_eqSecDisk.f kj83 t1094 t1097 t1074 t1077).bind fun t1124 => (laws_FnExactWalDo.j7 kj83 l1 a2 a3 l4 (!t1124) l0_0 l0_1 t1074 t1077 t1094 t1097)))) = some r := H
               have A89 := Aside0.mk A890
               clear A890
               replace H := Option.bind_eq_some_iff.mp H
               obtain ⟨⟨t1122, t1123⟩, A900, H⟩ := H
               replace H : (if t1122 < 0 then (laws_FnExactWalDo.j7 kj83 l1 a2 a3 l4 true l0_0 l0_1 t1074 t1077 t1094 t1097) else ((laws_eqSecDisk.f kj83 t1094 t1097 t1074 t1077).bind fun t1124 => (laws_FnExactWalDo.j7 kj83 l1 a2 a3 l4 (!t1124) l0_0 l0_1 t1074 t1077 t1094 t1097))) = some r := H
               have A90 := Aside0.mk A900
               clear A900
               have HC91 := Aside0.mk H
               clear H
               have hnb92 := NB1087_1059.out
               have hnc92 := NB1059_1087.out
               have hnb93 := NB1087_1080.out
               have hnc93 := NB1080_1087.out
               have hnb94 := NB1087_1100.out
               have hnc94 := NB1100_1087.out
               have hcz95_0 : wc.cell? ⟨gb1087, 0, none⟩ = some (.slice Ao45 t1081.length co45) := (blk_cell BK1087.out 0).trans rfl
               have hcz95_1 : wc.cell? ⟨gb1087, 1, none⟩ = some (.slice Ao49 t1084.length co49) := (blk_cell BK1087.out 1).trans rfl
               have hfz95_0 := blk_frozen BK1087.out 0
               have hfz95_1 := blk_frozen BK1087.out 1
               go_upto_region 27 with (first | ((with_reducible refine gate_callee (f := 17) rfl ?_); refine goesL_ (some 76) rfl rfl Try.func17 (by kernel_rfl) rfl #[.agg #[.slice Ao45 t1081.length co45, .slice Ao49 t1084.length co49], .int .i64 1] rfl bM ?_; (with_reducible refine (laws_markSecDisk.calls kj83 (fun k_ => some k_ = (.slice Ao45 t1081.length co45 : Value).ownBlock) (.slice Ao45 t1081.length co45) t1081 (fun k_ => some k_ = (.slice Ao49 t1084.length co49 : Value).ownBlock) (.slice Ao49 t1084.length co49) t1084 1 t1117 t1118 t1119 w _ ?side1 ?side2 ?side3 A88.out).mono ?_); (case side1 => repeat (first | (with_reducible first | exact HB.out | apply below_alloc | apply pw_below_drewN | apply below_drew1 | refine below_set ?_ GE1059.out | refine below_set ?_ GE1080.out | refine below_set ?_ GE1087.out | refine below_set ?_ GE1100.out) | exact HB.out)); (case side2 => exact Kd.R_tight rfl HO_1088000.out); (case side3 => exact Kd.R_tight rfl HO_1088001.out); rintro e w96 ⟨rfl, hy0, hy1, hb, hkp⟩; refine ⟨_, rfl, ?_⟩; have n0_ := Aside0.mk (Kd.R_mono (ok' := fun k_ => True) (Kd.R_keptB ((Kd.R_apart' (Kd.R_apart' HO_14.out (Kd.R_typed HO_1088000.out) (by decide)) (Kd.R_typed HO_1088001.out) (by decide))) hkp (fun k_ hk_ hs_ => Or.elim hs_ (fun e_ => (hk_.1.2) e_) (fun e_ => (hk_.2) e_))) (fun k_ hk_ => trivial)); have n1_ := Aside0.mk (Kd.R_mono (ok' := fun k_ => True) (Kd.R_keptB ((Kd.R_apart' (Kd.R_apart' HO_15.out (Kd.R_typed HO_1088000.out) (by decide)) (Kd.R_typed HO_1088001.out) (by decide))) hkp (fun k_ hk_ hs_ => Or.elim hs_ (fun e_ => (hk_.1.2) e_) (fun e_ => (hk_.2) e_))) (fun k_ hk_ => trivial)); have n2_ := Aside0.mk (Kd.R_mono (ok' := fun k_ => some k_ ≠ (.slice Ao45 t1081.length co45 : Value).ownBlock ∧ some k_ ≠ (.slice Ao57 t1094.length co57 : Value).ownBlock) (Kd.R_keptB ((Kd.R_apart' HO_1081000.out (Kd.R_typed HO_1088001.out) (by decide))) hkp (fun k_ hk_ hs_ => Or.elim hs_ (fun e_ => (hk_.1.1) e_) (fun e_ => (hk_.2) e_))) (fun k_ hk_ => ⟨hk_.1.1.1, hk_.1.1.2⟩)); have n3_ := Aside0.mk (Kd.R_mono (ok' := fun k_ => some k_ ≠ (.slice Ao49 t1084.length co49 : Value).ownBlock ∧ some k_ ≠ (.slice Ao62 t1097.length co62 : Value).ownBlock) (Kd.R_keptB ((Kd.R_apart' HO_1081001.out (Kd.R_typed HO_1088000.out) (by decide))) hkp (fun k_ hk_ hs_ => Or.elim hs_ (fun e_ => (hk_.2) e_) (fun e_ => (hk_.1.1) e_))) (fun k_ hk_ => ⟨hk_.1.1.1, hk_.1.1.2⟩)); have n4_ := Aside0.mk (Kd.R_reok rfl hy0 (fun k_ e_ => HO_1088000.out.1 k_ e_)); have n5_ := Aside0.mk (Kd.R_reok rfl hy1 (fun k_ e_ => HO_1088001.out.1 k_ e_)); have n6_ := Aside0.mk (Kd.R_mono (ok' := fun k_ => some k_ ≠ (.slice Ao38 t1074.length co38 : Value).ownBlock ∧ some k_ ≠ (.slice Ao45 t1081.length co45 : Value).ownBlock) (Kd.R_keptB ((Kd.R_apart' HO_1101000.out (Kd.R_typed HO_1088001.out) (by decide))) hkp (fun k_ hk_ hs_ => Or.elim hs_ (fun e_ => (hk_.1.2) e_) (fun e_ => (hk_.2) e_))) (fun k_ hk_ => ⟨hk_.1.1.1, hk_.1.1.2⟩)); have n7_ := Aside0.mk (Kd.R_mono (ok' := fun k_ => some k_ ≠ (.slice Ao41 t1077.length co41 : Value).ownBlock ∧ some k_ ≠ (.slice Ao49 t1084.length co49 : Value).ownBlock) (Kd.R_keptB ((Kd.R_apart' HO_1101001.out (Kd.R_typed HO_1088000.out) (by decide))) hkp (fun k_ hk_ hs_ => Or.elim hs_ (fun e_ => (hk_.2) e_) (fun e_ => (hk_.1.2) e_))) (fun k_ hk_ => ⟨hk_.1.1.1, hk_.1.1.2⟩)); have n8_ := Aside0.mk (blk_kept (pK BK1059.out) hkp (fun hs_ => Or.elim hs_ (fun e_ => (fun e_ => (Kd.R_ne HO_1088000.out BK1059.out (by decide)) e_) e_) (fun e_ => (fun e_ => (Kd.R_ne HO_1088001.out BK1059.out (by decide)) e_) e_))); have n9_ := Aside0.mk (blk_kept (pK BK1080.out) hkp (fun hs_ => Or.elim hs_ (fun e_ => (fun e_ => (Kd.R_ne HO_1088000.out BK1080.out (by decide)) e_) e_) (fun e_ => (fun e_ => (Kd.R_ne HO_1088001.out BK1080.out (by decide)) e_) e_))); have n10_ := Aside0.mk (blk_kept (pK BK1087.out) hkp (fun hs_ => Or.elim hs_ (fun e_ => (fun e_ => (Kd.R_ne HO_1088000.out BK1087.out (by decide)) e_) e_) (fun e_ => (fun e_ => (Kd.R_ne HO_1088001.out BK1087.out (by decide)) e_) e_))); have n11_ := Aside0.mk (blk_kept (pK BK1100.out) hkp (fun hs_ => Or.elim hs_ (fun e_ => (fun e_ => (Kd.R_ne HO_1088000.out BK1100.out (by decide)) e_) e_) (fun e_ => (fun e_ => (Kd.R_ne HO_1088001.out BK1100.out (by decide)) e_) e_))); have n12_ := Aside0.mk (hb); clear HO_14; clear HO_15; clear HO_1081000; clear HO_1081001; clear HO_1088000; clear HO_1088001; clear HO_1101000; clear HO_1101001; clear BK1059; clear BK1080; clear BK1087; clear BK1100; clear HB; have HO_14 := n0_; have HO_15 := n1_; have HO_1081000 := n2_; have HO_1081001 := n3_; have HO_1088000 := n4_; have HO_1088001 := n5_; have HO_1101000 := n6_; have HO_1101001 := n7_; have BK1059 := n8_; have BK1080 := n9_; have BK1087 := n10_; have BK1100 := n11_; have HB := n12_; clear n0_ n1_ n2_ n3_ n4_ n5_ n6_ n7_ n8_ n9_ n10_ n11_ n12_; (try clear hb); (try clear hkp); (try clear hy0); (try clear hy1)) | ((with_reducible refine gate_callee (f := 23) rfl ?_); refine goesL_ (some 79) rfl rfl Try.func23 (by kernel_rfl) rfl #[.slice Ao53 t1088.length co53, .int .i64 t1117] rfl bM ?_; (with_reducible refine (laws_markSecStepS.calls kj83 (fun k_ => some k_ = (.slice Ao53 t1088.length co53 : Value).ownBlock) (.slice Ao53 t1088.length co53) t1088 t1117 t1120 t1121 w _ ?side1 ?side2 A89.out).mono ?_); (case side1 => repeat (first | (with_reducible first | exact HB.out | apply below_alloc | apply pw_below_drewN | apply below_drew1 | refine below_set ?_ GE1059.out | refine below_set ?_ GE1080.out | refine below_set ?_ GE1087.out | refine below_set ?_ GE1100.out) | exact HB.out)); (case side2 => exact Kd.R_tight rfl HO_14.out); rintro e w97 ⟨rfl, hy0, hb, hkp⟩; refine ⟨_, rfl, ?_⟩; have n0_ := Aside0.mk (Kd.R_reok rfl hy0 (fun k_ e_ => HO_14.out.1 k_ e_)); have n1_ := Aside0.mk (Kd.R_mono (ok' := fun k_ => True) (Kd.R_keptB ((Kd.R_apart' HO_15.out (Kd.R_typed HO_14.out) (by decide))) hkp (fun k_ hk_ hs_ => (hk_.2) hs_)) (fun k_ hk_ => trivial)); have n2_ := Aside0.mk (Kd.R_mono (ok' := fun k_ => some k_ ≠ (.slice Ao45 t1081.length co45 : Value).ownBlock ∧ some k_ ≠ (.slice Ao57 t1094.length co57 : Value).ownBlock) (Kd.R_keptB ((Kd.R_apart' HO_1081000.out (Kd.R_typed HO_14.out) (by decide))) hkp (fun k_ hk_ hs_ => (hk_.2) hs_)) (fun k_ hk_ => ⟨hk_.1.1.1, hk_.1.1.2⟩)); have n3_ := Aside0.mk (Kd.R_mono (ok' := fun k_ => some k_ ≠ (.slice Ao49 t1084.length co49 : Value).ownBlock ∧ some k_ ≠ (.slice Ao62 t1097.length co62 : Value).ownBlock) (Kd.R_keptB ((Kd.R_apart' HO_1081001.out (Kd.R_typed HO_14.out) (by decide))) hkp (fun k_ hk_ hs_ => (hk_.2) hs_)) (fun k_ hk_ => ⟨hk_.1.1.1, hk_.1.1.2⟩)); have n4_ := Aside0.mk (Kd.R_mono (ok' := fun k_ => some k_ ≠ (.slice Ao38 t1074.length co38 : Value).ownBlock ∧ some k_ ≠ (.slice Ao57 t1094.length co57 : Value).ownBlock) (Kd.R_keptB ((Kd.R_apart' HO_1088000.out (Kd.R_typed HO_14.out) (by decide))) hkp (fun k_ hk_ hs_ => (hk_.2) hs_)) (fun k_ hk_ => ⟨hk_.1.1.1, hk_.1.1.2⟩)); have n5_ := Aside0.mk (Kd.R_mono (ok' := fun k_ => some k_ ≠ (.slice Ao41 t1077.length co41 : Value).ownBlock ∧ some k_ ≠ (.slice Ao62 t1097.length co62 : Value).ownBlock) (Kd.R_keptB ((Kd.R_apart' HO_1088001.out (Kd.R_typed HO_14.out) (by decide))) hkp (fun k_ hk_ hs_ => (hk_.2) hs_)) (fun k_ hk_ => ⟨hk_.1.1.1, hk_.1.1.2⟩)); have n6_ := Aside0.mk (Kd.R_mono (ok' := fun k_ => some k_ ≠ (.slice Ao38 t1074.length co38 : Value).ownBlock ∧ some k_ ≠ (.slice Ao45 t1081.length co45 : Value).ownBlock) (Kd.R_keptB ((Kd.R_apart' HO_1101000.out (Kd.R_typed HO_14.out) (by decide))) hkp (fun k_ hk_ hs_ => (hk_.2) hs_)) (fun k_ hk_ => ⟨hk_.1.1.1, hk_.1.1.2⟩)); have n7_ := Aside0.mk (Kd.R_mono (ok' := fun k_ => some k_ ≠ (.slice Ao41 t1077.length co41 : Value).ownBlock ∧ some k_ ≠ (.slice Ao49 t1084.length co49 : Value).ownBlock) (Kd.R_keptB ((Kd.R_apart' HO_1101001.out (Kd.R_typed HO_14.out) (by decide))) hkp (fun k_ hk_ hs_ => (hk_.2) hs_)) (fun k_ hk_ => ⟨hk_.1.1.1, hk_.1.1.2⟩)); have n8_ := Aside0.mk (blk_kept (pK BK1059.out) hkp (fun hs_ => (fun e_ => (Kd.R_ne HO_14.out BK1059.out (by decide)) e_) hs_)); have n9_ := Aside0.mk (blk_kept (pK BK1080.out) hkp (fun hs_ => (fun e_ => (Kd.R_ne HO_14.out BK1080.out (by decide)) e_) hs_)); have n10_ := Aside0.mk (blk_kept (pK BK1087.out) hkp (fun hs_ => (fun e_ => (Kd.R_ne HO_14.out BK1087.out (by decide)) e_) hs_)); have n11_ := Aside0.mk (blk_kept (pK BK1100.out) hkp (fun hs_ => (fun e_ => (Kd.R_ne HO_14.out BK1100.out (by decide)) e_) hs_)); have n12_ := Aside0.mk (hb); clear HO_14; clear HO_15; clear HO_1081000; clear HO_1081001; clear HO_1088000; clear HO_1088001; clear HO_1101000; clear HO_1101001; clear BK1059; clear BK1080; clear BK1087; clear BK1100; clear HB; have HO_14 := n0_; have HO_15 := n1_; have HO_1081000 := n2_; have HO_1081001 := n3_; have HO_1088000 := n4_; have HO_1088001 := n5_; have HO_1101000 := n6_; have HO_1101001 := n7_; have BK1059 := n8_; have BK1080 := n9_; have BK1087 := n10_; have BK1100 := n11_; have HB := n12_; clear n0_ n1_ n2_ n3_ n4_ n5_ n6_ n7_ n8_ n9_ n10_ n11_ n12_; (try clear hb); (try clear hkp); (try clear hy0)) | ((with_reducible refine gate_callee (f := 37) rfl ?_); refine goesL_ (some 82) rfl rfl Try.func37 (by kernel_rfl) rfl #[.slice Ao54 t1091.length co54, .int .i64 t1120] rfl bM ?_; (with_reducible refine (laws_markIntS.calls kj83 (fun k_ => some k_ = (.slice Ao54 t1091.length co54 : Value).ownBlock) (.slice Ao54 t1091.length co54) t1091 t1120 t1122 t1123 w _ ?side1 ?side2 A90.out).mono ?_); (case side1 => repeat (first | (with_reducible first | exact HB.out | apply below_alloc | apply pw_below_drewN | apply below_drew1 | refine below_set ?_ GE1059.out | refine below_set ?_ GE1080.out | refine below_set ?_ GE1087.out | refine below_set ?_ GE1100.out) | exact HB.out)); (case side2 => exact Kd.R_tight rfl HO_15.out); rintro e w98 ⟨rfl, hy0, hb, hkp⟩; refine ⟨_, rfl, ?_⟩; have n0_ := Aside0.mk (Kd.R_mono (ok' := fun k_ => True) (Kd.R_keptB ((Kd.R_apart' HO_14.out (Kd.R_typed HO_15.out) (by decide))) hkp (fun k_ hk_ hs_ => (hk_.2) hs_)) (fun k_ hk_ => trivial)); have n1_ := Aside0.mk (Kd.R_reok rfl hy0 (fun k_ e_ => HO_15.out.1 k_ e_)); have n2_ := Aside0.mk (Kd.R_mono (ok' := fun k_ => some k_ ≠ (.slice Ao45 t1081.length co45 : Value).ownBlock ∧ some k_ ≠ (.slice Ao57 t1094.length co57 : Value).ownBlock) (Kd.R_keptB ((Kd.R_apart' HO_1081000.out (Kd.R_typed HO_15.out) (by decide))) hkp (fun k_ hk_ hs_ => (hk_.2) hs_)) (fun k_ hk_ => ⟨hk_.1.1.1, hk_.1.1.2⟩)); have n3_ := Aside0.mk (Kd.R_mono (ok' := fun k_ => some k_ ≠ (.slice Ao49 t1084.length co49 : Value).ownBlock ∧ some k_ ≠ (.slice Ao62 t1097.length co62 : Value).ownBlock) (Kd.R_keptB ((Kd.R_apart' HO_1081001.out (Kd.R_typed HO_15.out) (by decide))) hkp (fun k_ hk_ hs_ => (hk_.2) hs_)) (fun k_ hk_ => ⟨hk_.1.1.1, hk_.1.1.2⟩)); have n4_ := Aside0.mk (Kd.R_mono (ok' := fun k_ => some k_ ≠ (.slice Ao38 t1074.length co38 : Value).ownBlock ∧ some k_ ≠ (.slice Ao57 t1094.length co57 : Value).ownBlock) (Kd.R_keptB ((Kd.R_apart' HO_1088000.out (Kd.R_typed HO_15.out) (by decide))) hkp (fun k_ hk_ hs_ => (hk_.2) hs_)) (fun k_ hk_ => ⟨hk_.1.1.1, hk_.1.1.2⟩)); have n5_ := Aside0.mk (Kd.R_mono (ok' := fun k_ => some k_ ≠ (.slice Ao41 t1077.length co41 : Value).ownBlock ∧ some k_ ≠ (.slice Ao62 t1097.length co62 : Value).ownBlock) (Kd.R_keptB ((Kd.R_apart' HO_1088001.out (Kd.R_typed HO_15.out) (by decide))) hkp (fun k_ hk_ hs_ => (hk_.2) hs_)) (fun k_ hk_ => ⟨hk_.1.1.1, hk_.1.1.2⟩)); have n6_ := Aside0.mk (Kd.R_mono (ok' := fun k_ => some k_ ≠ (.slice Ao38 t1074.length co38 : Value).ownBlock ∧ some k_ ≠ (.slice Ao45 t1081.length co45 : Value).ownBlock) (Kd.R_keptB ((Kd.R_apart' HO_1101000.out (Kd.R_typed HO_15.out) (by decide))) hkp (fun k_ hk_ hs_ => (hk_.2) hs_)) (fun k_ hk_ => ⟨hk_.1.1.1, hk_.1.1.2⟩)); have n7_ := Aside0.mk (Kd.R_mono (ok' := fun k_ => some k_ ≠ (.slice Ao41 t1077.length co41 : Value).ownBlock ∧ some k_ ≠ (.slice Ao49 t1084.length co49 : Value).ownBlock) (Kd.R_keptB ((Kd.R_apart' HO_1101001.out (Kd.R_typed HO_15.out) (by decide))) hkp (fun k_ hk_ hs_ => (hk_.2) hs_)) (fun k_ hk_ => ⟨hk_.1.1.1, hk_.1.1.2⟩)); have n8_ := Aside0.mk (blk_kept (pK BK1059.out) hkp (fun hs_ => (fun e_ => (Kd.R_ne HO_15.out BK1059.out (by decide)) e_) hs_)); have n9_ := Aside0.mk (blk_kept (pK BK1080.out) hkp (fun hs_ => (fun e_ => (Kd.R_ne HO_15.out BK1080.out (by decide)) e_) hs_)); have n10_ := Aside0.mk (blk_kept (pK BK1087.out) hkp (fun hs_ => (fun e_ => (Kd.R_ne HO_15.out BK1087.out (by decide)) e_) hs_)); have n11_ := Aside0.mk (blk_kept (pK BK1100.out) hkp (fun hs_ => (fun e_ => (Kd.R_ne HO_15.out BK1100.out (by decide)) e_) hs_)); have n12_ := Aside0.mk (hb); clear HO_14; clear HO_15; clear HO_1081000; clear HO_1081001; clear HO_1088000; clear HO_1088001; clear HO_1101000; clear HO_1101001; clear BK1059; clear BK1080; clear BK1087; clear BK1100; clear HB; have HO_14 := n0_; have HO_15 := n1_; have HO_1081000 := n2_; have HO_1081001 := n3_; have HO_1088000 := n4_; have HO_1088001 := n5_; have HO_1101000 := n6_; have HO_1101001 := n7_; have BK1059 := n8_; have BK1080 := n9_; have BK1087 := n10_; have BK1100 := n11_; have HB := n12_; clear n0_ n1_ n2_ n3_ n4_ n5_ n6_ n7_ n8_ n9_ n10_ n11_ n12_; (try clear hb); (try clear hkp); (try clear hy0)))
               (try simp only [Act.put, List.setIfInBounds_toArray, List.set_cons_zero, List.set_cons_succ])
               go_cut [90] (fun v90 wc => ∃ (kq : Nat) (x90_90 : Bool), v90 = .bool x90_90 ∧ Aside0 (laws_FnExactWalDo.j7 kq l1 a2 a3 l4 x90_90 l0_0 l0_1 t1074 t1077 t1094 t1097 = some r) ∧ Aside0 (kq ≤ kj83) ∧ Aside0 (Kd.R Kd.string 9 wc w.heap.size (fun k_ => some k_ ≠ ((.slice Ao45 t1081.length co45) : Value).ownBlock ∧ some k_ ≠ ((.slice Ao57 t1094.length co57) : Value).ownBlock) (.slice Ao38 t1074.length co38) t1074) ∧ Aside0 (Kd.R k75 75 wc w.heap.size (fun k_ => some k_ ≠ ((.slice Ao49 t1084.length co49) : Value).ownBlock ∧ some k_ ≠ ((.slice Ao62 t1097.length co62) : Value).ownBlock) (.slice Ao41 t1077.length co41) t1077) ∧ Aside0 (Kd.R Kd.string 9 wc w.heap.size (fun k_ => some k_ ≠ ((.slice Ao38 t1074.length co38) : Value).ownBlock ∧ some k_ ≠ ((.slice Ao57 t1094.length co57) : Value).ownBlock) (.slice Ao45 t1081.length co45) t1118) ∧ Aside0 (Kd.R k75 75 wc w.heap.size (fun k_ => some k_ ≠ ((.slice Ao41 t1077.length co41) : Value).ownBlock ∧ some k_ ≠ ((.slice Ao62 t1097.length co62) : Value).ownBlock) (.slice Ao49 t1084.length co49) t1119) ∧ Aside0 (Kd.R Kd.string 9 wc w.heap.size (fun k_ => some k_ ≠ ((.slice Ao38 t1074.length co38) : Value).ownBlock ∧ some k_ ≠ ((.slice Ao45 t1081.length co45) : Value).ownBlock) (.slice Ao57 t1094.length co57) t1094) ∧ Aside0 (Kd.R k75 75 wc w.heap.size (fun k_ => some k_ ≠ ((.slice Ao41 t1077.length co41) : Value).ownBlock ∧ some k_ ≠ ((.slice Ao49 t1084.length co49) : Value).ownBlock) (.slice Ao62 t1097.length co62) t1097) ∧ Aside0 (wc.heap[gb1059]? = some (.cells #[(.slice A0_0 l0_0.length c0_0), (.slice A0_1 l0_1.length c0_1)] 25 (0, 0))) ∧ Aside0 (wc.heap[gb1080]? = some (.cells #[(.slice Ao38 t1074.length co38), (.slice Ao41 t1077.length co41)] 31 (0, 0))) ∧ Aside0 (wc.heap[gb1087]? = some (.cells #[(.slice Ao45 t1081.length co45), (.slice Ao49 t1084.length co49)] 31 (0, 0))) ∧ Aside0 (wc.heap[gb1100]? = some (.cells #[(.slice Ao57 t1094.length co57), (.slice Ao62 t1097.length co62)] 31 (0, 0))) ∧ Aside0 (Below w.heap.size w wc))
               case first =>
                have H := HC91.out
                clear HC91
                by_cases c99 : t1122 < 0
                ·rw [if_pos c99] at H
                 have c99b0 : decide (t1122 < 0) = true := decide_eq_true c99
                 clear c99
                 (first | rw [c99b0] | (simp only [i64_w, i32_w]; rw [c99b0]) | skip)
                 have H' := Aside0.mk H
                 clear H
                 go_wp2
                 go_meet
                 case rel => exact ⟨_, (true), (by first | rfl | (simp; done) | (simp [*]; done)), H', ⟨by have := HJ5.out; have := HJ9.out; have := HJ14.out; have := HJ26.out; have := HJ67.out; have := HJ76.out; have := HJ83.out; first | omega | exact Nat.le_refl _⟩, ⟨pR HO_1081000.out⟩, ⟨pR HO_1081001.out⟩, ⟨pR HO_1088000.out⟩, ⟨pR HO_1088001.out⟩, ⟨pR HO_1101000.out⟩, ⟨pR HO_1101001.out⟩, ⟨pK BK1059.out⟩, ⟨pK BK1080.out⟩, ⟨pK BK1087.out⟩, ⟨pK BK1100.out⟩, ⟨pS HB.out⟩⟩
                ·rw [if_neg c99] at H
                 have c99b0 : decide (t1122 < 0) = false := decide_eq_false c99
                 clear c99
                 (first | rw [c99b0] | (simp only [i64_w, i32_w]; rw [c99b0]) | skip)
                 replace H := Option.bind_eq_some_iff.mp H
                 obtain ⟨t1124, A1000, H⟩ := H
                 replace H : (laws_FnExactWalDo.j7 kj83 l1 a2 a3 l4 (!t1124) l0_0 l0_1 t1074 t1077 t1094 t1097) = some r := H
                 have A100 := Aside0.mk A1000
                 clear A1000
                 have H' := Aside0.mk H
                 clear H
                 have hnb101 := NB1100_1059.out
                 have hnc101 := NB1059_1100.out
                 have hnb102 := NB1100_1080.out
                 have hnc102 := NB1080_1100.out
                 have hnb103 := NB1100_1087.out
                 have hnc103 := NB1087_1100.out
                 have hcz104_0 : w98.cell? ⟨gb1100, 0, none⟩ = some (.slice Ao57 t1094.length co57) := (blk_cell BK1100.out 0).trans rfl
                 have hcz104_1 : w98.cell? ⟨gb1100, 1, none⟩ = some (.slice Ao62 t1097.length co62) := (blk_cell BK1100.out 1).trans rfl
                 have hfz104_0 := blk_frozen BK1100.out 0
                 have hfz104_1 := blk_frozen BK1100.out 1
                 have hnb105 := NB1080_1059.out
                 have hnc105 := NB1059_1080.out
                 have hnb106 := NB1080_1087.out
                 have hnc106 := NB1087_1080.out
                 have hcz107_0 : w98.cell? ⟨gb1080, 0, none⟩ = some (.slice Ao38 t1074.length co38) := (blk_cell BK1080.out 0).trans rfl
                 have hcz107_1 : w98.cell? ⟨gb1080, 1, none⟩ = some (.slice Ao41 t1077.length co41) := (blk_cell BK1080.out 1).trans rfl
                 have hfz107_0 := blk_frozen BK1080.out 0
                 have hfz107_1 := blk_frozen BK1080.out 1
                 go_wp2_with (first | (go_at_call 16; (with_reducible refine (laws_eqSecDisk.calls kj83 _ _ t1094 _ _ t1097 _ _ t1074 _ _ t1077 t1124 _ ?side1 ?side2 ?side3 ?side4 ?side5 ?side6 ?side7 ?side8 A100.out).mono ?_); (case side1 => exact pC (Kd.R_reads' HO_1101000.out).2.2); (case side2 => exact (Kd.R_reads' HO_1101000.out).2.1); (case side3 => exact pC (Kd.R_reads' HO_1101001.out).2.2); (case side4 => exact (Kd.R_reads' HO_1101001.out).2.1); (case side5 => exact pC (Kd.R_reads' HO_1081000.out).2.2); (case side6 => exact (Kd.R_reads' HO_1081000.out).2.1); (case side7 => exact pC (Kd.R_reads' HO_1081001.out).2.2); (case side8 => exact (Kd.R_reads' HO_1081001.out).2.1); rintro e w108 ⟨rfl, hb⟩; have n0_ := Aside0.mk (Kd.R_below (pR HO_14.out) hb); have n1_ := Aside0.mk (Kd.R_below (pR HO_15.out) hb); have n2_ := Aside0.mk (Kd.R_below (pR HO_1081000.out) hb); have n3_ := Aside0.mk (Kd.R_below (pR HO_1081001.out) hb); have n4_ := Aside0.mk (Kd.R_below (pR HO_1088000.out) hb); have n5_ := Aside0.mk (Kd.R_below (pR HO_1088001.out) hb); have n6_ := Aside0.mk (Kd.R_below (pR HO_1101000.out) hb); have n7_ := Aside0.mk (Kd.R_below (pR HO_1101001.out) hb); have n8_ := Aside0.mk (blk_below (pK BK1059.out) hb); have n9_ := Aside0.mk (blk_below (pK BK1080.out) hb); have n10_ := Aside0.mk (blk_below (pK BK1087.out) hb); have n11_ := Aside0.mk (blk_below (pK BK1100.out) hb); have n12_ := Aside0.mk (below_step (pS HB.out) hb); clear HO_14; clear HO_15; clear HO_1081000; clear HO_1081001; clear HO_1088000; clear HO_1088001; clear HO_1101000; clear HO_1101001; clear BK1059; clear BK1080; clear BK1087; clear BK1100; clear HB; have HO_14 := n0_; have HO_15 := n1_; have HO_1081000 := n2_; have HO_1081001 := n3_; have HO_1088000 := n4_; have HO_1088001 := n5_; have HO_1101000 := n6_; have HO_1101001 := n7_; have BK1059 := n8_; have BK1080 := n9_; have BK1087 := n10_; have BK1100 := n11_; have HB := n12_; clear n0_ n1_ n2_ n3_ n4_ n5_ n6_ n7_ n8_ n9_ n10_ n11_ n12_; (try clear hb); (try clear hb2); (try clear hk); (try clear hi)))
                 go_meet
                 case rel => exact ⟨_, (!t1124), (by first | rfl | (simp; done) | (simp [*]; done)), H', ⟨by have := HJ5.out; have := HJ9.out; have := HJ14.out; have := HJ26.out; have := HJ67.out; have := HJ76.out; have := HJ83.out; first | omega | exact Nat.le_refl _⟩, ⟨pR HO_1081000.out⟩, ⟨pR HO_1081001.out⟩, ⟨pR HO_1088000.out⟩, ⟨pR HO_1088001.out⟩, ⟨pR HO_1101000.out⟩, ⟨pR HO_1101001.out⟩, ⟨pK BK1059.out⟩, ⟨pK BK1080.out⟩, ⟨pK BK1087.out⟩, ⟨pK BK1100.out⟩, ⟨pS HB.out⟩⟩
               case rest =>
                clear HC91
                try clear c1
                try clear c2
                try clear p2
                try clear c3
                try clear c4
                try clear c5
                try clear c6
                try clear c7
                try clear c8
                try clear c8b0
                try clear c8b1
                try clear c9
                try clear c10
                try clear c11
                try clear c13
                try clear c13b0
                try clear c16
                try clear c17
                try clear c17b0
                try clear c22
                try clear c23
                try clear c30
                try clear c32
                try clear c33
                try clear c34
                try clear c35
                try clear c36
                try clear c37
                try clear c39
                try clear c46
                try clear c47
                try clear c58
                try clear c59
                try clear c60
                try clear c65
                try clear c74
                try clear c81
                try clear c87
                try clear c92
                try clear c93
                try clear c94
                try clear c99
                try clear c99b0
                try clear c101
                try clear c102
                try clear c103
                try clear c105
                try clear c106
                try clear hcz104_0
                try clear hcz104_1
                try clear hcz107_0
                try clear hcz107_1
                try clear hcz11_0
                try clear hcz11_1
                try clear hcz28_0
                try clear hcz28_1
                try clear hcz40_0
                try clear hcz40_1
                try clear hcz42_0
                try clear hcz42_1
                try clear hcz48_0
                try clear hcz48_1
                try clear hcz52_0
                try clear hcz52_1
                try clear hcz61_0
                try clear hcz61_1
                try clear hcz63_0
                try clear hcz63_1
                try clear hcz95_0
                try clear hcz95_1
                try clear hfz104_0
                try clear hfz104_1
                try clear hfz107_0
                try clear hfz107_1
                try clear hfz11_0
                try clear hfz11_1
                try clear hfz28_0
                try clear hfz28_1
                try clear hfz40_0
                try clear hfz40_1
                try clear hfz42_0
                try clear hfz42_1
                try clear hfz48_0
                try clear hfz48_1
                try clear hfz52_0
                try clear hfz52_1
                try clear hfz61_0
                try clear hfz61_1
                try clear hfz63_0
                try clear hfz63_1
                try clear hfz95_0
                try clear hfz95_1
                try clear p2
                obtain ⟨kq, x90_90, rfl, HA, HJ90, HO_1081000, HO_1081001, HO_1088000, HO_1088001, HO_1101000, HO_1101001, BK1059, BK1080, BK1087, BK1100, HB⟩ := hcut
                have hl1088000_90 := (Kd.R_reads' HO_1088000.out).1
                rw [hl1088000_90] at HO_1088000
                (try simp only [hl1088000_90])
                (try simp only [hl1088000_90] at BK1059)
                (try simp only [hl1088000_90] at BK1080)
                (try simp only [hl1088000_90] at BK1087)
                (try simp only [hl1088000_90] at BK1100)
                (try simp only [hl1088000_90] at HO_1081000)
                (try simp only [hl1088000_90] at HO_1081001)
                (try simp only [hl1088000_90] at HO_1088001)
                (try simp only [hl1088000_90] at HO_1101000)
                (try simp only [hl1088000_90] at HO_1101001)
                have hl1088001_90 := (Kd.R_reads' HO_1088001.out).1
                rw [hl1088001_90] at HO_1088001
                (try simp only [hl1088001_90])
                (try simp only [hl1088001_90] at BK1059)
                (try simp only [hl1088001_90] at BK1080)
                (try simp only [hl1088001_90] at BK1087)
                (try simp only [hl1088001_90] at BK1100)
                (try simp only [hl1088001_90] at HO_1081000)
                (try simp only [hl1088001_90] at HO_1081001)
                (try simp only [hl1088001_90] at HO_1088000)
                (try simp only [hl1088001_90] at HO_1101000)
                (try simp only [hl1088001_90] at HO_1101001)
                cases kq with
                | zero => exact absurd HA.out (by simp [laws_FnExactWalDo.j7])
                | succ kj90 =>
                 have H := HA.out
                 clear HA
                 simp only [laws_FnExactWalDo.j7] at H
                 have HC109 := Aside0.mk H
                 clear H
                 go_upto_if 90 with (fail)
                 go_cut [] (fun wc => ∃ (kq : Nat), Aside0 (laws_FnExactWalDo.j8 kq l1 a2 a3 l4 l0_0 l0_1 t1074 t1077 t1094 t1097 = some r) ∧ Aside0 (kq ≤ kj90) ∧ Aside0 (Kd.R Kd.string 9 wc w.heap.size (fun k_ => some k_ ≠ ((.slice Ao45 t1118.length co45) : Value).ownBlock ∧ some k_ ≠ ((.slice Ao57 t1094.length co57) : Value).ownBlock) (.slice Ao38 t1074.length co38) t1074) ∧ Aside0 (Kd.R k75 75 wc w.heap.size (fun k_ => some k_ ≠ ((.slice Ao49 t1119.length co49) : Value).ownBlock ∧ some k_ ≠ ((.slice Ao62 t1097.length co62) : Value).ownBlock) (.slice Ao41 t1077.length co41) t1077) ∧ Aside0 (Kd.R Kd.string 9 wc w.heap.size (fun k_ => some k_ ≠ ((.slice Ao38 t1074.length co38) : Value).ownBlock ∧ some k_ ≠ ((.slice Ao57 t1094.length co57) : Value).ownBlock) (.slice Ao45 t1118.length co45) t1118) ∧ Aside0 (Kd.R k75 75 wc w.heap.size (fun k_ => some k_ ≠ ((.slice Ao41 t1077.length co41) : Value).ownBlock ∧ some k_ ≠ ((.slice Ao62 t1097.length co62) : Value).ownBlock) (.slice Ao49 t1119.length co49) t1119) ∧ Aside0 (Kd.R Kd.string 9 wc w.heap.size (fun k_ => some k_ ≠ ((.slice Ao38 t1074.length co38) : Value).ownBlock ∧ some k_ ≠ ((.slice Ao45 t1118.length co45) : Value).ownBlock) (.slice Ao57 t1094.length co57) t1094) ∧ Aside0 (Kd.R k75 75 wc w.heap.size (fun k_ => some k_ ≠ ((.slice Ao41 t1077.length co41) : Value).ownBlock ∧ some k_ ≠ ((.slice Ao49 t1119.length co49) : Value).ownBlock) (.slice Ao62 t1097.length co62) t1097) ∧ Aside0 (wc.heap[gb1059]? = some (.cells #[(.slice A0_0 l0_0.length c0_0), (.slice A0_1 l0_1.length c0_1)] 25 (0, 0))) ∧ Aside0 (wc.heap[gb1080]? = some (.cells #[(.slice Ao38 t1074.length co38), (.slice Ao41 t1077.length co41)] 31 (0, 0))) ∧ Aside0 (wc.heap[gb1087]? = some (.cells #[(.slice Ao45 t1118.length co45), (.slice Ao49 t1119.length co49)] 31 (0, 0))) ∧ Aside0 (wc.heap[gb1100]? = some (.cells #[(.slice Ao57 t1094.length co57), (.slice Ao62 t1097.length co62)] 31 (0, 0))) ∧ Aside0 (Below w.heap.size w wc))
                 case first =>
                  have H := HC109.out
                  clear HC109
                  by_cases c110 : x90_90 = true
                  ·subst c110
                   have H1 : (some false) = some r := by rw [if_pos rfl] at H; exact H
                   clear H
                   have H := H1
                   clear H1
                   obtain rfl := Option.some.inj H
                   go_wp2
                   go_ret
                   exact ⟨by first | rfl | (simp [errW_none, errW_some] <;> rfl) | (simp [*, errW_none, errW_some] <;> rfl), pS HB.out⟩
                  ·replace c110 := Bool.eq_false_iff.mpr c110
                   subst c110
                   have H1 : (laws_FnExactWalDo.j8 kj90 l1 a2 a3 l4 l0_0 l0_1 t1074 t1077 t1094 t1097) = some r := by rw [if_neg (show ¬ (false = true) by decide)] at H; exact H
                   clear H
                   have H := H1
                   clear H1
                   have H' := Aside0.mk H
                   clear H
                   go_wp2
                   go_meet
                   case rel => exact ⟨_, H', ⟨by have := HJ5.out; have := HJ9.out; have := HJ14.out; have := HJ26.out; have := HJ67.out; have := HJ76.out; have := HJ83.out; have := HJ90.out; first | omega | exact Nat.le_refl _⟩, ⟨by (try simp only [hl1088000_90]); (try simp only [hl1088001_90]); (with_reducible repeat (first | apply Kd.R_alloc | apply Kd.R_drewN | apply Kd.R_drew)); exact HO_1081000.out⟩, ⟨by (try simp only [hl1088000_90]); (try simp only [hl1088001_90]); (with_reducible repeat (first | apply Kd.R_alloc | apply Kd.R_drewN | apply Kd.R_drew)); exact HO_1081001.out⟩, ⟨by (try simp only [hl1088000_90]); (try simp only [hl1088001_90]); (with_reducible repeat (first | apply Kd.R_alloc | apply Kd.R_drewN | apply Kd.R_drew)); exact HO_1088000.out⟩, ⟨by (try simp only [hl1088000_90]); (try simp only [hl1088001_90]); (with_reducible repeat (first | apply Kd.R_alloc | apply Kd.R_drewN | apply Kd.R_drew)); exact HO_1088001.out⟩, ⟨by (try simp only [hl1088000_90]); (try simp only [hl1088001_90]); (with_reducible repeat (first | apply Kd.R_alloc | apply Kd.R_drewN | apply Kd.R_drew)); exact HO_1101000.out⟩, ⟨by (try simp only [hl1088000_90]); (try simp only [hl1088001_90]); (with_reducible repeat (first | apply Kd.R_alloc | apply Kd.R_drewN | apply Kd.R_drew)); exact HO_1101001.out⟩, ⟨by (try simp only [hl1088000_90]); (try simp only [hl1088001_90]); (with_reducible repeat (first | refine blk_drewN ?_ _ | refine blk_drew ?_ | refine blk_alloc ?_ _)); exact BK1059.out⟩, ⟨by (try simp only [hl1088000_90]); (try simp only [hl1088001_90]); (with_reducible repeat (first | refine blk_drewN ?_ _ | refine blk_drew ?_ | refine blk_alloc ?_ _)); exact BK1080.out⟩, ⟨by (try simp only [hl1088000_90]); (try simp only [hl1088001_90]); (with_reducible repeat (first | refine blk_drewN ?_ _ | refine blk_drew ?_ | refine blk_alloc ?_ _)); exact BK1087.out⟩, ⟨by (try simp only [hl1088000_90]); (try simp only [hl1088001_90]); (with_reducible repeat (first | refine blk_drewN ?_ _ | refine blk_drew ?_ | refine blk_alloc ?_ _)); exact BK1100.out⟩, ⟨pS HB.out⟩⟩
                 case rest =>
                  clear HC109
                  try clear c1
                  try clear c2
                  try clear p2
                  try clear c3
                  try clear c4
                  try clear c5
                  try clear c6
                  try clear c7
                  try clear c8
                  try clear c8b0
                  try clear c8b1
                  try clear c9
                  try clear c10
                  try clear c11
                  try clear c13
                  try clear c13b0
                  try clear c16
                  try clear c17
                  try clear c17b0
                  try clear c22
                  try clear c23
                  try clear c30
                  try clear c32
                  try clear c33
                  try clear c34
                  try clear c35
                  try clear c36
                  try clear c37
                  try clear c39
                  try clear c46
                  try clear c47
                  try clear c58
                  try clear c59
                  try clear c60
                  try clear c65
                  try clear c74
                  try clear c81
                  try clear c87
                  try clear c92
                  try clear c93
                  try clear c94
                  try clear c99
                  try clear c99b0
                  try clear c101
                  try clear c102
                  try clear c103
                  try clear c105
                  try clear c106
                  try clear c110
                  try clear hcz104_0
                  try clear hcz104_1
                  try clear hcz107_0
                  try clear hcz107_1
                  try clear hcz11_0
                  try clear hcz11_1
                  try clear hcz28_0
                  try clear hcz28_1
                  try clear hcz40_0
                  try clear hcz40_1
                  try clear hcz42_0
                  try clear hcz42_1
                  try clear hcz48_0
                  try clear hcz48_1
                  try clear hcz52_0
                  try clear hcz52_1
                  try clear hcz61_0
                  try clear hcz61_1
                  try clear hcz63_0
                  try clear hcz63_1
                  try clear hcz95_0
                  try clear hcz95_1
                  try clear hfz104_0
                  try clear hfz104_1
                  try clear hfz107_0
                  try clear hfz107_1
                  try clear hfz11_0
                  try clear hfz11_1
                  try clear hfz28_0
                  try clear hfz28_1
                  try clear hfz40_0
                  try clear hfz40_1
                  try clear hfz42_0
                  try clear hfz42_1
                  try clear hfz48_0
                  try clear hfz48_1
                  try clear hfz52_0
                  try clear hfz52_1
                  try clear hfz61_0
                  try clear hfz61_1
                  try clear hfz63_0
                  try clear hfz63_1
                  try clear hfz95_0
                  try clear hfz95_1
                  try clear p2
                  obtain ⟨kq, HA, HJ108, HO_1081000, HO_1081001, HO_1088000, HO_1088001, HO_1101000, HO_1101001, BK1059, BK1080, BK1087, BK1100, HB⟩ := hcut
                  cases kq with
                  | zero => exact absurd HA.out (by simp [laws_FnExactWalDo.j8])
                  | succ kj108 =>
                   have H := HA.out
                   clear HA
                   simp only [laws_FnExactWalDo.j8] at H
                   replace H := Option.bind_eq_some_iff.mp H
                   obtain ⟨⟨t1125, t1126, t1127⟩, A1110, H⟩ := H
                   replace H : ((laws_heldSecDisk.f kj108 t1126 t1127 1).bind fun t1128 => (if t1128 < 0 then (some false) else (laws_FnExactWalDo.j9 kj108 l1 a2 a3 l4 t1125 t1128 l0_0 l0_1 t1074 t1077 t1126 t1127))) = some r := H
                   have A111 := Aside0.mk A1110
                   clear A1110
                   replace H := Option.bind_eq_some_iff.mp H
                   obtain ⟨t1128, A1120, H⟩ := H
                   replace H : (if t1128 < 0 then (some false) else (laws_FnExactWalDo.j9 kj108 l1 a2 a3 l4 t1125 t1128 l0_0 l0_1 t1074 t1077 t1126 t1127)) = some r := H
                   have A112 := Aside0.mk A1120
                   clear A1120
                   have HC113 := Aside0.mk H
                   clear H
                   have hnb114 := NB1100_1059.out
                   have hnc114 := NB1059_1100.out
                   have hnb115 := NB1100_1080.out
                   have hnc115 := NB1080_1100.out
                   have hnb116 := NB1100_1087.out
                   have hnc116 := NB1087_1100.out
                   have hcz117_0 : wc.cell? ⟨gb1100, 0, none⟩ = some (.slice Ao57 t1094.length co57) := (blk_cell BK1100.out 0).trans rfl
                   have hcz117_1 : wc.cell? ⟨gb1100, 1, none⟩ = some (.slice Ao62 t1097.length co62) := (blk_cell BK1100.out 1).trans rfl
                   have hfz117_0 := blk_frozen BK1100.out 0
                   have hfz117_1 := blk_frozen BK1100.out 1
                   go_upto_if 98 with (first | ((with_reducible refine gate_callee (f := 17) rfl ?_); refine goesL_ (some 93) rfl rfl Try.func17 (by kernel_rfl) rfl #[.agg #[.slice Ao57 t1094.length co57, .slice Ao62 t1097.length co62], .int .i64 1] rfl bM ?_; (with_reducible refine (laws_markSecDisk.calls kj108 (fun k_ => some k_ = (.slice Ao57 t1094.length co57 : Value).ownBlock) (.slice Ao57 t1094.length co57) t1094 (fun k_ => some k_ = (.slice Ao62 t1097.length co62 : Value).ownBlock) (.slice Ao62 t1097.length co62) t1097 1 t1125 t1126 t1127 w _ ?side1 ?side2 ?side3 A111.out).mono ?_); (case side1 => repeat (first | (with_reducible first | exact HB.out | apply below_alloc | apply pw_below_drewN | apply below_drew1 | refine below_set ?_ GE1059.out | refine below_set ?_ GE1080.out | refine below_set ?_ GE1087.out | refine below_set ?_ GE1100.out) | exact HB.out)); (case side2 => exact Kd.R_tight rfl HO_1101000.out); (case side3 => exact Kd.R_tight rfl HO_1101001.out); rintro e w118 ⟨rfl, hy0, hy1, hb, hkp⟩; refine ⟨_, rfl, ?_⟩; have n0_ := Aside0.mk (Kd.R_mono (ok' := fun k_ => some k_ ≠ (.slice Ao45 t1118.length co45 : Value).ownBlock ∧ some k_ ≠ (.slice Ao57 t1094.length co57 : Value).ownBlock) (Kd.R_keptB ((Kd.R_apart' HO_1081000.out (Kd.R_typed HO_1101001.out) (by decide))) hkp (fun k_ hk_ hs_ => Or.elim hs_ (fun e_ => (hk_.1.2) e_) (fun e_ => (hk_.2) e_))) (fun k_ hk_ => ⟨hk_.1.1.1, hk_.1.1.2⟩)); have n1_ := Aside0.mk (Kd.R_mono (ok' := fun k_ => some k_ ≠ (.slice Ao49 t1119.length co49 : Value).ownBlock ∧ some k_ ≠ (.slice Ao62 t1097.length co62 : Value).ownBlock) (Kd.R_keptB ((Kd.R_apart' HO_1081001.out (Kd.R_typed HO_1101000.out) (by decide))) hkp (fun k_ hk_ hs_ => Or.elim hs_ (fun e_ => (hk_.2) e_) (fun e_ => (hk_.1.2) e_))) (fun k_ hk_ => ⟨hk_.1.1.1, hk_.1.1.2⟩)); have n2_ := Aside0.mk (Kd.R_mono (ok' := fun k_ => some k_ ≠ (.slice Ao38 t1074.length co38 : Value).ownBlock ∧ some k_ ≠ (.slice Ao57 t1094.length co57 : Value).ownBlock) (Kd.R_keptB ((Kd.R_apart' HO_1088000.out (Kd.R_typed HO_1101001.out) (by decide))) hkp (fun k_ hk_ hs_ => Or.elim hs_ (fun e_ => (hk_.1.2) e_) (fun e_ => (hk_.2) e_))) (fun k_ hk_ => ⟨hk_.1.1.1, hk_.1.1.2⟩)); have n3_ := Aside0.mk (Kd.R_mono (ok' := fun k_ => some k_ ≠ (.slice Ao41 t1077.length co41 : Value).ownBlock ∧ some k_ ≠ (.slice Ao62 t1097.length co62 : Value).ownBlock) (Kd.R_keptB ((Kd.R_apart' HO_1088001.out (Kd.R_typed HO_1101000.out) (by decide))) hkp (fun k_ hk_ hs_ => Or.elim hs_ (fun e_ => (hk_.2) e_) (fun e_ => (hk_.1.2) e_))) (fun k_ hk_ => ⟨hk_.1.1.1, hk_.1.1.2⟩)); have n4_ := Aside0.mk (Kd.R_reok rfl hy0 (fun k_ e_ => HO_1101000.out.1 k_ e_)); have n5_ := Aside0.mk (Kd.R_reok rfl hy1 (fun k_ e_ => HO_1101001.out.1 k_ e_)); have n6_ := Aside0.mk (blk_kept (pK BK1059.out) hkp (fun hs_ => Or.elim hs_ (fun e_ => (fun e_ => (Kd.R_ne HO_1101000.out BK1059.out (by decide)) e_) e_) (fun e_ => (fun e_ => (Kd.R_ne HO_1101001.out BK1059.out (by decide)) e_) e_))); have n7_ := Aside0.mk (blk_kept (pK BK1080.out) hkp (fun hs_ => Or.elim hs_ (fun e_ => (fun e_ => (Kd.R_ne HO_1101000.out BK1080.out (by decide)) e_) e_) (fun e_ => (fun e_ => (Kd.R_ne HO_1101001.out BK1080.out (by decide)) e_) e_))); have n8_ := Aside0.mk (blk_kept (pK BK1087.out) hkp (fun hs_ => Or.elim hs_ (fun e_ => (fun e_ => (Kd.R_ne HO_1101000.out BK1087.out (by decide)) e_) e_) (fun e_ => (fun e_ => (Kd.R_ne HO_1101001.out BK1087.out (by decide)) e_) e_))); have n9_ := Aside0.mk (blk_kept (pK BK1100.out) hkp (fun hs_ => Or.elim hs_ (fun e_ => (fun e_ => (Kd.R_ne HO_1101000.out BK1100.out (by decide)) e_) e_) (fun e_ => (fun e_ => (Kd.R_ne HO_1101001.out BK1100.out (by decide)) e_) e_))); have n10_ := Aside0.mk (hb); clear HO_1081000; clear HO_1081001; clear HO_1088000; clear HO_1088001; clear HO_1101000; clear HO_1101001; clear BK1059; clear BK1080; clear BK1087; clear BK1100; clear HB; have HO_1081000 := n0_; have HO_1081001 := n1_; have HO_1088000 := n2_; have HO_1088001 := n3_; have HO_1101000 := n4_; have HO_1101001 := n5_; have BK1059 := n6_; have BK1080 := n7_; have BK1087 := n8_; have BK1100 := n9_; have HB := n10_; clear n0_ n1_ n2_ n3_ n4_ n5_ n6_ n7_ n8_ n9_ n10_; (try clear hb); (try clear hkp); (try clear hy0); (try clear hy1); have hcz119_0 : w118.cell? ⟨gb1100, 0, none⟩ = some (.slice Ao57 t1094.length co57) := (blk_cell BK1100.out 0).trans rfl; have hcz119_1 : w118.cell? ⟨gb1100, 1, none⟩ = some (.slice Ao62 t1097.length co62) := (blk_cell BK1100.out 1).trans rfl; have hfz119_0 := blk_frozen BK1100.out 0; have hfz119_1 := blk_frozen BK1100.out 1) | ((with_reducible refine gate_callee (f := 38) rfl ?_); refine goesL_ (some 96) rfl rfl Try.func38 (by kernel_rfl) rfl #[.agg #[.slice Ao57 t1126.length co57, .slice Ao62 t1127.length co62], .int .i64 1] rfl (by (try simp only [List.map_toArray, List.map_cons, List.map_nil]); first | done | (rw [show t1126.length = t1094.length from (Kd.R_reads' HO_1101000.out).1.symm, show t1127.length = t1097.length from (Kd.R_reads' HO_1101001.out).1.symm] <;> rfl) | rfl | (simp only [List.length_drop, List.length_take]; rfl)) ?_; (with_reducible refine (laws_heldSecDisk.calls kj108 _ _ t1126 _ _ t1127 1 t1128 _ ?side1 ?side2 ?side3 ?side4 A112.out).mono ?_); (case side1 => exact pC (Kd.R_reads' HO_1101000.out).2.2); (case side2 => rw [show t1126.length = t1094.length from (Kd.R_reads' HO_1101000.out).1.symm]; exact (Kd.R_reads' HO_1101000.out).2.1); (case side3 => exact pC (Kd.R_reads' HO_1101001.out).2.2); (case side4 => rw [show t1127.length = t1097.length from (Kd.R_reads' HO_1101001.out).1.symm]; exact (Kd.R_reads' HO_1101001.out).2.1); rintro e w120 ⟨rfl, hb⟩; refine ⟨_, rfl, ?_⟩; have n0_ := Aside0.mk (Kd.R_below (pR HO_1081000.out) hb); have n1_ := Aside0.mk (Kd.R_below (pR HO_1081001.out) hb); have n2_ := Aside0.mk (Kd.R_below (pR HO_1088000.out) hb); have n3_ := Aside0.mk (Kd.R_below (pR HO_1088001.out) hb); have n4_ := Aside0.mk (Kd.R_below (pR HO_1101000.out) hb); have n5_ := Aside0.mk (Kd.R_below (pR HO_1101001.out) hb); have n6_ := Aside0.mk (blk_below (pK BK1059.out) hb); have n7_ := Aside0.mk (blk_below (pK BK1080.out) hb); have n8_ := Aside0.mk (blk_below (pK BK1087.out) hb); have n9_ := Aside0.mk (blk_below (pK BK1100.out) hb); have n10_ := Aside0.mk (below_step (pS HB.out) hb); clear HO_1081000; clear HO_1081001; clear HO_1088000; clear HO_1088001; clear HO_1101000; clear HO_1101001; clear BK1059; clear BK1080; clear BK1087; clear BK1100; clear HB; have HO_1081000 := n0_; have HO_1081001 := n1_; have HO_1088000 := n2_; have HO_1088001 := n3_; have HO_1101000 := n4_; have HO_1101001 := n5_; have BK1059 := n6_; have BK1080 := n7_; have BK1087 := n8_; have BK1100 := n9_; have HB := n10_; clear n0_ n1_ n2_ n3_ n4_ n5_ n6_ n7_ n8_ n9_ n10_; (try clear hb); (try clear hb2); (try clear hk); (try clear hi)))
                   (try simp only [Act.put, List.setIfInBounds_toArray, List.set_cons_zero, List.set_cons_succ])
                   go_cut [] (fun wc => ∃ (kq : Nat), Aside0 (laws_FnExactWalDo.j9 kq l1 a2 a3 l4 t1125 t1128 l0_0 l0_1 t1074 t1077 t1126 t1127 = some r) ∧ Aside0 (kq ≤ kj108) ∧ Aside0 (Kd.R Kd.string 9 wc w.heap.size (fun k_ => some k_ ≠ ((.slice Ao45 t1118.length co45) : Value).ownBlock ∧ some k_ ≠ ((.slice Ao57 t1094.length co57) : Value).ownBlock) (.slice Ao38 t1074.length co38) t1074) ∧ Aside0 (Kd.R k75 75 wc w.heap.size (fun k_ => some k_ ≠ ((.slice Ao49 t1119.length co49) : Value).ownBlock ∧ some k_ ≠ ((.slice Ao62 t1097.length co62) : Value).ownBlock) (.slice Ao41 t1077.length co41) t1077) ∧ Aside0 (Kd.R Kd.string 9 wc w.heap.size (fun k_ => some k_ ≠ ((.slice Ao38 t1074.length co38) : Value).ownBlock ∧ some k_ ≠ ((.slice Ao57 t1094.length co57) : Value).ownBlock) (.slice Ao45 t1118.length co45) t1118) ∧ Aside0 (Kd.R k75 75 wc w.heap.size (fun k_ => some k_ ≠ ((.slice Ao41 t1077.length co41) : Value).ownBlock ∧ some k_ ≠ ((.slice Ao62 t1097.length co62) : Value).ownBlock) (.slice Ao49 t1119.length co49) t1119) ∧ Aside0 (Kd.R Kd.string 9 wc w.heap.size (fun k_ => some k_ ≠ ((.slice Ao38 t1074.length co38) : Value).ownBlock ∧ some k_ ≠ ((.slice Ao45 t1118.length co45) : Value).ownBlock) (.slice Ao57 t1094.length co57) t1126) ∧ Aside0 (Kd.R k75 75 wc w.heap.size (fun k_ => some k_ ≠ ((.slice Ao41 t1077.length co41) : Value).ownBlock ∧ some k_ ≠ ((.slice Ao49 t1119.length co49) : Value).ownBlock) (.slice Ao62 t1097.length co62) t1127) ∧ Aside0 (wc.heap[gb1059]? = some (.cells #[(.slice A0_0 l0_0.length c0_0), (.slice A0_1 l0_1.length c0_1)] 25 (0, 0))) ∧ Aside0 (wc.heap[gb1080]? = some (.cells #[(.slice Ao38 t1074.length co38), (.slice Ao41 t1077.length co41)] 31 (0, 0))) ∧ Aside0 (wc.heap[gb1087]? = some (.cells #[(.slice Ao45 t1118.length co45), (.slice Ao49 t1119.length co49)] 31 (0, 0))) ∧ Aside0 (wc.heap[gb1100]? = some (.cells #[(.slice Ao57 t1094.length co57), (.slice Ao62 t1097.length co62)] 31 (0, 0))) ∧ Aside0 (Below w.heap.size w wc))
                   case first =>
                    have H := HC113.out
                    clear HC113
                    by_cases c121 : t1128 < 0
                    ·rw [if_pos c121] at H
                     have c121b0 : decide (t1128 < 0) = true := decide_eq_true c121
                     clear c121
                     (first | rw [c121b0] | (simp only [i64_w, i32_w]; rw [c121b0]) | skip)
                     obtain rfl := Option.some.inj H
                     go_wp2
                     go_ret
                     exact ⟨by first | rfl | (simp [errW_none, errW_some] <;> rfl) | (simp [*, errW_none, errW_some] <;> rfl), pS HB.out⟩
                    ·rw [if_neg c121] at H
                     have c121b0 : decide (t1128 < 0) = false := decide_eq_false c121
                     clear c121
                     (first | rw [c121b0] | (simp only [i64_w, i32_w]; rw [c121b0]) | skip)
                     have H' := Aside0.mk H
                     clear H
                     go_wp2
                     go_meet
                     case rel => exact ⟨_, H', ⟨by have := HJ5.out; have := HJ9.out; have := HJ14.out; have := HJ26.out; have := HJ67.out; have := HJ76.out; have := HJ83.out; have := HJ90.out; have := HJ108.out; first | omega | exact Nat.le_refl _⟩, ⟨by (try simp only [hl1088000_90]); (try simp only [hl1088001_90]); (with_reducible repeat (first | apply Kd.R_alloc | apply Kd.R_drewN | apply Kd.R_drew)); exact HO_1081000.out⟩, ⟨by (try simp only [hl1088000_90]); (try simp only [hl1088001_90]); (with_reducible repeat (first | apply Kd.R_alloc | apply Kd.R_drewN | apply Kd.R_drew)); exact HO_1081001.out⟩, ⟨by (try simp only [hl1088000_90]); (try simp only [hl1088001_90]); (with_reducible repeat (first | apply Kd.R_alloc | apply Kd.R_drewN | apply Kd.R_drew)); exact HO_1088000.out⟩, ⟨by (try simp only [hl1088000_90]); (try simp only [hl1088001_90]); (with_reducible repeat (first | apply Kd.R_alloc | apply Kd.R_drewN | apply Kd.R_drew)); exact HO_1088001.out⟩, ⟨by (try simp only [hl1088000_90]); (try simp only [hl1088001_90]); (with_reducible repeat (first | apply Kd.R_alloc | apply Kd.R_drewN | apply Kd.R_drew)); exact HO_1101000.out⟩, ⟨by (try simp only [hl1088000_90]); (try simp only [hl1088001_90]); (with_reducible repeat (first | apply Kd.R_alloc | apply Kd.R_drewN | apply Kd.R_drew)); exact HO_1101001.out⟩, ⟨by (try simp only [hl1088000_90]); (try simp only [hl1088001_90]); (with_reducible repeat (first | refine blk_drewN ?_ _ | refine blk_drew ?_ | refine blk_alloc ?_ _)); exact BK1059.out⟩, ⟨by (try simp only [hl1088000_90]); (try simp only [hl1088001_90]); (with_reducible repeat (first | refine blk_drewN ?_ _ | refine blk_drew ?_ | refine blk_alloc ?_ _)); exact BK1080.out⟩, ⟨by (try simp only [hl1088000_90]); (try simp only [hl1088001_90]); (with_reducible repeat (first | refine blk_drewN ?_ _ | refine blk_drew ?_ | refine blk_alloc ?_ _)); exact BK1087.out⟩, ⟨by (try simp only [hl1088000_90]); (try simp only [hl1088001_90]); (with_reducible repeat (first | refine blk_drewN ?_ _ | refine blk_drew ?_ | refine blk_alloc ?_ _)); exact BK1100.out⟩, ⟨pS HB.out⟩⟩
                   case rest =>
                    clear HC113
                    try clear c1
                    try clear c2
                    try clear p2
                    try clear c3
                    try clear c4
                    try clear c5
                    try clear c6
                    try clear c7
                    try clear c8
                    try clear c8b0
                    try clear c8b1
                    try clear c9
                    try clear c10
                    try clear c11
                    try clear c12
                    try clear c13
                    try clear c13b0
                    try clear c16
                    try clear c17
                    try clear c17b0
                    try clear c22
                    try clear c23
                    try clear c30
                    try clear c32
                    try clear c33
                    try clear c34
                    try clear c35
                    try clear c36
                    try clear c37
                    try clear c38
                    try clear c39
                    try clear c46
                    try clear c47
                    try clear c58
                    try clear c59
                    try clear c60
                    try clear c65
                    try clear c74
                    try clear c81
                    try clear c87
                    try clear c92
                    try clear c93
                    try clear c94
                    try clear c99
                    try clear c99b0
                    try clear c101
                    try clear c102
                    try clear c103
                    try clear c105
                    try clear c106
                    try clear c110
                    try clear c114
                    try clear c115
                    try clear c116
                    try clear c121
                    try clear c121b0
                    try clear hcz104_0
                    try clear hcz104_1
                    try clear hcz107_0
                    try clear hcz107_1
                    try clear hcz117_0
                    try clear hcz117_1
                    try clear hcz119_0
                    try clear hcz119_1
                    try clear hcz11_0
                    try clear hcz11_1
                    try clear hcz28_0
                    try clear hcz28_1
                    try clear hcz40_0
                    try clear hcz40_1
                    try clear hcz42_0
                    try clear hcz42_1
                    try clear hcz48_0
                    try clear hcz48_1
                    try clear hcz52_0
                    try clear hcz52_1
                    try clear hcz61_0
                    try clear hcz61_1
                    try clear hcz63_0
                    try clear hcz63_1
                    try clear hcz95_0
                    try clear hcz95_1
                    try clear hfz104_0
                    try clear hfz104_1
                    try clear hfz107_0
                    try clear hfz107_1
                    try clear hfz117_0
                    try clear hfz117_1
                    try clear hfz119_0
                    try clear hfz119_1
                    try clear hfz11_0
                    try clear hfz11_1
                    try clear hfz28_0
                    try clear hfz28_1
                    try clear hfz40_0
                    try clear hfz40_1
                    try clear hfz42_0
                    try clear hfz42_1
                    try clear hfz48_0
                    try clear hfz48_1
                    try clear hfz52_0
                    try clear hfz52_1
                    try clear hfz61_0
                    try clear hfz61_1
                    try clear hfz63_0
                    try clear hfz63_1
                    try clear hfz95_0
                    try clear hfz95_1
                    try clear p2
                    obtain ⟨kq, HA, HJ112, HO_1081000, HO_1081001, HO_1088000, HO_1088001, HO_1101000, HO_1101001, BK1059, BK1080, BK1087, BK1100, HB⟩ := hcut
                    have hl1101000_112 := (Kd.R_reads' HO_1101000.out).1
                    rw [hl1101000_112] at HO_1101000
                    (try simp only [hl1101000_112])
                    (try simp only [hl1101000_112] at BK1059)
                    (try simp only [hl1101000_112] at BK1080)
                    (try simp only [hl1101000_112] at BK1087)
                    (try simp only [hl1101000_112] at BK1100)
                    (try simp only [hl1101000_112] at HO_1081000)
                    (try simp only [hl1101000_112] at HO_1081001)
                    (try simp only [hl1101000_112] at HO_1088000)
                    (try simp only [hl1101000_112] at HO_1088001)
                    (try simp only [hl1101000_112] at HO_1101001)
                    have hl1101001_112 := (Kd.R_reads' HO_1101001.out).1
                    rw [hl1101001_112] at HO_1101001
                    (try simp only [hl1101001_112])
                    (try simp only [hl1101001_112] at BK1059)
                    (try simp only [hl1101001_112] at BK1080)
                    (try simp only [hl1101001_112] at BK1087)
                    (try simp only [hl1101001_112] at BK1100)
                    (try simp only [hl1101001_112] at HO_1081000)
                    (try simp only [hl1101001_112] at HO_1081001)
                    (try simp only [hl1101001_112] at HO_1088000)
                    (try simp only [hl1101001_112] at HO_1088001)
                    (try simp only [hl1101001_112] at HO_1101000)
                    cases kq with
                    | zero => exact absurd HA.out (by simp [laws_FnExactWalDo.j9])
                    | succ kj112 =>
                     have H := HA.out
                     clear HA
                     simp only [laws_FnExactWalDo.j9] at H
                     have HC122 := Aside0.mk H
                     clear H
                     go_upto_if 101 with (fail)
                     go_cut [] (fun wc => ∃ (kq : Nat), Aside0 (laws_FnExactWalDo.j10 kq l1 a2 a3 l4 t1125 l0_0 l0_1 t1074 t1077 t1126 t1127 = some r) ∧ Aside0 (kq ≤ kj112) ∧ Aside0 (Kd.R Kd.string 9 wc w.heap.size (fun k_ => some k_ ≠ ((.slice Ao45 t1118.length co45) : Value).ownBlock ∧ some k_ ≠ ((.slice Ao57 t1126.length co57) : Value).ownBlock) (.slice Ao38 t1074.length co38) t1074) ∧ Aside0 (Kd.R k75 75 wc w.heap.size (fun k_ => some k_ ≠ ((.slice Ao49 t1119.length co49) : Value).ownBlock ∧ some k_ ≠ ((.slice Ao62 t1127.length co62) : Value).ownBlock) (.slice Ao41 t1077.length co41) t1077) ∧ Aside0 (Kd.R Kd.string 9 wc w.heap.size (fun k_ => some k_ ≠ ((.slice Ao38 t1074.length co38) : Value).ownBlock ∧ some k_ ≠ ((.slice Ao57 t1126.length co57) : Value).ownBlock) (.slice Ao45 t1118.length co45) t1118) ∧ Aside0 (Kd.R k75 75 wc w.heap.size (fun k_ => some k_ ≠ ((.slice Ao41 t1077.length co41) : Value).ownBlock ∧ some k_ ≠ ((.slice Ao62 t1127.length co62) : Value).ownBlock) (.slice Ao49 t1119.length co49) t1119) ∧ Aside0 (Kd.R Kd.string 9 wc w.heap.size (fun k_ => some k_ ≠ ((.slice Ao38 t1074.length co38) : Value).ownBlock ∧ some k_ ≠ ((.slice Ao45 t1118.length co45) : Value).ownBlock) (.slice Ao57 t1126.length co57) t1126) ∧ Aside0 (Kd.R k75 75 wc w.heap.size (fun k_ => some k_ ≠ ((.slice Ao41 t1077.length co41) : Value).ownBlock ∧ some k_ ≠ ((.slice Ao49 t1119.length co49) : Value).ownBlock) (.slice Ao62 t1127.length co62) t1127) ∧ Aside0 (wc.heap[gb1059]? = some (.cells #[(.slice A0_0 l0_0.length c0_0), (.slice A0_1 l0_1.length c0_1)] 25 (0, 0))) ∧ Aside0 (wc.heap[gb1080]? = some (.cells #[(.slice Ao38 t1074.length co38), (.slice Ao41 t1077.length co41)] 31 (0, 0))) ∧ Aside0 (wc.heap[gb1087]? = some (.cells #[(.slice Ao45 t1118.length co45), (.slice Ao49 t1119.length co49)] 31 (0, 0))) ∧ Aside0 (wc.heap[gb1100]? = some (.cells #[(.slice Ao57 t1126.length co57), (.slice Ao62 t1127.length co62)] 31 (0, 0))) ∧ Aside0 (Below w.heap.size w wc))
                     case first =>
                      have H := HC122.out
                      clear HC122
                      by_cases c123 : t1128 = t1125
                      ·rw [if_pos c123] at H
                       have c123b0 : (t1128 == t1125) = true := beq_iff_eq.mpr c123
                       have c123b1 : (t1128 != t1125) = false := bne_eq_false_iff_eq.mpr c123
                       clear c123
                       (first | rw [c123b0] | (simp only [i64_w, i32_w]; rw [c123b0]) | skip)
                       have H' := Aside0.mk H
                       clear H
                       go_wp2
                       go_meet
                       case rel => exact ⟨_, H', ⟨by have := HJ5.out; have := HJ9.out; have := HJ14.out; have := HJ26.out; have := HJ67.out; have := HJ76.out; have := HJ83.out; have := HJ90.out; have := HJ108.out; have := HJ112.out; first | omega | exact Nat.le_refl _⟩, ⟨by (try simp only [hl1088000_90]); (try simp only [hl1088001_90]); (try simp only [hl1101000_112]); (try simp only [hl1101001_112]); (with_reducible repeat (first | apply Kd.R_alloc | apply Kd.R_drewN | apply Kd.R_drew)); exact HO_1081000.out⟩, ⟨by (try simp only [hl1088000_90]); (try simp only [hl1088001_90]); (try simp only [hl1101000_112]); (try simp only [hl1101001_112]); (with_reducible repeat (first | apply Kd.R_alloc | apply Kd.R_drewN | apply Kd.R_drew)); exact HO_1081001.out⟩, ⟨by (try simp only [hl1088000_90]); (try simp only [hl1088001_90]); (try simp only [hl1101000_112]); (try simp only [hl1101001_112]); (with_reducible repeat (first | apply Kd.R_alloc | apply Kd.R_drewN | apply Kd.R_drew)); exact HO_1088000.out⟩, ⟨by (try simp only [hl1088000_90]); (try simp only [hl1088001_90]); (try simp only [hl1101000_112]); (try simp only [hl1101001_112]); (with_reducible repeat (first | apply Kd.R_alloc | apply Kd.R_drewN | apply Kd.R_drew)); exact HO_1088001.out⟩, ⟨by (try simp only [hl1088000_90]); (try simp only [hl1088001_90]); (try simp only [hl1101000_112]); (try simp only [hl1101001_112]); (with_reducible repeat (first | apply Kd.R_alloc | apply Kd.R_drewN | apply Kd.R_drew)); exact HO_1101000.out⟩, ⟨by (try simp only [hl1088000_90]); (try simp only [hl1088001_90]); (try simp only [hl1101000_112]); (try simp only [hl1101001_112]); (with_reducible repeat (first | apply Kd.R_alloc | apply Kd.R_drewN | apply Kd.R_drew)); exact HO_1101001.out⟩, ⟨by (try simp only [hl1088000_90]); (try simp only [hl1088001_90]); (try simp only [hl1101000_112]); (try simp only [hl1101001_112]); (with_reducible repeat (first | refine blk_drewN ?_ _ | refine blk_drew ?_ | refine blk_alloc ?_ _)); exact BK1059.out⟩, ⟨by (try simp only [hl1088000_90]); (try simp only [hl1088001_90]); (try simp only [hl1101000_112]); (try simp only [hl1101001_112]); (with_reducible repeat (first | refine blk_drewN ?_ _ | refine blk_drew ?_ | refine blk_alloc ?_ _)); exact BK1080.out⟩, ⟨by (try simp only [hl1088000_90]); (try simp only [hl1088001_90]); (try simp only [hl1101000_112]); (try simp only [hl1101001_112]); (with_reducible repeat (first | refine blk_drewN ?_ _ | refine blk_drew ?_ | refine blk_alloc ?_ _)); exact BK1087.out⟩, ⟨by (try simp only [hl1088000_90]); (try simp only [hl1088001_90]); (try simp only [hl1101000_112]); (try simp only [hl1101001_112]); (with_reducible repeat (first | refine blk_drewN ?_ _ | refine blk_drew ?_ | refine blk_alloc ?_ _)); exact BK1100.out⟩, ⟨pS HB.out⟩⟩
                      ·rw [if_neg c123] at H
                       have c123b0 : (t1128 == t1125) = false := beq_eq_false_iff_ne.mpr c123
                       have c123b1 : (t1128 != t1125) = true := bne_iff_ne.mpr c123
                       (first | rw [c123b0] | (simp only [i64_w, i32_w]; rw [c123b0]) | skip)
                       obtain rfl := Option.some.inj H
                       go_wp2
                       go_ret
                       exact ⟨by first | rfl | (simp [errW_none, errW_some] <;> rfl) | (simp [*, errW_none, errW_some] <;> rfl), pS HB.out⟩
                     case rest =>
                      clear HC122
                      try clear c1
                      try clear c2
                      try clear p2
                      try clear c3
                      try clear c4
                      try clear c5
                      try clear c6
                      try clear c7
                      try clear c8
                      try clear c8b0
                      try clear c8b1
                      try clear c9
                      try clear c10
                      try clear c11
                      try clear c12
                      try clear c13
                      try clear c13b0
                      try clear c16
                      try clear c17
                      try clear c17b0
                      try clear c22
                      try clear c23
                      try clear c30
                      try clear c32
                      try clear c33
                      try clear c34
                      try clear c35
                      try clear c36
                      try clear c37
                      try clear c38
                      try clear c39
                      try clear c46
                      try clear c47
                      try clear c58
                      try clear c59
                      try clear c60
                      try clear c65
                      try clear c74
                      try clear c81
                      try clear c87
                      try clear c92
                      try clear c93
                      try clear c94
                      try clear c99
                      try clear c99b0
                      try clear c101
                      try clear c102
                      try clear c103
                      try clear c105
                      try clear c106
                      try clear c110
                      try clear c114
                      try clear c115
                      try clear c116
                      try clear c121
                      try clear c121b0
                      try clear c123
                      try clear c123b0
                      try clear c123b1
                      try clear hcz104_0
                      try clear hcz104_1
                      try clear hcz107_0
                      try clear hcz107_1
                      try clear hcz117_0
                      try clear hcz117_1
                      try clear hcz119_0
                      try clear hcz119_1
                      try clear hcz11_0
                      try clear hcz11_1
                      try clear hcz28_0
                      try clear hcz28_1
                      try clear hcz40_0
                      try clear hcz40_1
                      try clear hcz42_0
                      try clear hcz42_1
                      try clear hcz48_0
                      try clear hcz48_1
                      try clear hcz52_0
                      try clear hcz52_1
                      try clear hcz61_0
                      try clear hcz61_1
                      try clear hcz63_0
                      try clear hcz63_1
                      try clear hcz95_0
                      try clear hcz95_1
                      try clear hfz104_0
                      try clear hfz104_1
                      try clear hfz107_0
                      try clear hfz107_1
                      try clear hfz117_0
                      try clear hfz117_1
                      try clear hfz119_0
                      try clear hfz119_1
                      try clear hfz11_0
                      try clear hfz11_1
                      try clear hfz28_0
                      try clear hfz28_1
                      try clear hfz40_0
                      try clear hfz40_1
                      try clear hfz42_0
                      try clear hfz42_1
                      try clear hfz48_0
                      try clear hfz48_1
                      try clear hfz52_0
                      try clear hfz52_1
                      try clear hfz61_0
                      try clear hfz61_1
                      try clear hfz63_0
                      try clear hfz63_1
                      try clear hfz95_0
                      try clear hfz95_1
                      try clear p2
                      obtain ⟨kq, HA, HJ121, HO_1081000, HO_1081001, HO_1088000, HO_1088001, HO_1101000, HO_1101001, BK1059, BK1080, BK1087, BK1100, HB⟩ := hcut
                      cases kq with
                      | zero => exact absurd HA.out (by simp [laws_FnExactWalDo.j10])
                      | succ kj121 =>
                       have H := HA.out
                       clear HA
                       simp only [laws_FnExactWalDo.j10] at H
                       replace H := Option.bind_eq_some_iff.mp H
                       obtain ⟨⟨t1129, t1132⟩, A1240, H⟩ := H
                       replace H : ((laws_toSecStepS.f kj121 l1).bind fun t1135 => ((laws_toIntS.f kj121 l4).bind fun t1138 => ((impl_WalDo.f kj121 t1129 t1132 t1135 a2 a3 t1138).bind fun bt1141 => ((laws_eqSecDisk.f kj121 bt1141.1 bt1141.2 t1074 t1077).bind fun t1148 => (if t1148 = true then (laws_FnExactWalDo.j11 kj121 t1125 t1126 t1127) else (some false)))))) = some r := H
                       have A124 := Aside0.mk A1240
                       clear A1240
                       replace H := Option.bind_eq_some_iff.mp H
                       obtain ⟨t1135, A1250, H⟩ := H
                       replace H : ((laws_toIntS.f kj121 l4).bind fun t1138 => ((impl_WalDo.f kj121 t1129 t1132 t1135 a2 a3 t1138).bind fun bt1141 => ((laws_eqSecDisk.f kj121 bt1141.1 bt1141.2 t1074 t1077).bind fun t1148 => (if t1148 = true then (laws_FnExactWalDo.j11 kj121 t1125 t1126 t1127) else (some false))))) = some r := H
                       have A125 := Aside0.mk A1250
                       clear A1250
                       replace H := Option.bind_eq_some_iff.mp H
                       obtain ⟨t1138, A1260, H⟩ := H
                       replace H : ((impl_WalDo.f kj121 t1129 t1132 t1135 a2 a3 t1138).bind fun bt1141 => ((laws_eqSecDisk.f kj121 bt1141.1 bt1141.2 t1074 t1077).bind fun t1148 => (if t1148 = true then (laws_FnExactWalDo.j11 kj121 t1125 t1126 t1127) else (some false)))) = some r := H
                       have A126 := Aside0.mk A1260
                       clear A1260
                       replace H := Option.bind_eq_some_iff.mp H
                       obtain ⟨⟨t1141, t1144⟩, A1270, H⟩ := H
                       replace H : ((laws_eqSecDisk.f kj121 t1141 t1144 t1074 t1077).bind fun t1148 => (if t1148 = true then (laws_FnExactWalDo.j11 kj121 t1125 t1126 t1127) else (some false))) = some r := H
                       have A127 := Aside0.mk A1270
                       clear A1270
                       replace H := Option.bind_eq_some_iff.mp H
                       obtain ⟨t1148, A1280, H⟩ := H
                       replace H : (if t1148 = true then (laws_FnExactWalDo.j11 kj121 t1125 t1126 t1127) else (some false)) = some r := H
                       have A128 := Aside0.mk A1280
                       clear A1280
                       have HC129 := Aside0.mk H
                       clear H
                       have hnb130 := NB1059_1080.out
                       have hnc130 := NB1080_1059.out
                       have hnb131 := NB1059_1087.out
                       have hnc131 := NB1087_1059.out
                       have hnb132 := NB1059_1100.out
                       have hnc132 := NB1100_1059.out
                       have hcz133_0 : wc.cell? ⟨gb1059, 0, none⟩ = some (.slice A0_0 l0_0.length c0_0) := (blk_cell BK1059.out 0).trans rfl
                       have hcz133_1 : wc.cell? ⟨gb1059, 1, none⟩ = some (.slice A0_1 l0_1.length c0_1) := (blk_cell BK1059.out 1).trans rfl
                       have hfz133_0 := blk_frozen BK1059.out 0
                       have hfz133_1 := blk_frozen BK1059.out 1
                       go_upto_if 114 with (first | ((with_reducible refine gate_callee (f := 13) rfl ?_); refine goesL_ (some 103) rfl rfl Try.func13 (by kernel_rfl) rfl #[.agg #[.slice A0_0 l0_0.length c0_0, .slice A0_1 l0_1.length c0_1]] rfl bM ?_; (with_reducible refine (laws_toSecDisk.calls kj121 _ _ l0_0 _ _ l0_1 t1129 t1132 _ ?side1 ?side2 ?side3 ?side4 A124.out).mono ?_); (case side1 => exact pC (Kd.C_below HR0_0.out HB.out)); (case side2 => exact HC0_0.out); (case side3 => exact pC (Kd.C_below HR0_1.out HB.out)); (case side4 => exact HC0_1.out); rintro e w134 ⟨v1130, v1133, rfl, ho0, ho1, hb⟩; refine ⟨_, rfl, ?_⟩; have n0_ := Aside0.mk (Kd.R_elder' (pR HO_1081000.out) (Kd.R_base ho0) hb); have n1_ := Aside0.mk (Kd.R_elder' (pR HO_1081001.out) (Kd.R_base ho1) hb); have n2_ := Aside0.mk (Kd.R_elder' (pR HO_1088000.out) (Kd.R_base ho0) hb); have n3_ := Aside0.mk (Kd.R_elder' (pR HO_1088001.out) (Kd.R_base ho1) hb); have n4_ := Aside0.mk (Kd.R_elder' (pR HO_1101000.out) (Kd.R_base ho0) hb); have n5_ := Aside0.mk (Kd.R_elder' (pR HO_1101001.out) (Kd.R_base ho1) hb); have n6_ := Aside0.mk (Kd.R_lower (Kd.R_new' (Kd.R_new' (Kd.R_new' ho0 (Kd.R_lt (pR HO_1081000.out))) (Kd.R_lt (pR HO_1088000.out))) (Kd.R_lt (pR HO_1101000.out))) (below_size (pS HB.out))); have n7_ := Aside0.mk (Kd.R_lower (Kd.R_new' (Kd.R_new' (Kd.R_new' ho1 (Kd.R_lt (pR HO_1081001.out))) (Kd.R_lt (pR HO_1088001.out))) (Kd.R_lt (pR HO_1101001.out))) (below_size (pS HB.out))); have n8_ := Aside0.mk (blk_below (pK BK1059.out) hb); have n9_ := Aside0.mk (blk_below (pK BK1080.out) hb); have n10_ := Aside0.mk (blk_below (pK BK1087.out) hb); have n11_ := Aside0.mk (blk_below (pK BK1100.out) hb); have n12_ := Aside0.mk (below_step (pS HB.out) hb); clear HO_1081000; clear HO_1081001; clear HO_1088000; clear HO_1088001; clear HO_1101000; clear HO_1101001; clear BK1059; clear BK1080; clear BK1087; clear BK1100; clear HB; have HO_1081000 := n0_; have HO_1081001 := n1_; have HO_1088000 := n2_; have HO_1088001 := n3_; have HO_1101000 := n4_; have HO_1101001 := n5_; have HO1131 := n6_; have HO1134 := n7_; have BK1059 := n8_; have BK1080 := n9_; have BK1087 := n10_; have BK1100 := n11_; have HB := n12_; clear n0_ n1_ n2_ n3_ n4_ n5_ n6_ n7_ n8_ n9_ n10_ n11_ n12_; (try clear hb); (try clear hb2); (try clear hk); (try clear hi); (try clear ho0); (try clear ho1)) | ((with_reducible refine gate_callee (f := 34) rfl ?_); refine goesL_ (some 105) rfl rfl Try.func34 (by kernel_rfl) rfl #[.slice A1 l1.length c1] rfl bM ?_; (with_reducible refine (laws_toSecStepS.calls kj121 _ _ l1 t1135 _ ?side1 ?side2 A125.out).mono ?_); (case side1 => exact pC (Kd.C_below HR1.out HB.out)); (case side2 => exact HC1.out); rintro e w135 ⟨v1136, rfl, ho0, hb⟩; refine ⟨_, rfl, ?_⟩; have n0_ := Aside0.mk (Kd.R_below (pR HO_1081000.out) hb); have n1_ := Aside0.mk (Kd.R_below (pR HO_1081001.out) hb); have n2_ := Aside0.mk (Kd.R_below (pR HO_1088000.out) hb); have n3_ := Aside0.mk (Kd.R_below (pR HO_1088001.out) hb); have n4_ := Aside0.mk (Kd.R_below (pR HO_1101000.out) hb); have n5_ := Aside0.mk (Kd.R_below (pR HO_1101001.out) hb); have n6_ := Aside0.mk (Kd.R_below (pR HO1131.out) hb); have n7_ := Aside0.mk (Kd.R_below (pR HO1134.out) hb); have n8_ := Aside0.mk (Kd.R_lower ho0 (below_size (pS HB.out))); have n9_ := Aside0.mk (blk_below (pK BK1059.out) hb); have n10_ := Aside0.mk (blk_below (pK BK1080.out) hb); have n11_ := Aside0.mk (blk_below (pK BK1087.out) hb); have n12_ := Aside0.mk (blk_below (pK BK1100.out) hb); have n13_ := Aside0.mk (below_step (pS HB.out) hb); clear HO_1081000; clear HO_1081001; clear HO_1088000; clear HO_1088001; clear HO_1101000; clear HO_1101001; clear HO1131; clear HO1134; clear BK1059; clear BK1080; clear BK1087; clear BK1100; clear HB; have HO_1081000 := n0_; have HO_1081001 := n1_; have HO_1088000 := n2_; have HO_1088001 := n3_; have HO_1101000 := n4_; have HO_1101001 := n5_; have HO1131 := n6_; have HO1134 := n7_; have HO1137 := n8_; have BK1059 := n9_; have BK1080 := n10_; have BK1087 := n11_; have BK1100 := n12_; have HB := n13_; clear n0_ n1_ n2_ n3_ n4_ n5_ n6_ n7_ n8_ n9_ n10_ n11_ n12_ n13_; (try clear hb); (try clear hb2); (try clear hk); (try clear hi); (try clear ho0)) | ((with_reducible refine gate_callee (f := 35) rfl ?_); refine goesL_ (some 109) rfl rfl Try.func35 (by kernel_rfl) rfl #[.slice A4 l4.length c4] rfl bM ?_; (with_reducible refine (laws_toIntS.calls kj121 _ _ l4 t1138 _ ?side1 ?side2 A126.out).mono ?_); (case side1 => exact pC (Kd.C_below HR4.out HB.out)); (case side2 => exact HC4.out); rintro e w136 ⟨v1139, rfl, ho0, hb⟩; refine ⟨_, rfl, ?_⟩; have n0_ := Aside0.mk (Kd.R_below (pR HO_1081000.out) hb); have n1_ := Aside0.mk (Kd.R_below (pR HO_1081001.out) hb); have n2_ := Aside0.mk (Kd.R_below (pR HO_1088000.out) hb); have n3_ := Aside0.mk (Kd.R_below (pR HO_1088001.out) hb); have n4_ := Aside0.mk (Kd.R_below (pR HO_1101000.out) hb); have n5_ := Aside0.mk (Kd.R_below (pR HO_1101001.out) hb); have n6_ := Aside0.mk (Kd.R_below (pR HO1131.out) hb); have n7_ := Aside0.mk (Kd.R_below (pR HO1134.out) hb); have n8_ := Aside0.mk (Kd.R_below (pR HO1137.out) hb); have n9_ := Aside0.mk (Kd.R_lower ho0 (below_size (pS HB.out))); have n10_ := Aside0.mk (blk_below (pK BK1059.out) hb); have n11_ := Aside0.mk (blk_below (pK BK1080.out) hb); have n12_ := Aside0.mk (blk_below (pK BK1087.out) hb); have n13_ := Aside0.mk (blk_below (pK BK1100.out) hb); have n14_ := Aside0.mk (below_step (pS HB.out) hb); clear HO_1081000; clear HO_1081001; clear HO_1088000; clear HO_1088001; clear HO_1101000; clear HO_1101001; clear HO1131; clear HO1134; clear HO1137; clear BK1059; clear BK1080; clear BK1087; clear BK1100; clear HB; have HO_1081000 := n0_; have HO_1081001 := n1_; have HO_1088000 := n2_; have HO_1088001 := n3_; have HO_1101000 := n4_; have HO_1101001 := n5_; have HO1131 := n6_; have HO1134 := n7_; have HO1137 := n8_; have HO1140 := n9_; have BK1059 := n10_; have BK1080 := n11_; have BK1087 := n12_; have BK1100 := n13_; have HB := n14_; clear n0_ n1_ n2_ n3_ n4_ n5_ n6_ n7_ n8_ n9_ n10_ n11_ n12_ n13_ n14_; (try clear hb); (try clear hb2); (try clear hk); (try clear hi); (try clear ho0); obtain ⟨Ao137, co137, eo137⟩ := Kd.R_slice HO1131.out; subst eo137; obtain ⟨Ao138, co138, eo138⟩ := Kd.R_slice HO1134.out; subst eo138; obtain ⟨Ao139, co139, eo139⟩ := Kd.R_slice HO1137.out; subst eo139; obtain ⟨Ao140, co140, eo140⟩ := Kd.R_slice HO1140.out; subst eo140) | ((with_reducible refine gate_callee (f := 30) rfl ?_); refine goesL_ (some 110) rfl rfl Try.func30 (by kernel_rfl) rfl #[.agg #[.slice Ao137 t1129.length co137, .slice Ao138 t1132.length co138], .slice Ao139 t1135.length co139, .bool a2, .int .i64 a3, .slice Ao140 t1138.length co140] rfl bM ?_; (with_reducible refine (impl_WalDo.calls kj121 _ _ t1129 _ _ t1132 _ _ t1135 a2 a3 _ _ t1138 t1141 t1144 _ ?side1 ?side2 ?side3 ?side4 ?side5 ?side6 ?side7 ?side8 A127.out).mono ?_); (case side1 => exact pC (Kd.R_reads' HO1131.out).2.2); (case side2 => exact (Kd.R_reads' HO1131.out).2.1); (case side3 => exact pC (Kd.R_reads' HO1134.out).2.2); (case side4 => exact (Kd.R_reads' HO1134.out).2.1); (case side5 => exact pC (Kd.R_reads' HO1137.out).2.2); (case side6 => exact (Kd.R_reads' HO1137.out).2.1); (case side7 => exact pC (Kd.R_reads' HO1140.out).2.2); (case side8 => exact (Kd.R_reads' HO1140.out).2.1); rintro e w141 ⟨v1142, v1145, rfl, ho0, ho1, hb⟩; refine ⟨_, rfl, ?_⟩; have n0_ := Aside0.mk (Kd.R_elder' (pR HO_1081000.out) (Kd.R_base ho0) hb); have n1_ := Aside0.mk (Kd.R_elder' (pR HO_1081001.out) (Kd.R_base ho1) hb); have n2_ := Aside0.mk (Kd.R_elder' (pR HO_1088000.out) (Kd.R_base ho0) hb); have n3_ := Aside0.mk (Kd.R_elder' (pR HO_1088001.out) (Kd.R_base ho1) hb); have n4_ := Aside0.mk (Kd.R_elder' (pR HO_1101000.out) (Kd.R_base ho0) hb); have n5_ := Aside0.mk (Kd.R_elder' (pR HO_1101001.out) (Kd.R_base ho1) hb); have n6_ := Aside0.mk (Kd.R_elder' (pR HO1131.out) (Kd.R_base ho0) hb); have n7_ := Aside0.mk (Kd.R_elder' (pR HO1134.out) (Kd.R_base ho1) hb); have n8_ := Aside0.mk (Kd.R_below (pR HO1137.out) hb); have n9_ := Aside0.mk (Kd.R_below (pR HO1140.out) hb); have n10_ := Aside0.mk (Kd.R_lower (Kd.R_new' (Kd.R_new' (Kd.R_new' (Kd.R_new' ho0 (Kd.R_lt (pR HO_1081000.out))) (Kd.R_lt (pR HO_1088000.out))) (Kd.R_lt (pR HO_1101000.out))) (Kd.R_lt (pR HO1131.out))) (below_size (pS HB.out))); have n11_ := Aside0.mk (Kd.R_lower (Kd.R_new' (Kd.R_new' (Kd.R_new' (Kd.R_new' ho1 (Kd.R_lt (pR HO_1081001.out))) (Kd.R_lt (pR HO_1088001.out))) (Kd.R_lt (pR HO_1101001.out))) (Kd.R_lt (pR HO1134.out))) (below_size (pS HB.out))); have n12_ := Aside0.mk (blk_below (pK BK1059.out) hb); have n13_ := Aside0.mk (blk_below (pK BK1080.out) hb); have n14_ := Aside0.mk (blk_below (pK BK1087.out) hb); have n15_ := Aside0.mk (blk_below (pK BK1100.out) hb); have n16_ := Aside0.mk (below_step (pS HB.out) hb); clear HO_1081000; clear HO_1081001; clear HO_1088000; clear HO_1088001; clear HO_1101000; clear HO_1101001; clear HO1131; clear HO1134; clear HO1137; clear HO1140; clear BK1059; clear BK1080; clear BK1087; clear BK1100; clear HB; have HO_1081000 := n0_; have HO_1081001 := n1_; have HO_1088000 := n2_; have HO_1088001 := n3_; have HO_1101000 := n4_; have HO_1101001 := n5_; have HO1131 := n6_; have HO1134 := n7_; have HO1137 := n8_; have HO1140 := n9_; have HO1143 := n10_; have HO1146 := n11_; have BK1059 := n12_; have BK1080 := n13_; have BK1087 := n14_; have BK1100 := n15_; have HB := n16_; clear n0_ n1_ n2_ n3_ n4_ n5_ n6_ n7_ n8_ n9_ n10_ n11_ n12_ n13_ n14_ n15_ n16_; (try clear hb); (try clear hb2); (try clear hk); (try clear hi); (try clear ho0); (try clear ho1)) | ((with_reducible refine gate_dst (N := 20) rfl ?_); refine box_event ?hg (N := 20) ?hd (cs := #[.slice none 0 0, .slice none 0 0]) (t := 31) ?hr ?_; (case hd => rfl); (case hg => rfl); (case hr => first | (go_simp; done) | (go_simp; rfl)); intro gb1147 hg w142 hbox hb; have n0_ := Aside0.mk (Kd.R_below (pR HO_1081000.out) hb); have n1_ := Aside0.mk (Kd.R_below (pR HO_1081001.out) hb); have n2_ := Aside0.mk (Kd.R_below (pR HO_1088000.out) hb); have n3_ := Aside0.mk (Kd.R_below (pR HO_1088001.out) hb); have n4_ := Aside0.mk (Kd.R_below (pR HO_1101000.out) hb); have n5_ := Aside0.mk (Kd.R_below (pR HO_1101001.out) hb); have n6_ := Aside0.mk (Kd.R_below (pR HO1131.out) hb); have n7_ := Aside0.mk (Kd.R_below (pR HO1134.out) hb); have n8_ := Aside0.mk (Kd.R_below (pR HO1137.out) hb); have n9_ := Aside0.mk (Kd.R_below (pR HO1140.out) hb); have n10_ := Aside0.mk (Kd.R_below (pR HO1143.out) hb); have n11_ := Aside0.mk (Kd.R_below (pR HO1146.out) hb); have n12_ := Aside0.mk (blk_below (pK BK1059.out) hb); have n13_ := Aside0.mk (blk_below (pK BK1080.out) hb); have n14_ := Aside0.mk (blk_below (pK BK1087.out) hb); have n15_ := Aside0.mk (blk_below (pK BK1100.out) hb); have n16_ := Aside0.mk (below_step (pS HB.out) hb); have n17_ := Aside0.mk (hbox); have n18_ := Aside0.mk ((by rw [hg]; exact (below_size (pS HB.out)) : w.heap.size ≤ gb1147)); have n19_ := Aside0.mk ((by rw [hg]; exact (below_size (pS HB.out)) : w.heap.size ≤ gb1147)); have n20_ := Aside0.mk ((by rw [hg]; exact Nat.ne_of_lt (blk_lt (pK BK1059.out)) : gb1059 ≠ gb1147)); have n21_ := Aside0.mk ((by rw [hg]; exact Nat.ne_of_gt (blk_lt (pK BK1059.out)) : gb1147 ≠ gb1059)); have n22_ := Aside0.mk ((by rw [hg]; exact Nat.ne_of_lt (blk_lt (pK BK1080.out)) : gb1080 ≠ gb1147)); have n23_ := Aside0.mk ((by rw [hg]; exact Nat.ne_of_gt (blk_lt (pK BK1080.out)) : gb1147 ≠ gb1080)); have n24_ := Aside0.mk ((by rw [hg]; exact Nat.ne_of_lt (blk_lt (pK BK1087.out)) : gb1087 ≠ gb1147)); have n25_ := Aside0.mk ((by rw [hg]; exact Nat.ne_of_gt (blk_lt (pK BK1087.out)) : gb1147 ≠ gb1087)); have n26_ := Aside0.mk ((by rw [hg]; exact Nat.ne_of_lt (blk_lt (pK BK1100.out)) : gb1100 ≠ gb1147)); have n27_ := Aside0.mk ((by rw [hg]; exact Nat.ne_of_gt (blk_lt (pK BK1100.out)) : gb1147 ≠ gb1100)); clear HO_1081000; clear HO_1081001; clear HO_1088000; clear HO_1088001; clear HO_1101000; clear HO_1101001; clear HO1131; clear HO1134; clear HO1137; clear HO1140; clear HO1143; clear HO1146; clear BK1059; clear BK1080; clear BK1087; clear BK1100; clear HB; have HO_1081000 := n0_; have HO_1081001 := n1_; have HO_1088000 := n2_; have HO_1088001 := n3_; have HO_1101000 := n4_; have HO_1101001 := n5_; have HO1131 := n6_; have HO1134 := n7_; have HO1137 := n8_; have HO1140 := n9_; have HO1143 := n10_; have HO1146 := n11_; have BK1059 := n12_; have BK1080 := n13_; have BK1087 := n14_; have BK1100 := n15_; have HB := n16_; have BK1147 := n17_; have GW1147 := n18_; have GE1147 := n19_; have NB1059_1147 := n20_; have NB1147_1059 := n21_; have NB1080_1147 := n22_; have NB1147_1080 := n23_; have NB1087_1147 := n24_; have NB1147_1087 := n25_; have NB1100_1147 := n26_; have NB1147_1100 := n27_; clear n0_ n1_ n2_ n3_ n4_ n5_ n6_ n7_ n8_ n9_ n10_ n11_ n12_ n13_ n14_ n15_ n16_ n17_ n18_ n19_ n20_ n21_ n22_ n23_ n24_ n25_ n26_ n27_; clear hb hbox hg; obtain ⟨Ao143, co143, eo143⟩ := Kd.R_slice HO1143.out; subst eo143; have hnb144 := NB1147_1059.out; have hnc144 := NB1059_1147.out; have hnb145 := NB1147_1080.out; have hnc145 := NB1080_1147.out; have hnb146 := NB1147_1087.out; have hnc146 := NB1087_1147.out; have hnb147 := NB1147_1100.out; have hnc147 := NB1100_1147.out; have hcz148_0 : w142.cell? ⟨gb1147, 0, none⟩ = some (.slice none 0 0) := (blk_cell BK1147.out 0).trans rfl; have hcz148_1 : w142.cell? ⟨gb1147, 1, none⟩ = some (.slice none 0 0) := (blk_cell BK1147.out 1).trans rfl; have hfz148_0 := blk_frozen BK1147.out 0; have hfz148_1 := blk_frozen BK1147.out 1; obtain ⟨Ao149, co149, eo149⟩ := Kd.R_slice HO1146.out; subst eo149; have hnb150 := NB1080_1087.out; have hnc150 := NB1087_1080.out; have hnb151 := NB1080_1100.out; have hnc151 := NB1100_1080.out; have hcz152_0 : w142.cell? ⟨gb1080, 0, none⟩ = some (.slice Ao38 t1074.length co38) := (blk_cell BK1080.out 0).trans rfl; have hcz152_1 : w142.cell? ⟨gb1080, 1, none⟩ = some (.slice Ao41 t1077.length co41) := (blk_cell BK1080.out 1).trans rfl; have hfz152_0 := blk_frozen BK1080.out 0; have hfz152_1 := blk_frozen BK1080.out 1) | ((with_reducible refine gate_callee (f := 16) rfl ?_); refine goesL_ (some 113) rfl rfl Try.func16 (by kernel_rfl) rfl #[.agg #[.slice Ao143 t1141.length co143, .slice Ao149 t1144.length co149], .agg #[.slice Ao38 t1074.length co38, .slice Ao41 t1077.length co41]] rfl bM ?_; (with_reducible refine (laws_eqSecDisk.calls kj121 _ _ t1141 _ _ t1144 _ _ t1074 _ _ t1077 t1148 _ ?side1 ?side2 ?side3 ?side4 ?side5 ?side6 ?side7 ?side8 A128.out).mono ?_); (case side1 => refine (Kd.R_reads' (e := 9) (base := w.heap.size) (ok := fun k_ => ((((True ∧ some k_ ≠ (.slice Ao38 t1074.length co38 : Value).ownBlock) ∧ some k_ ≠ (.slice Ao45 t1118.length co45 : Value).ownBlock) ∧ some k_ ≠ (.slice Ao57 t1126.length co57 : Value).ownBlock) ∧ some k_ ≠ (.slice Ao137 t1129.length co137 : Value).ownBlock)) (n := t1141.length) (c := co143) ?_).2.2; exact (pR (Kd.R_mono (Kd.R_far (p := ⟨gb1147, 1, none⟩) (Kd.R_far (p := ⟨gb1147, 0, none⟩) (Kd.R_types HO1143.out BK1147.out (by decide)) (fun _ hk => hk.2) (.slice Ao143 t1141.length co143)) (fun _ hk => hk.2) (.slice Ao149 t1144.length co149)) (fun _ h_ => h_.1)))); (case side2 => exact (Kd.R_reads' HO1143.out).2.1); (case side3 => refine (Kd.R_reads' (e := 75) (base := w.heap.size) (ok := fun k_ => ((((True ∧ some k_ ≠ (.slice Ao41 t1077.length co41 : Value).ownBlock) ∧ some k_ ≠ (.slice Ao49 t1119.length co49 : Value).ownBlock) ∧ some k_ ≠ (.slice Ao62 t1127.length co62 : Value).ownBlock) ∧ some k_ ≠ (.slice Ao138 t1132.length co138 : Value).ownBlock)) (n := t1144.length) (c := co149) ?_).2.2; exact (pR (Kd.R_mono (Kd.R_far (p := ⟨gb1147, 1, none⟩) (Kd.R_far (p := ⟨gb1147, 0, none⟩) (Kd.R_types HO1146.out BK1147.out (by decide)) (fun _ hk => hk.2) (.slice Ao143 t1141.length co143)) (fun _ hk => hk.2) (.slice Ao149 t1144.length co149)) (fun _ h_ => h_.1)))); (case side4 => exact (Kd.R_reads' HO1146.out).2.1); (case side5 => refine (Kd.R_reads' (e := 9) (base := w.heap.size) (ok := fun k_ => (((some k_ ≠ (.slice Ao45 t1118.length co45 : Value).ownBlock ∧ some k_ ≠ (.slice Ao57 t1126.length co57 : Value).ownBlock) ∧ some k_ ≠ (.slice Ao137 t1129.length co137 : Value).ownBlock) ∧ some k_ ≠ (.slice Ao143 t1141.length co143 : Value).ownBlock)) (n := t1074.length) (c := co38) ?_).2.2; exact (pR (Kd.R_mono (Kd.R_far (p := ⟨gb1147, 1, none⟩) (Kd.R_far (p := ⟨gb1147, 0, none⟩) (Kd.R_types HO_1081000.out BK1147.out (by decide)) (fun _ hk => hk.2) (.slice Ao143 t1141.length co143)) (fun _ hk => hk.2) (.slice Ao149 t1144.length co149)) (fun _ h_ => h_.1)))); (case side6 => exact (Kd.R_reads' HO_1081000.out).2.1); (case side7 => refine (Kd.R_reads' (e := 75) (base := w.heap.size) (ok := fun k_ => (((some k_ ≠ (.slice Ao49 t1119.length co49 : Value).ownBlock ∧ some k_ ≠ (.slice Ao62 t1127.length co62 : Value).ownBlock) ∧ some k_ ≠ (.slice Ao138 t1132.length co138 : Value).ownBlock) ∧ some k_ ≠ (.slice Ao149 t1144.length co149 : Value).ownBlock)) (n := t1077.length) (c := co41) ?_).2.2; exact (pR (Kd.R_mono (Kd.R_far (p := ⟨gb1147, 1, none⟩) (Kd.R_far (p := ⟨gb1147, 0, none⟩) (Kd.R_types HO_1081001.out BK1147.out (by decide)) (fun _ hk => hk.2) (.slice Ao143 t1141.length co143)) (fun _ hk => hk.2) (.slice Ao149 t1144.length co149)) (fun _ h_ => h_.1)))); (case side8 => exact (Kd.R_reads' HO_1081001.out).2.1); rintro e w153 ⟨rfl, hb⟩; refine ⟨_, rfl, ?_⟩; have n0_ := Aside0.mk (Kd.R_below (pR (Kd.R_mono (Kd.R_far (p := ⟨gb1147, 1, none⟩) (Kd.R_far (p := ⟨gb1147, 0, none⟩) (Kd.R_types HO_1081000.out BK1147.out (by decide)) (fun _ hk => hk.2) (.slice Ao143 t1141.length co143)) (fun _ hk => hk.2) (.slice Ao149 t1144.length co149)) (fun _ h_ => h_.1))) hb); have n1_ := Aside0.mk (Kd.R_below (pR (Kd.R_mono (Kd.R_far (p := ⟨gb1147, 1, none⟩) (Kd.R_far (p := ⟨gb1147, 0, none⟩) (Kd.R_types HO_1081001.out BK1147.out (by decide)) (fun _ hk => hk.2) (.slice Ao143 t1141.length co143)) (fun _ hk => hk.2) (.slice Ao149 t1144.length co149)) (fun _ h_ => h_.1))) hb); have n2_ := Aside0.mk (Kd.R_below (pR (Kd.R_mono (Kd.R_far (p := ⟨gb1147, 1, none⟩) (Kd.R_far (p := ⟨gb1147, 0, none⟩) (Kd.R_types HO_1088000.out BK1147.out (by decide)) (fun _ hk => hk.2) (.slice Ao143 t1141.length co143)) (fun _ hk => hk.2) (.slice Ao149 t1144.length co149)) (fun _ h_ => h_.1))) hb); have n3_ := Aside0.mk (Kd.R_below (pR (Kd.R_mono (Kd.R_far (p := ⟨gb1147, 1, none⟩) (Kd.R_far (p := ⟨gb1147, 0, none⟩) (Kd.R_types HO_1088001.out BK1147.out (by decide)) (fun _ hk => hk.2) (.slice Ao143 t1141.length co143)) (fun _ hk => hk.2) (.slice Ao149 t1144.length co149)) (fun _ h_ => h_.1))) hb); have n4_ := Aside0.mk (Kd.R_below (pR (Kd.R_mono (Kd.R_far (p := ⟨gb1147, 1, none⟩) (Kd.R_far (p := ⟨gb1147, 0, none⟩) (Kd.R_types HO_1101000.out BK1147.out (by decide)) (fun _ hk => hk.2) (.slice Ao143 t1141.length co143)) (fun _ hk => hk.2) (.slice Ao149 t1144.length co149)) (fun _ h_ => h_.1))) hb); have n5_ := Aside0.mk (Kd.R_below (pR (Kd.R_mono (Kd.R_far (p := ⟨gb1147, 1, none⟩) (Kd.R_far (p := ⟨gb1147, 0, none⟩) (Kd.R_types HO_1101001.out BK1147.out (by decide)) (fun _ hk => hk.2) (.slice Ao143 t1141.length co143)) (fun _ hk => hk.2) (.slice Ao149 t1144.length co149)) (fun _ h_ => h_.1))) hb); have n6_ := Aside0.mk (Kd.R_below (pR (Kd.R_mono (Kd.R_far (p := ⟨gb1147, 1, none⟩) (Kd.R_far (p := ⟨gb1147, 0, none⟩) (Kd.R_types HO1131.out BK1147.out (by decide)) (fun _ hk => hk.2) (.slice Ao143 t1141.length co143)) (fun _ hk => hk.2) (.slice Ao149 t1144.length co149)) (fun _ h_ => h_.1))) hb); have n7_ := Aside0.mk (Kd.R_below (pR (Kd.R_mono (Kd.R_far (p := ⟨gb1147, 1, none⟩) (Kd.R_far (p := ⟨gb1147, 0, none⟩) (Kd.R_types HO1134.out BK1147.out (by decide)) (fun _ hk => hk.2) (.slice Ao143 t1141.length co143)) (fun _ hk => hk.2) (.slice Ao149 t1144.length co149)) (fun _ h_ => h_.1))) hb); have n8_ := Aside0.mk (Kd.R_below (pR (Kd.R_mono (Kd.R_far (p := ⟨gb1147, 1, none⟩) (Kd.R_far (p := ⟨gb1147, 0, none⟩) (Kd.R_types HO1137.out BK1147.out (by decide)) (fun _ hk => hk.2) (.slice Ao143 t1141.length co143)) (fun _ hk => hk.2) (.slice Ao149 t1144.length co149)) (fun _ h_ => h_.1))) hb); have n9_ := Aside0.mk (Kd.R_below (pR (Kd.R_mono (Kd.R_far (p := ⟨gb1147, 1, none⟩) (Kd.R_far (p := ⟨gb1147, 0, none⟩) (Kd.R_types HO1140.out BK1147.out (by decide)) (fun _ hk => hk.2) (.slice Ao143 t1141.length co143)) (fun _ hk => hk.2) (.slice Ao149 t1144.length co149)) (fun _ h_ => h_.1))) hb); have n10_ := Aside0.mk (Kd.R_below (pR (Kd.R_mono (Kd.R_far (p := ⟨gb1147, 1, none⟩) (Kd.R_far (p := ⟨gb1147, 0, none⟩) (Kd.R_types HO1143.out BK1147.out (by decide)) (fun _ hk => hk.2) (.slice Ao143 t1141.length co143)) (fun _ hk => hk.2) (.slice Ao149 t1144.length co149)) (fun _ h_ => h_.1))) hb); have n11_ := Aside0.mk (Kd.R_below (pR (Kd.R_mono (Kd.R_far (p := ⟨gb1147, 1, none⟩) (Kd.R_far (p := ⟨gb1147, 0, none⟩) (Kd.R_types HO1146.out BK1147.out (by decide)) (fun _ hk => hk.2) (.slice Ao143 t1141.length co143)) (fun _ hk => hk.2) (.slice Ao149 t1144.length co149)) (fun _ h_ => h_.1))) hb); have n12_ := Aside0.mk (blk_below (g := gb1059) (o := .cells #[.slice A0_0 l0_0.length c0_0, .slice A0_1 l0_1.length c0_1] 25 (0, 0)) (by (with_reducible repeat (first | refine blk_drewN ?_ _ | refine blk_drew ?_ | refine blk_alloc ?_ _)); refine blk_far ?_ NB1059_1147.out _; (with_reducible repeat (first | refine blk_drewN ?_ _ | refine blk_drew ?_ | refine blk_alloc ?_ _)); refine blk_far ?_ NB1059_1147.out _; (with_reducible repeat (first | refine blk_drewN ?_ _ | refine blk_drew ?_ | refine blk_alloc ?_ _)); exact BK1059.out) hb); have n13_ := Aside0.mk (blk_below (g := gb1080) (o := .cells #[.slice Ao38 t1074.length co38, .slice Ao41 t1077.length co41] 31 (0, 0)) (by (with_reducible repeat (first | refine blk_drewN ?_ _ | refine blk_drew ?_ | refine blk_alloc ?_ _)); refine blk_far ?_ NB1080_1147.out _; (with_reducible repeat (first | refine blk_drewN ?_ _ | refine blk_drew ?_ | refine blk_alloc ?_ _)); refine blk_far ?_ NB1080_1147.out _; (with_reducible repeat (first | refine blk_drewN ?_ _ | refine blk_drew ?_ | refine blk_alloc ?_ _)); exact BK1080.out) hb); have n14_ := Aside0.mk (blk_below (g := gb1087) (o := .cells #[.slice Ao45 t1118.length co45, .slice Ao49 t1119.length co49] 31 (0, 0)) (by (with_reducible repeat (first | refine blk_drewN ?_ _ | refine blk_drew ?_ | refine blk_alloc ?_ _)); refine blk_far ?_ NB1087_1147.out _; (with_reducible repeat (first | refine blk_drewN ?_ _ | refine blk_drew ?_ | refine blk_alloc ?_ _)); refine blk_far ?_ NB1087_1147.out _; (with_reducible repeat (first | refine blk_drewN ?_ _ | refine blk_drew ?_ | refine blk_alloc ?_ _)); exact BK1087.out) hb); have n15_ := Aside0.mk (blk_below (g := gb1100) (o := .cells #[.slice Ao57 t1126.length co57, .slice Ao62 t1127.length co62] 31 (0, 0)) (by (with_reducible repeat (first | refine blk_drewN ?_ _ | refine blk_drew ?_ | refine blk_alloc ?_ _)); refine blk_far ?_ NB1100_1147.out _; (with_reducible repeat (first | refine blk_drewN ?_ _ | refine blk_drew ?_ | refine blk_alloc ?_ _)); refine blk_far ?_ NB1100_1147.out _; (with_reducible repeat (first | refine blk_drewN ?_ _ | refine blk_drew ?_ | refine blk_alloc ?_ _)); exact BK1100.out) hb); have n16_ := Aside0.mk (blk_below (g := gb1147) (o := .cells #[.slice Ao143 t1141.length co143, .slice Ao149 t1144.length co149] 31 (0, 0)) (by (with_reducible repeat (first | refine blk_drewN ?_ _ | refine blk_drew ?_ | refine blk_alloc ?_ _)); refine blk_put (cs := #[.slice Ao143 t1141.length co143, .slice none 0 0]) ?_ 1 _ rfl; (with_reducible repeat (first | refine blk_drewN ?_ _ | refine blk_drew ?_ | refine blk_alloc ?_ _)); refine blk_put (cs := #[.slice none 0 0, .slice none 0 0]) ?_ 0 _ rfl; (with_reducible repeat (first | refine blk_drewN ?_ _ | refine blk_drew ?_ | refine blk_alloc ?_ _)); exact BK1147.out) hb); have n17_ := Aside0.mk (below_step (pS HB.out) hb); clear HO_1081000; clear HO_1081001; clear HO_1088000; clear HO_1088001; clear HO_1101000; clear HO_1101001; clear HO1131; clear HO1134; clear HO1137; clear HO1140; clear HO1143; clear HO1146; clear BK1059; clear BK1080; clear BK1087; clear BK1100; clear BK1147; clear HB; have HO_1081000 := n0_; have HO_1081001 := n1_; have HO_1088000 := n2_; have HO_1088001 := n3_; have HO_1101000 := n4_; have HO_1101001 := n5_; have HO1131 := n6_; have HO1134 := n7_; have HO1137 := n8_; have HO1140 := n9_; have HO1143 := n10_; have HO1146 := n11_; have BK1059 := n12_; have BK1080 := n13_; have BK1087 := n14_; have BK1100 := n15_; have BK1147 := n16_; have HB := n17_; clear n0_ n1_ n2_ n3_ n4_ n5_ n6_ n7_ n8_ n9_ n10_ n11_ n12_ n13_ n14_ n15_ n16_ n17_; (try clear hb); (try clear hb2); (try clear hk); (try clear hi)))
                       (try simp only [Act.put, List.setIfInBounds_toArray, List.set_cons_zero, List.set_cons_succ])
                       go_cut [] (fun wc => ∃ (kq : Nat), Aside0 (laws_FnExactWalDo.j11 kq t1125 t1126 t1127 = some r) ∧ Aside0 (kq ≤ kj121) ∧ Aside0 (Kd.R Kd.string 9 wc w.heap.size (fun k_ => some k_ ≠ ((.slice Ao45 t1118.length co45) : Value).ownBlock ∧ some k_ ≠ ((.slice Ao57 t1126.length co57) : Value).ownBlock ∧ some k_ ≠ ((.slice Ao143 t1141.length co143) : Value).ownBlock) (.slice Ao38 t1074.length co38) t1074) ∧ Aside0 (Kd.R k75 75 wc w.heap.size (fun k_ => some k_ ≠ ((.slice Ao49 t1119.length co49) : Value).ownBlock ∧ some k_ ≠ ((.slice Ao62 t1127.length co62) : Value).ownBlock ∧ some k_ ≠ ((.slice Ao149 t1144.length co149) : Value).ownBlock) (.slice Ao41 t1077.length co41) t1077) ∧ Aside0 (Kd.R Kd.string 9 wc w.heap.size (fun k_ => some k_ ≠ ((.slice Ao38 t1074.length co38) : Value).ownBlock ∧ some k_ ≠ ((.slice Ao57 t1126.length co57) : Value).ownBlock ∧ some k_ ≠ ((.slice Ao143 t1141.length co143) : Value).ownBlock) (.slice Ao45 t1118.length co45) t1118) ∧ Aside0 (Kd.R k75 75 wc w.heap.size (fun k_ => some k_ ≠ ((.slice Ao41 t1077.length co41) : Value).ownBlock ∧ some k_ ≠ ((.slice Ao62 t1127.length co62) : Value).ownBlock ∧ some k_ ≠ ((.slice Ao149 t1144.length co149) : Value).ownBlock) (.slice Ao49 t1119.length co49) t1119) ∧ Aside0 (Kd.R Kd.string 9 wc w.heap.size (fun k_ => some k_ ≠ ((.slice Ao38 t1074.length co38) : Value).ownBlock ∧ some k_ ≠ ((.slice Ao45 t1118.length co45) : Value).ownBlock ∧ some k_ ≠ ((.slice Ao143 t1141.length co143) : Value).ownBlock) (.slice Ao57 t1126.length co57) t1126) ∧ Aside0 (Kd.R k75 75 wc w.heap.size (fun k_ => some k_ ≠ ((.slice Ao41 t1077.length co41) : Value).ownBlock ∧ some k_ ≠ ((.slice Ao49 t1119.length co49) : Value).ownBlock ∧ some k_ ≠ ((.slice Ao149 t1144.length co149) : Value).ownBlock) (.slice Ao62 t1127.length co62) t1127) ∧ Aside0 (Kd.R Kd.string 9 wc w.heap.size (fun k_ => some k_ ≠ ((.slice Ao38 t1074.length co38) : Value).ownBlock ∧ some k_ ≠ ((.slice Ao45 t1118.length co45) : Value).ownBlock ∧ some k_ ≠ ((.slice Ao57 t1126.length co57) : Value).ownBlock) (.slice Ao143 t1141.length co143) t1141) ∧ Aside0 (Kd.R k75 75 wc w.heap.size (fun k_ => some k_ ≠ ((.slice Ao41 t1077.length co41) : Value).ownBlock ∧ some k_ ≠ ((.slice Ao49 t1119.length co49) : Value).ownBlock ∧ some k_ ≠ ((.slice Ao62 t1127.length co62) : Value).ownBlock) (.slice Ao149 t1144.length co149) t1144) ∧ Aside0 (wc.heap[gb1059]? = some (.cells #[(.slice A0_0 l0_0.length c0_0), (.slice A0_1 l0_1.length c0_1)] 25 (0, 0))) ∧ Aside0 (wc.heap[gb1080]? = some (.cells #[(.slice Ao38 t1074.length co38), (.slice Ao41 t1077.length co41)] 31 (0, 0))) ∧ Aside0 (wc.heap[gb1087]? = some (.cells #[(.slice Ao45 t1118.length co45), (.slice Ao49 t1119.length co49)] 31 (0, 0))) ∧ Aside0 (wc.heap[gb1100]? = some (.cells #[(.slice Ao57 t1126.length co57), (.slice Ao62 t1127.length co62)] 31 (0, 0))) ∧ Aside0 (wc.heap[gb1147]? = some (.cells #[(.slice Ao143 t1141.length co143), (.slice Ao149 t1144.length co149)] 31 (0, 0))) ∧ Aside0 (Below w.heap.size w wc))
                       case first =>
                        have H := HC129.out
                        clear HC129
                        by_cases c154 : t1148 = true
                        ·subst c154
                         have H1 : (laws_FnExactWalDo.j11 kj121 t1125 t1126 t1127) = some r := by rw [if_pos rfl] at H; exact H
                         clear H
                         have H := H1
                         clear H1
                         have H' := Aside0.mk H
                         clear H
                         go_wp2
                         go_meet
                         case rel => exact ⟨_, H', ⟨by have := HJ5.out; have := HJ9.out; have := HJ14.out; have := HJ26.out; have := HJ67.out; have := HJ76.out; have := HJ83.out; have := HJ90.out; have := HJ108.out; have := HJ112.out; have := HJ121.out; first | omega | exact Nat.le_refl _⟩, ⟨by (try simp only [hl1088000_90]); (try simp only [hl1088001_90]); (try simp only [hl1101000_112]); (try simp only [hl1101001_112]); (with_reducible repeat (first | apply Kd.R_alloc | apply Kd.R_drewN | apply Kd.R_drew)); exact Kd.R_mono HO_1081000.out (fun _ hk => ⟨hk.1.1.1, ⟨hk.1.1.2, hk.2⟩⟩)⟩, ⟨by (try simp only [hl1088000_90]); (try simp only [hl1088001_90]); (try simp only [hl1101000_112]); (try simp only [hl1101001_112]); (with_reducible repeat (first | apply Kd.R_alloc | apply Kd.R_drewN | apply Kd.R_drew)); exact Kd.R_mono HO_1081001.out (fun _ hk => ⟨hk.1.1.1, ⟨hk.1.1.2, hk.2⟩⟩)⟩, ⟨by (try simp only [hl1088000_90]); (try simp only [hl1088001_90]); (try simp only [hl1101000_112]); (try simp only [hl1101001_112]); (with_reducible repeat (first | apply Kd.R_alloc | apply Kd.R_drewN | apply Kd.R_drew)); exact Kd.R_mono HO_1088000.out (fun _ hk => ⟨hk.1.1.1, ⟨hk.1.1.2, hk.2⟩⟩)⟩, ⟨by (try simp only [hl1088000_90]); (try simp only [hl1088001_90]); (try simp only [hl1101000_112]); (try simp only [hl1101001_112]); (with_reducible repeat (first | apply Kd.R_alloc | apply Kd.R_drewN | apply Kd.R_drew)); exact Kd.R_mono HO_1088001.out (fun _ hk => ⟨hk.1.1.1, ⟨hk.1.1.2, hk.2⟩⟩)⟩, ⟨by (try simp only [hl1088000_90]); (try simp only [hl1088001_90]); (try simp only [hl1101000_112]); (try simp only [hl1101001_112]); (with_reducible repeat (first | apply Kd.R_alloc | apply Kd.R_drewN | apply Kd.R_drew)); exact Kd.R_mono HO_1101000.out (fun _ hk => ⟨hk.1.1.1, ⟨hk.1.1.2, hk.2⟩⟩)⟩, ⟨by (try simp only [hl1088000_90]); (try simp only [hl1088001_90]); (try simp only [hl1101000_112]); (try simp only [hl1101001_112]); (with_reducible repeat (first | apply Kd.R_alloc | apply Kd.R_drewN | apply Kd.R_drew)); exact Kd.R_mono HO_1101001.out (fun _ hk => ⟨hk.1.1.1, ⟨hk.1.1.2, hk.2⟩⟩)⟩, ⟨by (try simp only [hl1088000_90]); (try simp only [hl1088001_90]); (try simp only [hl1101000_112]); (try simp only [hl1101001_112]); (with_reducible repeat (first | apply Kd.R_alloc | apply Kd.R_drewN | apply Kd.R_drew)); exact Kd.R_mono HO1143.out (fun _ hk => ⟨hk.1.1.1.2, ⟨hk.1.1.2, hk.1.2⟩⟩)⟩, ⟨by (try simp only [hl1088000_90]); (try simp only [hl1088001_90]); (try simp only [hl1101000_112]); (try simp only [hl1101001_112]); (with_reducible repeat (first | apply Kd.R_alloc | apply Kd.R_drewN | apply Kd.R_drew)); exact Kd.R_mono HO1146.out (fun _ hk => ⟨hk.1.1.1.2, ⟨hk.1.1.2, hk.1.2⟩⟩)⟩, ⟨by (try simp only [hl1088000_90]); (try simp only [hl1088001_90]); (try simp only [hl1101000_112]); (try simp only [hl1101001_112]); (with_reducible repeat (first | refine blk_drewN ?_ _ | refine blk_drew ?_ | refine blk_alloc ?_ _)); exact BK1059.out⟩, ⟨by (try simp only [hl1088000_90]); (try simp only [hl1088001_90]); (try simp only [hl1101000_112]); (try simp only [hl1101001_112]); (with_reducible repeat (first | refine blk_drewN ?_ _ | refine blk_drew ?_ | refine blk_alloc ?_ _)); exact BK1080.out⟩, ⟨by (try simp only [hl1088000_90]); (try simp only [hl1088001_90]); (try simp only [hl1101000_112]); (try simp only [hl1101001_112]); (with_reducible repeat (first | refine blk_drewN ?_ _ | refine blk_drew ?_ | refine blk_alloc ?_ _)); exact BK1087.out⟩, ⟨by (try simp only [hl1088000_90]); (try simp only [hl1088001_90]); (try simp only [hl1101000_112]); (try simp only [hl1101001_112]); (with_reducible repeat (first | refine blk_drewN ?_ _ | refine blk_drew ?_ | refine blk_alloc ?_ _)); exact BK1100.out⟩, ⟨by (try simp only [hl1088000_90]); (try simp only [hl1088001_90]); (try simp only [hl1101000_112]); (try simp only [hl1101001_112]); (with_reducible repeat (first | refine blk_drewN ?_ _ | refine blk_drew ?_ | refine blk_alloc ?_ _)); exact BK1147.out⟩, ⟨pS HB.out⟩⟩
                        ·replace c154 := Bool.eq_false_iff.mpr c154
                         subst c154
                         have H1 : (some false) = some r := by rw [if_neg (show ¬ (false = true) by decide)] at H; exact H
                         clear H
                         have H := H1
                         clear H1
                         obtain rfl := Option.some.inj H
                         go_wp2
                         go_ret
                         exact ⟨by first | rfl | (simp [errW_none, errW_some] <;> rfl) | (simp [*, errW_none, errW_some] <;> rfl), pS HB.out⟩
                       case rest =>
                        clear HC129
                        try clear c1
                        try clear c2
                        try clear p2
                        try clear c3
                        try clear c4
                        try clear c5
                        try clear c6
                        try clear c7
                        try clear c8
                        try clear c8b0
                        try clear c8b1
                        try clear c9
                        try clear c10
                        try clear c11
                        try clear c12
                        try clear c13
                        try clear c13b0
                        try clear c14
                        try clear c15
                        try clear c16
                        try clear c17
                        try clear c17b0
                        try clear c22
                        try clear c23
                        try clear c30
                        try clear c32
                        try clear c33
                        try clear c34
                        try clear c35
                        try clear c36
                        try clear c37
                        try clear c38
                        try clear c39
                        try clear c46
                        try clear c47
                        try clear c58
                        try clear c59
                        try clear c60
                        try clear c65
                        try clear c74
                        try clear c81
                        try clear c87
                        try clear c92
                        try clear c93
                        try clear c94
                        try clear c99
                        try clear c99b0
                        try clear c101
                        try clear c102
                        try clear c103
                        try clear c105
                        try clear c106
                        try clear c110
                        try clear c114
                        try clear c115
                        try clear c116
                        try clear c121
                        try clear c121b0
                        try clear c123
                        try clear c123b0
                        try clear c123b1
                        try clear c130
                        try clear c131
                        try clear c132
                        try clear c144
                        try clear c145
                        try clear c146
                        try clear c147
                        try clear c150
                        try clear c151
                        try clear c154
                        try clear hcz104_0
                        try clear hcz104_1
                        try clear hcz107_0
                        try clear hcz107_1
                        try clear hcz117_0
                        try clear hcz117_1
                        try clear hcz119_0
                        try clear hcz119_1
                        try clear hcz11_0
                        try clear hcz11_1
                        try clear hcz133_0
                        try clear hcz133_1
                        try clear hcz148_0
                        try clear hcz148_1
                        try clear hcz152_0
                        try clear hcz152_1
                        try clear hcz28_0
                        try clear hcz28_1
                        try clear hcz40_0
                        try clear hcz40_1
                        try clear hcz42_0
                        try clear hcz42_1
                        try clear hcz48_0
                        try clear hcz48_1
                        try clear hcz52_0
                        try clear hcz52_1
                        try clear hcz61_0
                        try clear hcz61_1
                        try clear hcz63_0
                        try clear hcz63_1
                        try clear hcz95_0
                        try clear hcz95_1
                        try clear hfz104_0
                        try clear hfz104_1
                        try clear hfz107_0
                        try clear hfz107_1
                        try clear hfz117_0
                        try clear hfz117_1
                        try clear hfz119_0
                        try clear hfz119_1
                        try clear hfz11_0
                        try clear hfz11_1
                        try clear hfz133_0
                        try clear hfz133_1
                        try clear hfz148_0
                        try clear hfz148_1
                        try clear hfz152_0
                        try clear hfz152_1
                        try clear hfz28_0
                        try clear hfz28_1
                        try clear hfz40_0
                        try clear hfz40_1
                        try clear hfz42_0
                        try clear hfz42_1
                        try clear hfz48_0
                        try clear hfz48_1
                        try clear hfz52_0
                        try clear hfz52_1
                        try clear hfz61_0
                        try clear hfz61_1
                        try clear hfz63_0
                        try clear hfz63_1
                        try clear hfz95_0
                        try clear hfz95_1
                        try clear p2
                        obtain ⟨kq, HA, HJ128, HO_1081000, HO_1081001, HO_1088000, HO_1088001, HO_1101000, HO_1101001, HO_1148000, HO_1148001, BK1059, BK1080, BK1087, BK1100, BK1147, HB⟩ := hcut
                        cases kq with
                        | zero => exact absurd HA.out (by simp [laws_FnExactWalDo.j11])
                        | succ kj128 =>
                         have H := HA.out
                         clear HA
                         simp only [laws_FnExactWalDo.j11] at H
                         replace H := Option.bind_eq_some_iff.mp H
                         obtain ⟨t1149, A1550, H⟩ := H
                         replace H : (if t1149 < 0 then (some false) else (if t1149 = t1125 then (some true) else (some false))) = some r := H
                         have A155 := Aside0.mk A1550
                         clear A1550
                         by_cases c156 : t1149 < 0
                         ·rw [if_pos c156] at H
                          have c156b0 : decide (t1149 < 0) = true := decide_eq_true c156
                          clear c156
                          obtain rfl := Option.some.inj H
                          have hnb157 := NB1100_1059.out
                          have hnc157 := NB1059_1100.out
                          have hnb158 := NB1100_1080.out
                          have hnc158 := NB1080_1100.out
                          have hnb159 := NB1100_1087.out
                          have hnc159 := NB1087_1100.out
                          have hnb160 := NB1100_1147.out
                          have hnc160 := NB1147_1100.out
                          have hcz161_0 : wc.cell? ⟨gb1100, 0, none⟩ = some (.slice Ao57 t1126.length co57) := (blk_cell BK1100.out 0).trans rfl
                          have hcz161_1 : wc.cell? ⟨gb1100, 1, none⟩ = some (.slice Ao62 t1127.length co62) := (blk_cell BK1100.out 1).trans rfl
                          have hfz161_0 := blk_frozen BK1100.out 0
                          have hfz161_1 := blk_frozen BK1100.out 1
                          go_wp2_with (first | ((with_reducible refine gate_callee (f := 38) rfl ?_); refine goesL_ (some 117) rfl rfl Try.func38 (by kernel_rfl) rfl #[.agg #[.slice Ao57 t1126.length co57, .slice Ao62 t1127.length co62], .int .i64 1] rfl bM ?_; (with_reducible refine (laws_heldSecDisk.calls kj128 _ _ t1126 _ _ t1127 1 t1149 _ ?side1 ?side2 ?side3 ?side4 A155.out).mono ?_); (case side1 => exact pC (Kd.R_reads' HO_1101000.out).2.2); (case side2 => exact (Kd.R_reads' HO_1101000.out).2.1); (case side3 => exact pC (Kd.R_reads' HO_1101001.out).2.2); (case side4 => exact (Kd.R_reads' HO_1101001.out).2.1); rintro e w162 ⟨rfl, hb⟩; refine ⟨_, rfl, ?_⟩; have n0_ := Aside0.mk (Kd.R_below (pR HO_1081000.out) hb); have n1_ := Aside0.mk (Kd.R_below (pR HO_1081001.out) hb); have n2_ := Aside0.mk (Kd.R_below (pR HO_1088000.out) hb); have n3_ := Aside0.mk (Kd.R_below (pR HO_1088001.out) hb); have n4_ := Aside0.mk (Kd.R_below (pR HO_1101000.out) hb); have n5_ := Aside0.mk (Kd.R_below (pR HO_1101001.out) hb); have n6_ := Aside0.mk (Kd.R_below (pR HO_1148000.out) hb); have n7_ := Aside0.mk (Kd.R_below (pR HO_1148001.out) hb); have n8_ := Aside0.mk (blk_below (pK BK1059.out) hb); have n9_ := Aside0.mk (blk_below (pK BK1080.out) hb); have n10_ := Aside0.mk (blk_below (pK BK1087.out) hb); have n11_ := Aside0.mk (blk_below (pK BK1100.out) hb); have n12_ := Aside0.mk (blk_below (pK BK1147.out) hb); have n13_ := Aside0.mk (below_step (pS HB.out) hb); clear HO_1081000; clear HO_1081001; clear HO_1088000; clear HO_1088001; clear HO_1101000; clear HO_1101001; clear HO_1148000; clear HO_1148001; clear BK1059; clear BK1080; clear BK1087; clear BK1100; clear BK1147; clear HB; have HO_1081000 := n0_; have HO_1081001 := n1_; have HO_1088000 := n2_; have HO_1088001 := n3_; have HO_1101000 := n4_; have HO_1101001 := n5_; have HO_1148000 := n6_; have HO_1148001 := n7_; have BK1059 := n8_; have BK1080 := n9_; have BK1087 := n10_; have BK1100 := n11_; have BK1147 := n12_; have HB := n13_; clear n0_ n1_ n2_ n3_ n4_ n5_ n6_ n7_ n8_ n9_ n10_ n11_ n12_ n13_; (try clear hb); (try clear hb2); (try clear hk); (try clear hi)))
                          go_ret
                          exact ⟨by first | rfl | (simp [errW_none, errW_some] <;> rfl) | (simp [*, errW_none, errW_some] <;> rfl), pS HB.out⟩
                         ·rw [if_neg c156] at H
                          have c156b0 : decide (t1149 < 0) = false := decide_eq_false c156
                          clear c156
                          by_cases c163 : t1149 = t1125
                          ·rw [if_pos c163] at H
                           have c163b0 : (t1149 == t1125) = true := beq_iff_eq.mpr c163
                           have c163b1 : (t1149 != t1125) = false := bne_eq_false_iff_eq.mpr c163
                           clear c163
                           obtain rfl := Option.some.inj H
                           have hnb164 := NB1100_1059.out
                           have hnc164 := NB1059_1100.out
                           have hnb165 := NB1100_1080.out
                           have hnc165 := NB1080_1100.out
                           have hnb166 := NB1100_1087.out
                           have hnc166 := NB1087_1100.out
                           have hnb167 := NB1100_1147.out
                           have hnc167 := NB1147_1100.out
                           have hcz168_0 : wc.cell? ⟨gb1100, 0, none⟩ = some (.slice Ao57 t1126.length co57) := (blk_cell BK1100.out 0).trans rfl
                           have hcz168_1 : wc.cell? ⟨gb1100, 1, none⟩ = some (.slice Ao62 t1127.length co62) := (blk_cell BK1100.out 1).trans rfl
                           have hfz168_0 := blk_frozen BK1100.out 0
                           have hfz168_1 := blk_frozen BK1100.out 1
                           go_wp2_with (first | ((with_reducible refine gate_callee (f := 38) rfl ?_); refine goesL_ (some 117) rfl rfl Try.func38 (by kernel_rfl) rfl #[.agg #[.slice Ao57 t1126.length co57, .slice Ao62 t1127.length co62], .int .i64 1] rfl bM ?_; (with_reducible refine (laws_heldSecDisk.calls kj128 _ _ t1126 _ _ t1127 1 t1149 _ ?side1 ?side2 ?side3 ?side4 A155.out).mono ?_); (case side1 => exact pC (Kd.R_reads' HO_1101000.out).2.2); (case side2 => exact (Kd.R_reads' HO_1101000.out).2.1); (case side3 => exact pC (Kd.R_reads' HO_1101001.out).2.2); (case side4 => exact (Kd.R_reads' HO_1101001.out).2.1); rintro e w169 ⟨rfl, hb⟩; refine ⟨_, rfl, ?_⟩; have n0_ := Aside0.mk (Kd.R_below (pR HO_1081000.out) hb); have n1_ := Aside0.mk (Kd.R_below (pR HO_1081001.out) hb); have n2_ := Aside0.mk (Kd.R_below (pR HO_1088000.out) hb); have n3_ := Aside0.mk (Kd.R_below (pR HO_1088001.out) hb); have n4_ := Aside0.mk (Kd.R_below (pR HO_1101000.out) hb); have n5_ := Aside0.mk (Kd.R_below (pR HO_1101001.out) hb); have n6_ := Aside0.mk (Kd.R_below (pR HO_1148000.out) hb); have n7_ := Aside0.mk (Kd.R_below (pR HO_1148001.out) hb); have n8_ := Aside0.mk (blk_below (pK BK1059.out) hb); have n9_ := Aside0.mk (blk_below (pK BK1080.out) hb); have n10_ := Aside0.mk (blk_below (pK BK1087.out) hb); have n11_ := Aside0.mk (blk_below (pK BK1100.out) hb); have n12_ := Aside0.mk (blk_below (pK BK1147.out) hb); have n13_ := Aside0.mk (below_step (pS HB.out) hb); clear HO_1081000; clear HO_1081001; clear HO_1088000; clear HO_1088001; clear HO_1101000; clear HO_1101001; clear HO_1148000; clear HO_1148001; clear BK1059; clear BK1080; clear BK1087; clear BK1100; clear BK1147; clear HB; have HO_1081000 := n0_; have HO_1081001 := n1_; have HO_1088000 := n2_; have HO_1088001 := n3_; have HO_1101000 := n4_; have HO_1101001 := n5_; have HO_1148000 := n6_; have HO_1148001 := n7_; have BK1059 := n8_; have BK1080 := n9_; have BK1087 := n10_; have BK1100 := n11_; have BK1147 := n12_; have HB := n13_; clear n0_ n1_ n2_ n3_ n4_ n5_ n6_ n7_ n8_ n9_ n10_ n11_ n12_ n13_; (try clear hb); (try clear hb2); (try clear hk); (try clear hi)))
                           go_ret
                           exact ⟨by first | rfl | (simp [errW_none, errW_some] <;> rfl) | (simp [*, errW_none, errW_some] <;> rfl), pS HB.out⟩
                          ·rw [if_neg c163] at H
                           have c163b0 : (t1149 == t1125) = false := beq_eq_false_iff_ne.mpr c163
                           have c163b1 : (t1149 != t1125) = true := bne_iff_ne.mpr c163
                           obtain rfl := Option.some.inj H
                           have hnb170 := NB1100_1059.out
                           have hnc170 := NB1059_1100.out
                           have hnb171 := NB1100_1080.out
                           have hnc171 := NB1080_1100.out
                           have hnb172 := NB1100_1087.out
                           have hnc172 := NB1087_1100.out
                           have hnb173 := NB1100_1147.out
                           have hnc173 := NB1147_1100.out
                           have hcz174_0 : wc.cell? ⟨gb1100, 0, none⟩ = some (.slice Ao57 t1126.length co57) := (blk_cell BK1100.out 0).trans rfl
                           have hcz174_1 : wc.cell? ⟨gb1100, 1, none⟩ = some (.slice Ao62 t1127.length co62) := (blk_cell BK1100.out 1).trans rfl
                           have hfz174_0 := blk_frozen BK1100.out 0
                           have hfz174_1 := blk_frozen BK1100.out 1
                           go_wp2_with (first | ((with_reducible refine gate_callee (f := 38) rfl ?_); refine goesL_ (some 117) rfl rfl Try.func38 (by kernel_rfl) rfl #[.agg #[.slice Ao57 t1126.length co57, .slice Ao62 t1127.length co62], .int .i64 1] rfl bM ?_; (with_reducible refine (laws_heldSecDisk.calls kj128 _ _ t1126 _ _ t1127 1 t1149 _ ?side1 ?side2 ?side3 ?side4 A155.out).mono ?_); (case side1 => exact pC (Kd.R_reads' HO_1101000.out).2.2); (case side2 => exact (Kd.R_reads' HO_1101000.out).2.1); (case side3 => exact pC (Kd.R_reads' HO_1101001.out).2.2); (case side4 => exact (Kd.R_reads' HO_1101001.out).2.1); rintro e w175 ⟨rfl, hb⟩; refine ⟨_, rfl, ?_⟩; have n0_ := Aside0.mk (Kd.R_below (pR HO_1081000.out) hb); have n1_ := Aside0.mk (Kd.R_below (pR HO_1081001.out) hb); have n2_ := Aside0.mk (Kd.R_below (pR HO_1088000.out) hb); have n3_ := Aside0.mk (Kd.R_below (pR HO_1088001.out) hb); have n4_ := Aside0.mk (Kd.R_below (pR HO_1101000.out) hb); have n5_ := Aside0.mk (Kd.R_below (pR HO_1101001.out) hb); have n6_ := Aside0.mk (Kd.R_below (pR HO_1148000.out) hb); have n7_ := Aside0.mk (Kd.R_below (pR HO_1148001.out) hb); have n8_ := Aside0.mk (blk_below (pK BK1059.out) hb); have n9_ := Aside0.mk (blk_below (pK BK1080.out) hb); have n10_ := Aside0.mk (blk_below (pK BK1087.out) hb); have n11_ := Aside0.mk (blk_below (pK BK1100.out) hb); have n12_ := Aside0.mk (blk_below (pK BK1147.out) hb); have n13_ := Aside0.mk (below_step (pS HB.out) hb); clear HO_1081000; clear HO_1081001; clear HO_1088000; clear HO_1088001; clear HO_1101000; clear HO_1101001; clear HO_1148000; clear HO_1148001; clear BK1059; clear BK1080; clear BK1087; clear BK1100; clear BK1147; clear HB; have HO_1081000 := n0_; have HO_1081001 := n1_; have HO_1088000 := n2_; have HO_1088001 := n3_; have HO_1101000 := n4_; have HO_1101001 := n5_; have HO_1148000 := n6_; have HO_1148001 := n7_; have BK1059 := n8_; have BK1080 := n9_; have BK1087 := n10_; have BK1100 := n11_; have BK1147 := n12_; have HB := n13_; clear n0_ n1_ n2_ n3_ n4_ n5_ n6_ n7_ n8_ n9_ n10_ n11_ n12_ n13_; (try clear hb); (try clear hb2); (try clear hk); (try clear hi)))
                           go_ret
                           exact ⟨by first | rfl | (simp [errW_none, errW_some] <;> rfl) | (simp [*, errW_none, errW_some] <;> rfl), pS HB.out⟩

/-- THE ONE PURE STATEMENT of laws_FnExactWalDo. -/
def laws_FnExactWalDo.Pure : Prop := ∀ (l0_0 : List ByteArray) (l0_1 : List (S105)) (l1 : List (S97)) (a2 : Bool) (a3 : Int) (l4 : List Int), wf25 (⟨l0_0, l0_1⟩ : S25) → (l1.length ≤ maxLen ∧ ∀ z_ ∈ l1, wf97 z_) → (Lit.int .i64 a3).wf = true → (l4.length ≤ maxLen ∧ ∀ z_ ∈ l4, (Lit.int .i64 z_).wf = true) → ∃ k, laws_FnExactWalDo.f k l0_0 l0_1 l1 a2 a3 l4 = some true
theorem laws_FnExactWalDo.walk (P : laws_FnExactWalDo.Pure) (A0_0 : Option Addr) (c0_0 : Nat) (l0_0 : List ByteArray) (A0_1 : Option Addr) (c0_1 : Nat) (l0_1 : List (S105)) (A1 : Option Addr) (c1 : Nat) (l1 : List (S97)) (a2 : Bool) (a3 : Int) (A4 : Option Addr) (c4 : Nat) (l4 : List Int) (w : World) (hw0 : wf25 (⟨l0_0, l0_1⟩ : S25)) (hw1 : (l1.length ≤ maxLen ∧ ∀ z_ ∈ l1, wf97 z_)) (hw3 : (Lit.int .i64 a3).wf = true) (hw4 : (l4.length ≤ maxLen ∧ ∀ z_ ∈ l4, (Lit.int .i64 z_).wf = true)) (hr0_0 : Kd.C Kd.string w A0_0 l0_0.length l0_0) (hc0_0 : l0_0.length ≤ c0_0) (hr0_1 : Kd.C k105 w A0_1 l0_1.length l0_1) (hc0_1 : l0_1.length ≤ c0_1) (hr1 : Kd.C k97 w A1 l1.length l1) (hc1 : l1.length ≤ c1) (hr4 : Kd.C (Kd.int .i64) w A4 l4.length l4) (hc4 : l4.length ≤ c4) :
  Calls Try.prog 7 #[.agg #[.slice A0_0 l0_0.length c0_0, .slice A0_1 l0_1.length c0_1], .slice A1 l1.length c1, .bool a2, .int .i64 a3, .slice A4 l4.length c4] w fun e w' => e = .returned (.bool true) ∧ Below w.heap.size w w' := by
 obtain ⟨k, h⟩ := P l0_0 l0_1 l1 a2 a3 l4 hw0 hw1 hw3 hw4
 refine (laws_FnExactWalDo.calls k A0_0 c0_0 l0_0 A0_1 c0_1 l0_1 A1 c1 l1 a2 a3 A4 c4 l4 true w hr0_0 hc0_0 hr0_1 hc0_1 hr1 hc1 hr4 hc4 h).mono ?_
 rintro e w' ⟨rfl, hd⟩
 exact ⟨rfl, hd⟩

end Go.Proofs.Ythjocaegapchaaa.P
