/-
  What the log of a transaction says, in plain lists, and what its steps come to.
  Conditions: at most 300 writes wait.
-/
import Derived.Test.YthjocaegapchaaaXWalDone
namespace Go.Proofs.YthjocaegapchaaaX
open Go.RowKit Go.Proofs.Ythjocaegapchaaa.P Go.Proofs.YthjocaegapchaaaW.PrintWords Go.Proofs.YthjocaegapchaaaW.PrintLast Go.Proofs.YthjocaegapchaaaW.PrintMore
set_option linter.unusedVariables false
set_option linter.unusedSimpArgs false

def ent (x : Sw) : ByteArray := strOfNums [x.f0 % 256] ++ x.f1
/-- The writes of a log's entries. -/
def lw : Nat → List Sw → List Sw
  | _, [] => []
  | i, x :: r => ⟨1 + (i : Int), ent x⟩ :: lw (i + 1) r
theorem logs_lw : ∀ (D : List Sw) (i : Nat), logs i D = (lw i D).map pt
  | [], _ => rfl
  | x :: r, i => by
    simp only [logs, lw, List.map_cons, logs_lw r (i + 1)]
    rfl
theorem lw_len : ∀ (D : List Sw) (i : Nat), (lw i D).length = D.length
  | [], _ => rfl
  | x :: r, i => by simp [lw, lw_len r (i + 1)]
theorem lw_mem : ∀ (D : List Sw) (i : Nat) (x : Sw), x ∈ lw i D → (∃ j : Nat, i ≤ j ∧ j < i + D.length ∧ x.f0 = 1 + (j : Int)) ∧ ∃ y ∈ D, x.f1 = ent y
  | [], _, _, h => by cases h
  | y :: r, i, x, h => by
    simp only [lw] at h
    rcases List.mem_cons.1 h with rfl | h
    · exact ⟨⟨i, Nat.le_refl _, by simp, rfl⟩, y, by simp, rfl⟩
    · obtain ⟨⟨j, h1, h2, h3⟩, z, hz, e⟩ := lw_mem r (i + 1) x h
      exact ⟨⟨j, by omega, by simp; omega, h3⟩, z, by simp [hz], e⟩
theorem wr_lw : ∀ (D : List Sw) (i : Nat) (K : Bs), 1 + i + D.length ≤ K.length → wr K (lw i D) = K.take (1 + i) ++ D.map ent ++ K.drop (1 + i + D.length)
  | [], i, K, _ => by simp [lw, wr]
  | x :: r, i, K, h => by
    simp only [List.length_cons] at h
    simp only [lw]
    rw [wr_cons]
    show wr (K.set (1 + (i : Int)).toNat (ent x)) (lw (i + 1) r) = _
    rw [show (1 + (i : Int)).toNat = 1 + i by omega, wr_lw r (i + 1) _ (by rw [List.length_set]; omega), show 1 + (i + 1) = (1 + i) + 1 by omega, take_set_succ K (1 + i) (ent x) (by omega), List.drop_set, if_pos (by omega), List.length_cons, show 1 + i + 1 + r.length = 1 + i + (r.length + 1) by omega]
    simp
theorem ent_size (x : Sw) : (ent x).size = 1 + x.f1.size := by
  unfold ent
  rw [ByteArray.size_append, nums_size]
  rfl
theorem bt_one (n : Int) (s : ByteArray) (h0 : 0 ≤ n) (h1 : n < 256) : bt (strOfNums [n] ++ s) 0 = n := by
  have hs : (0 : Int).toNat < (strOfNums [n] ++ s).size := by
    rw [ByteArray.size_append, nums_size]
    simp only [List.length_cons, List.length_nil]
    omega
  unfold bt
  rw [dif_pos hs, ByteArray.getElem_append_left (by rw [nums_size]; simp)]
  show (((UInt8.ofNat n.toNat).toNat : Nat) : Int) = n
  rw [UInt8.toNat_ofNat']
  omega
theorem parse_ent : ∀ (D : List Sw), Dok D → parse (D.map ent) = some D
  | [], _ => rfl
  | x :: r, h => by
    have hx := h x (by simp)
    have e1 : bt (ent x) 0 = x.f0 := by
      unfold ent
      rw [bt_one _ _ (by omega) (by omega)]
      omega
    have e2 : (ent x).extract 1 (ent x).size = x.f1 := by
      rw [ent_size]
      unfold ent
      exact ByteArray.extract_append_eq_right (by rw [nums_size]; rfl) (by rw [nums_size]; rfl)
    simp only [List.map_cons, parse]
    rw [if_neg (by rw [e1, ent_size]; omega), parse_ent r (fun y hy => h y (by simp [hy])), e1, e2]
    rfl
def sg (n : Nat) : Sw := ⟨0, strOfNums [(n : Int) % 256]⟩
theorem signed_log {K : Bs} {D : List Sw} (hl : K.length = 501) (hD : Dok D) (h0 : D ≠ []) (h1 : D.length ≤ 250) : logL (wr (wr K (lw 0 D)) [sg D.length]) = some D := by
  have hpos : 0 < D.length := List.length_pos_iff.2 h0
  have e : wr (wr K (lw 0 D)) [sg D.length] = (wr K (lw 0 D)).set 0 (strOfNums [(D.length : Int) % 256]) := rfl
  have hlen : (wr K (lw 0 D)).length = 501 := by rw [wr_length]; exact hl
  have g0 : ((wr K (lw 0 D)).set 0 (strOfNums [(D.length : Int) % 256])).getD 0 ByteArray.empty = strOfNums [(D.length : Int) % 256] := by
    generalize wr K (lw 0 D) = B at hlen
    cases B with
    | nil => simp at hlen
    | cons a r => rfl
  have b0 : bt (strOfNums [(D.length : Int) % 256]) 0 = (D.length : Int) := by
    have := bt_one ((D.length : Int) % 256) ByteArray.empty (by omega) (by omega)
    rw [ByteArray.append_empty] at this
    rw [this]
    omega
  rw [e]
  unfold logL
  rw [g0, nums_size]
  rw [if_neg (by simp), if_pos ⟨rfl, by rw [b0]; omega⟩, b0, List.drop_set, if_pos (by omega), wr_lw D 0 K (by omega)]
  have h2 : ((K.take (1 + 0) ++ D.map ent ++ K.drop (1 + 0 + D.length)).drop 1).take ((D.length : Int)).toNat = D.map ent := by
    rw [List.append_assoc, List.drop_left' (by rw [List.length_take]; omega), Int.toNat_natCast]
    exact List.take_left' (by rw [List.length_map])
  rw [h2]
  exact parse_ent D hD
theorem sok_lw {K : Bs} {W D : List Sw} (h : sok K W = true) (hl : K.length = 501) (hW : W.length + D.length ≤ 600) (hD : Dok D) (h1 : D.length ≤ 250) : sok K (W ++ lw 0 D) = true := by
  have hs := (sok_iff K W).1 h
  refine (sok_iff K _).2 ⟨⟨hs.1.1, by rw [List.length_append, lw_len]; omega⟩, hs.2.1, fun x hx => ?_⟩
  rcases List.mem_append.1 hx with hx | hx
  · exact hs.2.2 x hx
  · obtain ⟨⟨j, a, b, c⟩, y, hy, e⟩ := lw_mem D 0 x hx
    have := hD y hy
    exact ⟨⟨by omega, by omega⟩, by unfold small; rw [e, ent_size]; omega⟩
theorem sok_sg {K : Bs} (h : sok K [] = true) (hl : K.length = 501) (n : Nat) : sok K [sg n] = true :=
  (sok_append K [] (sg n) h).2 ⟨by simp, ⟨by show (0 : Int) ≤ 0; omega, by show (0 : Int) ≤ _; omega⟩, by
    show (((strOfNums [(n : Int) % 256]).size : Nat) : Int) ≤ 16
    rw [nums_size]
    simp⟩
theorem diff_dok : ∀ (H now : Bs) (i : Nat) (D : List Sw), diffL H now i = some D → i + H.length ≤ 250 → Dok D
  | [], now, i, D, h, _ => by simp only [diffL, Option.some.injEq] at h; subst h; intro x hx; cases hx
  | s :: r, now, i, D, h, hi => by
    simp only [List.length_cons] at hi
    simp only [diffL] at h
    split at h
    · cases h
    · next hs =>
      split at h
      · exact diff_dok r now (i + 1) D h (by omega)
      · cases hr : diffL r now (i + 1) with
        | none => rw [hr] at h; cases h
        | some M =>
          rw [hr] at h
          simp only [Option.map_some, Option.some.injEq] at h
          subst h
          intro x hx
          rcases List.mem_cons.1 hx with rfl | hx
          · exact ⟨by show s.size ≤ 15; omega, by show (0 : Int) ≤ (i : Int); omega, by show (i : Int) < 250; omega⟩
          · exact diff_dok r now (i + 1) M hr (by omega) x hx
theorem diff_small : ∀ (H now : Bs) (i : Nat) (D : List Sw), diffL H now i = some D → ∀ s ∈ H, ¬ (s.size : Int) > 15
  | [], _, _, _, _, s, hs => by cases hs
  | x :: r, now, i, D, h, s, hs => by
    simp only [diffL] at h
    split at h
    · cases h
    · next hx =>
      rcases List.mem_cons.1 hs with rfl | hs
      · exact hx
      · split at h
        · exact diff_small r now (i + 1) D h s hs
        · cases hr : diffL r now (i + 1) with
          | none => rw [hr] at h; cases h
          | some M => exact diff_small r now (i + 1) M hr s hs
theorem diff_same (H : Bs) (hs : ∀ s ∈ H, ¬ (s.size : Int) > 15) : ∀ (d i : Nat), H.length - i = d → diffL (H.drop i) H i = some []
  | 0, i, h => by rw [List.drop_of_length_le (by omega)]; rfl
  | d + 1, i, h => by
    have hlt : i < H.length := by omega
    rw [List.drop_eq_getElem_cons hlt]
    simp only [diffL]
    rw [if_neg (hs _ (List.getElem_mem hlt)), if_pos (show H[i] = H.getD i ByteArray.empty from (getD_nat H i hlt _).symm)]
    exact diff_same H hs d (i + 1) (by omega)
theorem diff_wr : ∀ (H now : Bs) (i : Nat) (D : List Sw) (A : Bs), diffL H now i = some D → i + H.length = now.length → A.length = now.length → A.drop i = now.drop i → wr A D = A.take i ++ H
  | [], now, i, D, A, h, hi, hA, _ => by
    simp only [diffL, Option.some.injEq] at h
    subst h
    simp only [List.length_nil] at hi
    rw [List.append_nil, List.take_of_length_le (by omega)]
    rfl
  | s :: r, now, i, D, A, h, hi, hA, hd => by
    simp only [List.length_cons] at hi
    have hn : i < now.length := by omega
    have ha : i < A.length := by omega
    have e1 : A[i] = now[i] ∧ A.drop (i + 1) = now.drop (i + 1) := by
      rw [List.drop_eq_getElem_cons ha, List.drop_eq_getElem_cons hn] at hd
      exact List.cons.inj hd
    simp only [diffL] at h
    split at h
    · cases h
    · split at h
      · next he =>
        have := diff_wr r now (i + 1) D A h (by omega) hA e1.2
        rw [this, List.take_succ_eq_append_getElem ha, List.append_assoc]
        rw [show now.getD i ByteArray.empty = now[i] from getD_nat now i hn _] at he
        rw [e1.1, he]
        rfl
      · cases hr : diffL r now (i + 1) with
        | none => rw [hr] at h; cases h
        | some M =>
          rw [hr] at h
          simp only [Option.map_some, Option.some.injEq] at h
          subst h
          rw [wr_cons]
          show wr (A.set ((i : Int)).toNat s) M = _
          rw [Int.toNat_natCast]
          have := diff_wr r now (i + 1) M (A.set i s) hr (by omega) (by rw [List.length_set]; exact hA) (by rw [List.drop_set, if_pos (by omega)]; exact e1.2)
          rw [this, take_set_succ A i s ha, List.append_assoc]
          rfl
/-- What stands behind steps that were told. -/
theorem start_of {K : Bs} {W : List Sw} {H : Bs} (ok : (stepsB K W H).2 = true) : H.length = 250 ∧ sok K W = true ∧ K.length = 501 ∧ ((wr K W).getD 0 ByteArray.empty).size = 0 ∧ wreadB K W = ((wr K W).drop 251, true) ∧
    ∃ D, diffL H ((wr K W).drop 251) 0 = some D ∧ (stepsB K W H) = finL D ∧ Dok D ∧ D.length ≤ 250 ∧ wr ((wr K W).drop 251) D = H := by
  unfold stepsB at *
  split at ok
  · next h =>
    rw [if_pos h]
    obtain ⟨h1, h2, h3⟩ := h
    cases hL : logB K W with
    | none => unfold wreadB at h1; rw [hL] at h1; cases h1
    | some L =>
      obtain ⟨g1, g2, g3, -⟩ := logB_good hL
      rw [look0 g1 g2] at h3
      rw [logL_empty h3] at g3
      obtain rfl := Option.some.inj g3
      have hr : wreadB K W = ((wr K W).drop 251, true) := by unfold wreadB; rw [hL]; rfl
      rw [hr] at ok ⊢
      simp only at ok ⊢
      have hlen : ((wr K W).drop 251).length = 250 := by rw [List.length_drop, wr_length]; omega
      cases hd : diffL H ((wr K W).drop 251) 0 with
      | none => rw [hd] at ok; cases ok
      | some D =>
        refine ⟨h2, g1, g2, h3, by first | trivial | rfl, D, rfl, by first | trivial | rfl, diff_dok _ _ _ _ hd (by omega), by have := diffL_len _ _ _ _ hd; omega, ?_⟩
        rw [diff_wr _ _ _ _ _ hd (by omega) rfl rfl]
        rfl
  · cases ok
theorem wr_lw_base {K : Bs} {D : List Sw} (h1 : D.length ≤ 250) : ∀ V : List Sw, (∀ x ∈ V, x ∈ lw 0 D) → (wr K V).drop 251 = K.drop 251 ∧ (wr K V).getD 0 ByteArray.empty = K.getD 0 ByteArray.empty := fun V hV => by
  refine ⟨wr_drop_low V K 251 (fun x hx => ?_), wr_get0 V K (fun x hx => ?_)⟩
  · obtain ⟨⟨j, a, b, c⟩, -⟩ := lw_mem D 0 x (hV x hx)
    omega
  · obtain ⟨⟨j, a, b, c⟩, -⟩ := lw_mem D 0 x (hV x hx)
    omega
theorem steps_form (D : List Sw) : logs 0 D ++ signL D.length ++ applyL D = (lw 0 D).map pt ++ fl :: ([sg D.length].map pt ++ fl :: applyL D) := by
  rw [logs_lw, List.append_assoc]
  rfl
theorem steps_len (D : List Sw) (h : D.length ≤ 250) : (logs 0 D ++ signL D.length ++ applyL D).length ≤ 600 := by
  rw [List.length_append, List.length_append, logs_len, applyL_len]
  simp only [signL, List.length_cons, List.length_nil]
  omega
theorem finL_pos {D : List Sw} (h : D ≠ []) : finL D = (logs 0 D ++ signL D.length ++ applyL D, true) := by
  have : 0 < D.length := List.length_pos_iff.2 h
  unfold finL
  rw [if_neg (by omega)]
/-- Behind all steps of a transaction the homes say what they were to say, and nothing waits. -/
theorem steps_done {K : Bs} {W : List Sw} {H : Bs} (hW : W.length ≤ 300) (ok : (stepsB K W H).2 = true) : ∃ K2 W2, doB K W (stepsB K W H).1 false 0 [] = (K2, W2) ∧ wreadB K2 W2 = (H, true) ∧ (lookB K2 W2 0).size = 0 ∧ W2.length ≤ 300 ∧ K2.length = 501 ∧ ((stepsB K W H).1 = [] ∨ W2 = []) := by
  obtain ⟨h1, h2, h3, h4, h5, D, d1, d2, d3, d4, d5⟩ := start_of ok
  rw [d2]
  by_cases hz : D = []
  · subst hz
    refine ⟨K, W, do_idle h2 0 [], ?_, ?_, hW, h3, .inl rfl⟩
    · rw [h5, ← d5]; rfl
    · rw [look0 h2 h3]; exact h4
  rw [finL_pos hz]
  have s1 := sok_lw h2 h3 (by omega) d3 d4
  have s2 : sok (wr K (W ++ lw 0 D)) [] = true := sok_wr s1 (fun _ hx => hx)
  have l2 : (wr K (W ++ lw 0 D)).length = 501 := by rw [wr_length]; exact h3
  have s3 := sok_sg s2 l2 D.length
  have s4 : sok (wr (wr K (W ++ lw 0 D)) [sg D.length]) [] = true := sok_wr s3 (fun _ hx => hx)
  have l4 : (wr (wr K (W ++ lw 0 D)) [sg D.length]).length = 501 := by rw [wr_length]; exact l2
  have hL : logB (wr (wr K (W ++ lw 0 D)) [sg D.length]) [] = some D := by
    unfold logB
    rw [if_pos ⟨s4, l4⟩, wr_append']
    exact signed_log (by rw [wr_length]; exact h3) d3 hz d4
  obtain ⟨e2, ok2⟩ := do_apply hL (by simp) []
  have e1 : doB K W (logs 0 D ++ signL D.length ++ applyL D) false 0 [] = doB (wr (wr K (W ++ lw 0 D)) [sg D.length]) [] (applyL D) false 0 [] := by
    unfold doB
    rw [if_pos ⟨h2, steps_len D d4⟩, if_pos ⟨s4, by rw [applyL_len]; omega⟩, run_exec, run_exec, steps_form, exec_phase s1, exec_phase (W := []) s3]
    rfl
  obtain ⟨m1, m2⟩ := mended_log hL ok2
  obtain ⟨q1, q2, -⟩ := logB_good m1
  refine ⟨_, _, e1.trans e2, ?_, ?_, by simp, q2, .inr rfl⟩
  · rw [mended_read hL ok2]
    unfold wreadB
    rw [hL]
    show (wr ((((wr K (W ++ lw 0 D)).set 0 _)).drop 251) D, true) = _
    rw [List.drop_set, if_pos (by omega), wr_append', (wr_lw_base d4 _ (fun _ hx => hx)).1, d5]
  · rw [look0 q1 q2]; exact m2
/-- What is said already is not written again. -/
theorem steps_again {K : Bs} {W : List Sw} {H : Bs} (h : sok K W = true ∨ True) (hr : wreadB K W = (H, true)) (hl : (lookB K W 0).size = 0) (hH : H.length = 250) (hs : ∀ s ∈ H, ¬ (s.size : Int) > 15) : stepsB K W H = ([], true) := by
  have := diff_same H hs _ 0 rfl
  rw [List.drop_zero] at this
  unfold stepsB
  rw [if_pos ⟨by rw [hr], hH, hl⟩, hr]
  simp only
  rw [this]
  rfl
/-- A transaction is done whole, or not at all. -/
theorem steps_cut {K H : Bs} (ok : (stepsB K [] H).2 = true) (after : Int) (keep : List Int) : ∃ X, doB K [] (stepsB K [] H).1 true after keep = (X, []) ∧ (Rd X (wreadB K []).1 ∨ Rd X H) := by
  obtain ⟨h1, h2, h3, h4, h5, D, d1, d2, d3, d4, d5⟩ := start_of ok
  rw [d2, h5]
  have r0 : Rd K (K.drop 251) := ⟨h2, h3, [], logL_empty h4, rfl⟩
  by_cases hz : D = []
  · subst hz
    exact ⟨K, cut_idle h2 after keep, .inl r0⟩
  rw [finL_pos hz]
  have s1 : sok K (lw 0 D) = true := sok_lw (W := []) h2 h3 (by simp; omega) d3 d4
  have low : ∀ V : List Sw, (∀ x ∈ V, x ∈ lw 0 D) → Rd (wr K V) (K.drop 251) := fun V hV => by
    obtain ⟨b1, b2⟩ := wr_lw_base (K := K) d4 V hV
    exact ⟨sok_wr s1 hV, by rw [wr_length]; exact h3, [], logL_empty (by rw [b2]; exact h4), b1⟩
  have r1 := low _ (fun _ hx => hx)
  have s3 := sok_sg r1.1 r1.2.1 D.length
  have s4 : sok (wr (wr K (lw 0 D)) [sg D.length]) [] = true := sok_wr s3 (fun _ hx => hx)
  have l4 : (wr (wr K (lw 0 D)) [sg D.length]).length = 501 := by rw [wr_length]; exact r1.2.1
  have hL := signed_log h3 d3 hz d4
  have hA : wr ((wr (wr K (lw 0 D)) [sg D.length]).drop 251) D = H := by
    show wr (((wr K (lw 0 D)).set 0 _).drop 251) D = H
    rw [List.drop_set, if_pos (by omega), (wr_lw_base d4 _ (fun _ hx => hx)).1]
    exact d5
  have r2 : Rd (wr (wr K (lw 0 D)) [sg D.length]) H := ⟨s4, l4, D, hL, hA⟩
  obtain ⟨n, e⟩ := run_cut after keep (logs 0 D ++ signL D.length ++ applyL D) 0 K []
  have e1 : doB K [] (logs 0 D ++ signL D.length ++ applyL D) true after keep = cutx (logs 0 D ++ signL D.length ++ applyL D) n K keep := by
    unfold doB
    rw [if_pos ⟨h2, steps_len D d4⟩]
    exact e
  show ∃ X, doB K [] (logs 0 D ++ signL D.length ++ applyL D) true after keep = (X, []) ∧ _
  rw [e1, steps_form]
  rcases phase s1 ([sg D.length].map pt ++ fl :: applyL D) n keep with ⟨V, hV, e⟩ | ⟨m, e⟩
  · exact ⟨_, e, .inl (low V hV)⟩
  rw [e]
  rcases phase s3 (applyL D) m keep with ⟨V, hV, e⟩ | ⟨m2, e⟩
  · refine ⟨_, e, ?_⟩
    rcases wr_one (sg D.length) V _ (fun x hx => List.mem_singleton.1 (hV x hx)) with e2 | e2
    · rw [e2]; exact .inl r1
    · rw [e2]; exact .inr r2
  · rw [e]
    obtain ⟨X, e2, e3⟩ := apply_cut s4 l4 hL hA m2 keep
    exact ⟨X, e2, .inr e3⟩
end Go.Proofs.YthjocaegapchaaaX
