/-
  What the steps of a transaction do to a disk, in plain lists: behind all of them, and behind a loss of power at any place.
  Conditions: at most 300 writes wait.
-/
import Derived.Test.YthjocaegapchaaaXWalLaw
import Derived.Test.YthjocaegapchaaaXWalInv
namespace Go.Proofs.YthjocaegapchaaaX
open Go.RowKit Go.Proofs.Ythjocaegapchaaa.P Go.Proofs.YthjocaegapchaaaW.PrintWords Go.Proofs.YthjocaegapchaaaW.PrintLast Go.Proofs.YthjocaegapchaaaW.PrintMore
set_option linter.unusedVariables false
set_option linter.unusedSimpArgs false

def pt (x : Sw) : Ss := ⟨false, x.f0, x.f1⟩
def fl : Ss := ⟨true, 0, ⟨#[]⟩⟩
noncomputable def stp (x : Ss) (d : Bs × List Sw) : Bs × List Sw := if x.f0 = true then flushB d.1 d.2 else ((sputB d.1 d.2 x.f1 x.f2).1, (sputB d.1 d.2 x.f1 x.f2).2.1)
/-- Steps, done one by one, with no loss of power. -/
noncomputable def exec : List Ss → Bs × List Sw → Bs × List Sw
  | [], d => d
  | x :: r, d => exec r (stp x d)
theorem exec_append : ∀ (A B : List Ss) (d : Bs × List Sw), exec (A ++ B) d = exec B (exec A d)
  | [], _, _ => rfl
  | x :: r, B, d => exec_append r B (stp x d)
theorem run_exec (after : Int) (keep : List Int) : ∀ (S : List Ss) (i : Nat) (K : Bs) (W : List Sw), runB false after keep S i K W = exec S (K, W)
  | [], i, K, W => by simp [runB, exec]
  | x :: r, i, K, W => by
    simp only [runB, exec, stp]
    rw [if_neg (by simp)]
    by_cases h : x.f0 = true
    · rw [if_pos h, if_pos h]; exact run_exec after keep r _ _ _
    · rw [if_neg h, if_neg h]; exact run_exec after keep r _ _ _
theorem run_cut (after : Int) (keep : List Int) : ∀ (S : List Ss) (i : Nat) (K : Bs) (W : List Sw), ∃ n, runB true after keep S i K W = cutB (exec (S.take n) (K, W)).1 (exec (S.take n) (K, W)).2 keep
  | [], i, K, W => ⟨0, by simp [runB, exec]⟩
  | x :: r, i, K, W => by
    by_cases ha : (i : Int) ≥ after
    · refine ⟨0, ?_⟩
      simp only [runB]
      rw [if_pos ⟨by trivial, ha⟩]
      rfl
    by_cases h : x.f0 = true
    · obtain ⟨n, e⟩ := run_cut after keep r (i + 1) (flushB K W).1 (flushB K W).2
      refine ⟨n + 1, ?_⟩
      simp only [runB]
      rw [if_neg (fun h1 => ha h1.2), if_pos h, e]
      simp only [List.take_succ_cons, exec, stp]
      rw [if_pos h]
    · obtain ⟨n, e⟩ := run_cut after keep r (i + 1) (sputB K W x.f1 x.f2).1 (sputB K W x.f1 x.f2).2.1
      refine ⟨n + 1, ?_⟩
      simp only [runB]
      rw [if_neg (fun h1 => ha h1.2), if_neg h, e]
      simp only [List.take_succ_cons, exec, stp]
      rw [if_neg h]
theorem sok_sub {K : Bs} {W V : List Sw} (h : sok K W = true) (hV : ∀ x ∈ V, x ∈ W) (hl : V.length ≤ W.length) : sok K V = true := by
  have h := (sok_iff K W).1 h
  have := h.1.2
  exact (sok_iff K V).2 ⟨⟨h.1.1, by omega⟩, h.2.1, fun x hx => h.2.2 x (hV x hx)⟩
theorem exec_puts (K : Bs) : ∀ (L W : List Sw), sok K (W ++ L) = true → exec (L.map pt) (K, W) = (K, W ++ L)
  | [], W, _ => by simp [exec]
  | x :: r, W, h => by
    have h1 : sok K W = true := sok_sub h (fun y hy => by simp [hy]) (by simp)
    have h2 : sok K (W ++ [x]) = true := sok_sub h (fun y hy => by
      rcases List.mem_append.1 hy with hy | hy
      · simp [hy]
      · simp [List.mem_singleton.1 hy]) (by simp)
    have e : stp (pt x) (K, W) = (K, W ++ [x]) := by
      have e2 : sputB K W (pt x).f1 (pt x).f2 = (K, W ++ [x], true) := by
        unfold sputB
        rw [if_pos h1]
        exact if_pos h2
      unfold stp
      rw [if_neg (by show ¬ (false = true); simp)]
      simp only [e2]
    show exec (r.map pt) (stp (pt x) (K, W)) = _
    rw [e, exec_puts K r (W ++ [x]) (by rw [List.append_assoc]; exact h), List.append_assoc]
    rfl
theorem stp_fl {K : Bs} {W : List Sw} (h : sok K W = true) : stp fl (K, W) = (wr K W, []) := by
  unfold stp
  rw [if_pos (show fl.f0 = true from rfl)]
  unfold flushB
  exact if_pos h
theorem exec_phase {K : Bs} {W L : List Sw} (h : sok K (W ++ L) = true) (R : List Ss) : exec (L.map pt ++ fl :: R) (K, W) = exec R (wr K (W ++ L), []) := by
  rw [exec_append, exec_puts K L W h]
  show exec R (stp fl (K, W ++ L)) = _
  rw [stp_fl h]
/-- The first n steps on a disk where nothing waits, then a loss of power. -/
noncomputable def cutx (S : List Ss) (n : Nat) (K : Bs) (keep : List Int) : Bs × List Sw := cutB (exec (S.take n) (K, [])).1 (exec (S.take n) (K, [])).2 keep
theorem phase {K : Bs} {L : List Sw} (h : sok K L = true) (R : List Ss) (n : Nat) (keep : List Int) :
    (∃ V, (∀ x ∈ V, x ∈ L) ∧ cutx (L.map pt ++ fl :: R) n K keep = (wr K V, [])) ∨ ∃ m, cutx (L.map pt ++ fl :: R) n K keep = cutx R m (wr K L) keep := by
  by_cases hn : n ≤ L.length
  · refine .inl ⟨keptW keep 0 (L.take n), fun x hx => List.mem_of_mem_take (keptW_sub keep _ 0 x hx), ?_⟩
    have e : (L.map pt ++ fl :: R).take n = (L.take n).map pt := by
      rw [List.take_append_of_le_length (by rw [List.length_map]; exact hn), List.map_take]
    have h1 : sok K (L.take n) = true := sok_sub h (fun x hx => List.mem_of_mem_take hx) (by rw [List.length_take]; omega)
    unfold cutx
    rw [e, exec_puts K (L.take n) [] h1]
    unfold cutB
    exact if_pos h1
  · obtain ⟨m, rfl⟩ : ∃ m, n = L.length + (m + 1) := ⟨n - L.length - 1, by omega⟩
    refine .inr ⟨m, ?_⟩
    have e : (L.map pt ++ fl :: R).take (L.length + (m + 1)) = L.map pt ++ fl :: R.take m := by
      rw [show L.length = (L.map pt).length by rw [List.length_map], List.take_length_add_append, List.take_succ_cons]
    unfold cutx
    rw [e, exec_phase (W := []) h]
    rfl
theorem wr_drop_low : ∀ (V : List Sw) (K : Bs) (n : Nat), (∀ x ∈ V, x.f0.toNat < n) → (wr K V).drop n = K.drop n
  | [], _, _, _ => rfl
  | x :: r, K, n, h => by
    rw [wr_cons, wr_drop_low r _ n (fun y hy => h y (by simp [hy])), List.drop_set, if_pos (h x (by simp))]
theorem wr_take_high : ∀ (V : List Sw) (K : Bs) (n : Nat), (∀ x ∈ V, n ≤ x.f0.toNat) → (wr K V).take n = K.take n
  | [], _, _, _ => rfl
  | x :: r, K, n, h => by
    rw [wr_cons, wr_take_high r _ n (fun y hy => h y (by simp [hy])), List.take_set_of_le (h x (by simp))]
theorem getD_take (A : Bs) (n : Nat) : (A.take (n + 1)).getD 0 ByteArray.empty = A.getD 0 ByteArray.empty := by
  cases A <;> rfl
theorem wr_get0 (V : List Sw) (K : Bs) (h : ∀ x ∈ V, 1 ≤ x.f0.toNat) : (wr K V).getD 0 ByteArray.empty = K.getD 0 ByteArray.empty := by
  rw [← getD_take (wr K V) 0, ← getD_take K 0, wr_take_high V K (0 + 1) h]
theorem logL_take {A B : Bs} (h : A.take 251 = B.take 251) : logL A = logL B := by
  have e0 : A.getD 0 ByteArray.empty = B.getD 0 ByteArray.empty := by rw [← getD_take A 250, ← getD_take B 250, h]
  have e1 : ∀ n, n ≤ 250 → (A.drop 1).take n = (B.drop 1).take n := fun n hn => by
    have q : ∀ X : Bs, (X.drop 1).take n = ((X.take 251).drop 1).take n := fun X => by
      rw [List.drop_take, List.take_take, show min n (251 - 1) = n by omega]
    rw [q A, q B, h]
  unfold logL
  rw [e0]
  split
  · rfl
  · split
    · next h1 => rw [e1 _ (by omega)]
    · rfl
theorem logL_empty {A : Bs} (h : (A.getD 0 ByteArray.empty).size = 0) : logL A = some [] := by unfold logL; rw [if_pos h]
theorem lastW_hit (a : Nat) : ∀ (L : List Sw) (v v' : ByteArray), (∃ y ∈ L, y.f0.toNat = a) → lastW a v L = lastW a v' L
  | [], _, _, ⟨_, h, _⟩ => by cases h
  | y :: r, v, v', h => by
    simp only [lastW]
    by_cases hy : y.f0.toNat = a
    · rw [if_pos hy, if_pos hy]
    · rw [if_neg hy, if_neg hy]
      obtain ⟨z, hz, e⟩ := h
      rcases List.mem_cons.1 hz with rfl | hz
      · exact absurd e hy
      · exact lastW_hit a r v v' ⟨z, hz, e⟩
theorem lastW_miss (a : Nat) : ∀ (L : List Sw) (v : ByteArray), (∀ y ∈ L, y.f0.toNat ≠ a) → lastW a v L = v
  | [], _, _ => rfl
  | y :: r, v, h => by
    simp only [lastW]
    rw [if_neg (h y (by simp))]
    exact lastW_miss a r v (fun z hz => h z (by simp [hz]))
theorem wr_over {A : Bs} {V L : List Sw} (h : ∀ x ∈ V, ∃ y ∈ L, y.f0.toNat = x.f0.toNat) : wr (wr A V) L = wr A L := by
  refine List.ext_getElem (by simp only [wr_length]) (fun a h1 h2 => ?_)
  have hA : a < A.length := by rw [wr_length] at h2; exact h2
  have hV : a < (wr A V).length := by rw [wr_length]; exact hA
  rw [wr_at a L (wr A V) hV h1, wr_at a L A hA h2, wr_at a V A hA hV]
  by_cases hh : ∃ y ∈ L, y.f0.toNat = a
  · exact lastW_hit a L _ _ hh
  · rw [lastW_miss a V _ (fun x hx e => hh (by
      obtain ⟨y, hy, e2⟩ := h x hx
      exact ⟨y, hy, e2.trans e⟩))]
theorem wr_one (b : Sw) : ∀ (V : List Sw) (K : Bs), (∀ x ∈ V, x = b) → wr K V = K ∨ wr K V = wr K [b]
  | [], _, _ => .inl rfl
  | x :: r, K, h => by
    obtain rfl := h x (by simp)
    rw [wr_cons]
    rcases wr_one x r (K.set x.f0.toNat x.f1) (fun y hy => h y (by simp [hy])) with e | e
    · exact .inr e
    · refine .inr (e.trans ?_)
      show (K.set x.f0.toNat x.f1).set x.f0.toNat x.f1 = K.set x.f0.toNat x.f1
      rw [List.set_set]
/-- A disk that waits for nothing, is right, and reads so. -/
def Rd (K A : Bs) : Prop := sok K [] = true ∧ K.length = 501 ∧ ∃ L, logL K = some L ∧ wr (K.drop 251) L = A
theorem Rd.log {K A : Bs} (h : Rd K A) : ∃ L, logB K [] = some L ∧ logL K = some L ∧ wr (K.drop 251) L = A := by
  obtain ⟨h1, h2, L, h3, h4⟩ := h
  refine ⟨L, ?_, h3, h4⟩
  unfold logB
  rw [if_pos ⟨h1, h2⟩]
  exact h3
theorem Rd.read {K A : Bs} (h : Rd K A) : wreadB K [] = (A, true) := by
  obtain ⟨L, h1, h2, h3⟩ := h.log
  unfold wreadB
  rw [h1]
  show (wr (K.drop 251) L, true) = _
  rw [h3]
theorem sok_blank {K : Bs} (h : sok K [] = true) (hl : K.length = 501) : sok K [blank] = true :=
  (sok_append K [] blank h).2 ⟨by simp, ⟨by show (0 : Int) ≤ 0; omega, by show (0 : Int) ≤ _; omega⟩, by show ((ByteArray.size ⟨#[]⟩ : Nat) : Int) ≤ 16; decide⟩
theorem sok_home {K : Bs} {L : List Sw} (h : sok K [] = true) (hl : K.length = 501) (hL : logL K = some L) : sok K (L.map mv) = true := by
  obtain ⟨g1, g2⟩ := logL_good hL
  have hs := (sok_iff K []).1 h
  have h6 := logL_small hs.2.1 hL
  refine (sok_iff K _).2 ⟨⟨by omega, by rw [List.length_map]; omega⟩, hs.2.1, fun x hx => ?_⟩
  obtain ⟨y, hy, rfl⟩ := List.mem_map.1 hx
  have h7 := g2 y hy
  have h8 := h6 y hy
  exact ⟨⟨by show 0 ≤ 251 + y.f0; omega, by show 251 + y.f0 ≤ _; omega⟩, by show ((y.f1.size : Nat) : Int) ≤ 16; omega⟩
/-- Some of a log's homes are written: it reads the same. -/
theorem rd_home {K A : Bs} {L V : List Sw} (h : sok K [] = true) (hl : K.length = 501) (hL : logL K = some L) (hA : wr (K.drop 251) L = A) (hV : ∀ x ∈ V, x ∈ L.map mv) : Rd (wr K V) A := by
  obtain ⟨g1, g2⟩ := logL_good hL
  have hh := sok_home h hl hL
  refine ⟨?_, by rw [wr_length]; exact hl, L, ?_, ?_⟩
  · exact sok_wr (W := L.map mv) hh hV
  · rw [← hL]
    refine logL_take (wr_take_high V K 251 (fun x hx => ?_))
    obtain ⟨y, hy, rfl⟩ := List.mem_map.1 (hV x hx)
    have := g2 y hy
    show 251 ≤ (251 + y.f0).toNat
    omega
  · have e : V = (V.map (fun x => (⟨x.f0 - 251, x.f1⟩ : Sw))).map mv := by
      rw [List.map_map]
      refine (List.map_id'' ?_ V).symm
      intro x
      show (⟨251 + (x.f0 - 251), x.f1⟩ : Sw) = x
      rw [show 251 + (x.f0 - 251) = x.f0 by omega]
    have hm : ∀ x ∈ V.map (fun x => (⟨x.f0 - 251, x.f1⟩ : Sw)), ∃ y ∈ L, y = x := fun x hx => by
      obtain ⟨z, hz, rfl⟩ := List.mem_map.1 hx
      obtain ⟨y, hy, rfl⟩ := List.mem_map.1 (hV z hz)
      refine ⟨y, hy, ?_⟩
      show y = (⟨251 + y.f0 - 251, y.f1⟩ : Sw)
      rw [show 251 + y.f0 - 251 = y.f0 by omega]
    rw [e, wr_shift _ _ (fun x hx => by
      obtain ⟨y, hy, rfl⟩ := hm x hx
      exact (g2 y hy).1), wr_over (fun x hx => by
      obtain ⟨y, hy, rfl⟩ := hm x hx
      exact ⟨y, hy, rfl⟩)]
    exact hA
/-- A log that is home, and struck out. -/
theorem rd_blank {K A : Bs} {L : List Sw} (h : sok K [] = true) (hl : K.length = 501) (hL : logL K = some L) (hA : wr (K.drop 251) L = A) : Rd (wr (wr K (L.map mv)) [blank]) A := by
  obtain ⟨g1, g2⟩ := logL_good hL
  obtain ⟨h1, h2, -⟩ := rd_home h hl hL hA (fun x hx => hx)
  refine ⟨sok_wr (sok_blank h1 h2) (fun _ hx => hx), by rw [wr_length]; exact h2, [], ?_, ?_⟩
  · refine logL_empty ?_
    generalize wr K (L.map mv) = B at h2
    cases B with
    | nil => simp at h2
    | cons a r => rfl
  · show ((wr K (L.map mv)).set 0 ⟨#[]⟩).drop 251 = _
    rw [List.drop_set, if_pos (by omega), wr_shift L _ (fun x hx => (g2 x hx).1)]
    exact hA
theorem apply_pt (L : List Sw) : applyL L = (L.map mv).map pt ++ fl :: ([blank].map pt ++ fl :: []) := by
  unfold applyL
  rw [List.map_map]
  rfl
theorem apply_cut {K A : Bs} {L : List Sw} (h : sok K [] = true) (hl : K.length = 501) (hL : logL K = some L) (hA : wr (K.drop 251) L = A) (n : Nat) (keep : List Int) : ∃ X, cutx (applyL L) n K keep = (X, []) ∧ Rd X A := by
  rw [apply_pt]
  have h3 := rd_home h hl hL hA (fun x hx => hx)
  have h4 := rd_blank h hl hL hA
  rcases phase (sok_home h hl hL) ([blank].map pt ++ fl :: []) n keep with ⟨V, hV, e⟩ | ⟨m, e⟩
  · exact ⟨_, e, rd_home h hl hL hA hV⟩
  rw [e]
  rcases phase (sok_blank h3.1 h3.2.1) [] m keep with ⟨V, hV, e⟩ | ⟨m2, e⟩
  · refine ⟨_, e, ?_⟩
    rcases wr_one blank V _ (fun x hx => List.mem_singleton.1 (hV x hx)) with e2 | e2
    · rw [e2]; exact h3
    · rw [e2]; exact h4
  · rw [e]
    refine ⟨wr (wr K (L.map mv)) [blank], ?_, h4⟩
    unfold cutx
    rw [List.take_nil]
    show cutB (wr (wr K (L.map mv)) [blank]) [] keep = _
    unfold cutB
    rw [if_pos h4.1]
    rfl
theorem cut_idle {K : Bs} (h : sok K [] = true) (after : Int) (keep : List Int) : doB K [] [] true after keep = (K, []) := by
  unfold doB
  rw [if_pos ⟨h, by simp⟩]
  simp only [runB, if_true]
  unfold cutB
  rw [if_pos h]
  rfl
theorem do_idle {K : Bs} {W : List Sw} (h : sok K W = true) (after : Int) (keep : List Int) : doB K W [] false after keep = (K, W) := by
  unfold doB
  rw [if_pos ⟨h, by simp⟩]
  simp [runB]
theorem mendB_of {K A : Bs} (h : Rd K A) : ∃ L, logB K [] = some L ∧ logL K = some L ∧ wr (K.drop 251) L = A ∧ (mendB K [] = ([], true) ∨ mendB K [] = (applyL L, true)) := by
  obtain ⟨L, h1, h2, h3⟩ := h.log
  refine ⟨L, h1, h2, h3, ?_⟩
  unfold mendB
  rw [h1]
  simp only
  split
  · exact .inl rfl
  · exact .inr rfl
theorem mend_cut {K A : Bs} (h : Rd K A) (after : Int) (keep : List Int) : ∃ Y, doB K [] (mendB K []).1 true after keep = (Y, []) ∧ Rd Y A ∧ (mendB K []).2 = true := by
  obtain ⟨L, h1, h2, h3, h4⟩ := mendB_of h
  rcases h4 with e | e
  · rw [e]
    exact ⟨K, cut_idle h.1 after keep, h, rfl⟩
  · rw [e]
    obtain ⟨g1, g2⟩ := logL_good h2
    obtain ⟨n, e2⟩ := run_cut after keep (applyL L) 0 K []
    obtain ⟨X, e3, e4⟩ := apply_cut h.1 h.2.1 h2 h3 n keep
    refine ⟨X, ?_, e4, rfl⟩
    unfold doB
    rw [if_pos ⟨h.1, by rw [applyL_len]; omega⟩, e2]
    exact e3
theorem look_empty {K A : Bs} (h : Rd K A) (hz : (K.getD 0 ByteArray.empty).size = 0) : (lookB K [] 0).size = 0 := by
  rw [look0 h.1 h.2.1]
  exact hz
theorem mend_end {K A : Bs} (h : Rd K A) : ∃ Z, doB K [] (mendB K []).1 false 0 [] = (Z, []) ∧ (mendB K []).2 = true ∧ wreadB Z [] = (A, true) ∧ (lookB Z [] 0).size = 0 := by
  obtain ⟨L, h1, h2, h3⟩ := h.log
  by_cases hz : ((wr K []).getD 0 ByteArray.empty).size = 0
  · have e : mendB K [] = ([], true) := by unfold mendB; rw [h1]; simp only; rw [if_pos hz]
    rw [e]
    exact ⟨K, do_idle h.1 0 [], rfl, h.read, look_empty h hz⟩
  · have e : mendB K [] = (applyL L, true) := by unfold mendB; rw [h1]; simp only; rw [if_neg hz]
    rw [e]
    obtain ⟨e2, ok⟩ := do_apply h1 (by simp) []
    refine ⟨_, e2, rfl, (mended_read h1 ok).trans h.read, ?_⟩
    obtain ⟨m1, m2⟩ := mended_log h1 ok
    obtain ⟨q1, q2, -⟩ := logB_good m1
    rw [look0 q1 q2]
    exact m2
end Go.Proofs.YthjocaegapchaaaX
