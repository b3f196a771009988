/-
  What the exact laws' own functions on disks of sectors come to: sizes, copies, likeness, marks.
  Conditions: sizes far below Go's bounds.
-/
import Derived.Test.YthjocaegapchaaaXExText
import Derived.Test.YthjocaegapchaaaPx10
import Derived.Test.YthjocaegapchaaaPx11
namespace Go.Proofs.YthjocaegapchaaaX
open Go.RowKit Go.Proofs.Ythjocaegapchaaa.P Go.Proofs.YthjocaegapchaaaW.PrintWords Go.Proofs.YthjocaegapchaaaW.PrintLast Go.Proofs.YthjocaegapchaaaW.PrintMore
set_option linter.unusedVariables false
set_option linter.unusedSimpArgs false

theorem szString_loop (l : List ByteArray) (hl : l.length ≤ 1048576) (hs : ∀ s ∈ l, s.size ≤ 9223372036854775807) : ∀ (d i : Nat) (a : Int), l.length - i = d → i ≤ l.length → 0 ≤ a → a ≤ 1048576 →
    T (fun k => laws_szStringS.l0 k l a (i : Int)) (fun r => r < 0 ∨ (0 ≤ r ∧ r ≤ a)) := by
  intro d
  induction d with
  | zero =>
    intro i a hd hi h0 h1
    refine T.succ ?_
    simp only [laws_szStringS.l0]
    exact T.neg (by omega) (T.ret (by omega))
  | succ d ih =>
    intro i a hd hi h0 h1
    have hlt : i < l.length := by omega
    have hz := hs _ (List.getElem_mem hlt)
    refine T.succ ?_
    simp only [laws_szStringS.l0]
    refine T.pos (by omega) (T.pos (by omega) ?_)
    simp only [rdTx l i hlt, wrap_succ hlt (show l.length ≤ 4611686018427387904 by omega), wrap64_id (x := a - (l[i].size : Int)) (by omega) (by omega)]
    refine T.ite (fun h => T.ret (by omega)) (fun h => ?_)
    exact (ih (i + 1) _ (by omega) (by omega) (by omega) (by omega)).mono (fun r hr => by omega)
theorem szString_T (l : List ByteArray) (hl : l.length ≤ 9223372036854775807) (hs : ∀ s ∈ l, s.size ≤ 9223372036854775807) (a : Int) (h0 : 0 ≤ a) (h1 : a ≤ 1048576) :
    T (fun k => laws_szStringS.f k l a) (fun r => r < 0 ∨ (0 ≤ r ∧ r ≤ a ∧ (l.length : Int) ≤ a)) := by
  simp only [laws_szStringS.f, wrap64_id (x := a - (l.length : Int)) (by omega) (by omega)]
  refine T.ite (fun h => T.ret (by omega)) (fun h => ?_)
  exact (szString_loop l (by omega) hs _ 0 _ rfl (Nat.zero_le _) (by omega) (by omega)).mono (fun r hr => by omega)
theorem rd_LSw (l : List S105) (i : Nat) (h : i < l.length) : rd_T105 l (i : Int) = l[i] := getD_nat l i h _
theorem rd_ISw (l : List S75) (i : Nat) (h : i < l.length) : rd_T75 l (i : Int) = l[i] := getD_nat l i h _
theorem szSw_loop (l : List S105) (hl : l.length ≤ 1048576) (hs : ∀ x ∈ l, x.f1.size ≤ 9223372036854775807) : ∀ (d i : Nat) (a : Int), l.length - i = d → i ≤ l.length → 0 ≤ a → a ≤ 1048576 →
    T (fun k => laws_szSecWriteS.l0 k l a (i : Int)) (fun r => r < 0 ∨ (0 ≤ r ∧ r ≤ a)) := by
  intro d
  induction d with
  | zero =>
    intro i a hd hi h0 h1
    refine T.succ ?_
    simp only [laws_szSecWriteS.l0]
    exact T.neg (by omega) (T.ret (by omega))
  | succ d ih =>
    intro i a hd hi h0 h1
    have hlt : i < l.length := by omega
    have hz := hs _ (List.getElem_mem hlt)
    refine T.succ ?_
    simp only [laws_szSecWriteS.l0]
    refine T.pos (by omega) (T.pos (by omega) ?_)
    simp only [rd_LSw l i hlt, wrap_succ hlt (show l.length ≤ 4611686018427387904 by omega), laws_szSecWrite.f, wrap64_id (x := a - (l[i].f1.size : Int)) (by omega) (by omega)]
    by_cases h : a - (l[i].f1.size : Int) < 0
    · simp only [if_pos h, Option.bind_some]
      exact T.pos (by omega) (T.ret (by omega))
    · simp only [if_neg h, Option.bind_some]
      exact (ih (i + 1) _ (by omega) (by omega) (by omega) (by omega)).mono (fun r hr => by omega)
theorem szSw_T (l : List S105) (hl : l.length ≤ 9223372036854775807) (hs : ∀ x ∈ l, x.f1.size ≤ 9223372036854775807) (a : Int) (h0 : 0 ≤ a) (h1 : a ≤ 1048576) :
    T (fun k => laws_szSecWriteS.f k l a) (fun r => r < 0 ∨ (0 ≤ r ∧ r ≤ a ∧ (l.length : Int) ≤ a)) := by
  simp only [laws_szSecWriteS.f, wrap64_id (x := a - (l.length : Int)) (by omega) (by omega)]
  refine T.ite (fun h => T.ret (by omega)) (fun h => ?_)
  exact (szSw_loop l (by omega) hs _ 0 _ rfl (Nat.zero_le _) (by omega) (by omega)).mono (fun r hr => by omega)
theorem szSecDisk_T (K : List ByteArray) (W : List S105) (h : wf25 ⟨K, W⟩) (a : Int) (h0 : 0 ≤ a) (h1 : a ≤ 1048576) :
    T (fun k => laws_szSecDisk.f k K W a) (fun r => r < 0 ∨ (0 ≤ r ∧ r ≤ a ∧ (K.length : Int) ≤ a ∧ (W.length : Int) ≤ a)) := by
  simp only [laws_szSecDisk.f]
  refine T.bind (szString_T K h.1.1 h.1.2 a h0 h1) (fun r hr => ?_)
  refine T.ite (fun h => T.ret (by omega)) (fun hn => ?_)
  refine T.bind (szSw_T W h.2.1 (fun x hx => (h.2.2 x hx).2) r (by omega) (by omega)) (fun q hq => ?_)
  exact T.ite (fun h => T.ret (by omega)) (fun hn => T.ret (by omega))
/-! ### copies -/
theorem toStringS_loop (l : List ByteArray) (hl : l.length ≤ 1048576) : ∀ (d i : Nat) (y : List ByteArray), l.length - i = d → i ≤ l.length → y.length = l.length → y.take i = l.take i →
    T (fun k => laws_toStringS.l0 k l y (i : Int)) (· = l) := by
  intro d
  induction d with
  | zero =>
    intro i y hd hi hy ht
    refine T.succ ?_
    simp only [laws_toStringS.l0]
    refine T.neg (by omega) (T.ret ?_)
    rwa [List.take_of_length_le (by omega), List.take_of_length_le (by omega)] at ht
  | succ d ih =>
    intro i y hd hi hy ht
    have hlt : i < l.length := by omega
    refine T.succ ?_
    simp only [laws_toStringS.l0]
    refine T.pos (by omega) (T.pos (by omega) ?_)
    simp only [rdTx l i hlt]
    refine T.pos (by omega) ?_
    rw [wrap_succ hlt (by omega), Int.toNat_natCast]
    exact ih (i + 1) _ (by omega) (by omega) (by rw [List.length_set]; exact hy) (by
      rw [take_set_succ _ _ _ (by omega), ht, List.take_succ_eq_append_getElem hlt])
theorem toStringS_T (l : List ByteArray) (hl : l.length ≤ 1048576) : T (fun k => laws_toStringS.f k l) (· = l) := by
  simp only [laws_toStringS.f]
  refine T.pos (by omega) (T.pos (by omega) ?_)
  exact toStringS_loop l hl _ 0 _ rfl (Nat.zero_le _) (by simp) rfl
def toSw (x : S105) : S75 := ⟨x.f0, x.f1⟩
theorem toSw_loop (l : List S105) (hl : l.length ≤ 1048576) : ∀ (d i : Nat) (y : List S75), l.length - i = d → i ≤ l.length → y.length = l.length → y.take i = (l.take i).map toSw →
    T (fun k => laws_toSecWriteS.l0 k l y (i : Int)) (· = l.map toSw) := by
  intro d
  induction d with
  | zero =>
    intro i y hd hi hy ht
    refine T.succ ?_
    simp only [laws_toSecWriteS.l0]
    refine T.neg (by omega) (T.ret ?_)
    rwa [List.take_of_length_le (by omega), List.take_of_length_le (by omega)] at ht
  | succ d ih =>
    intro i y hd hi hy ht
    have hlt : i < l.length := by omega
    refine T.succ ?_
    simp only [laws_toSecWriteS.l0]
    refine T.pos (by omega) (T.pos (by omega) ?_)
    simp only [rd_LSw l i hlt, laws_toSecWrite.f, Option.bind_some]
    refine T.pos (by omega) ?_
    rw [wrap_succ hlt (by omega), Int.toNat_natCast]
    exact ih (i + 1) _ (by omega) (by omega) (by rw [List.length_set]; exact hy) (by
      rw [take_set_succ _ _ _ (by omega), ht, List.take_succ_eq_append_getElem hlt, List.map_append]
      rfl)
theorem toSwS_T (l : List S105) (hl : l.length ≤ 1048576) : T (fun k => laws_toSecWriteS.f k l) (· = l.map toSw) := by
  simp only [laws_toSecWriteS.f]
  refine T.pos (by omega) (T.pos (by omega) ?_)
  exact toSw_loop l hl _ 0 _ rfl (Nat.zero_le _) (by simp) rfl
theorem toSecDisk_T (K : List ByteArray) (W : List S105) (hK : K.length ≤ 1048576) (hW : W.length ≤ 1048576) : T (fun k => laws_toSecDisk.f k K W) (· = (K, W.map toSw)) := by
  simp only [laws_toSecDisk.f]
  exact T.bind_eq (toStringS_T K hK) (T.bind_eq (toSwS_T W hW) (T.ret rfl))
/-! ### are they alike -/
theorem eqStringS_loop (l m : List ByteArray) (hlm : l.length = m.length) (hl : l.length ≤ 4611686018427387904) : ∀ (d i : Nat), l.length - i = d → i ≤ l.length →
    T (fun k => laws_eqStringS.l0 k l m (i : Int)) (fun r => r = true ↔ l.drop i = m.drop i) := by
  intro d
  induction d with
  | zero =>
    intro i hd hi
    refine T.succ ?_
    simp only [laws_eqStringS.l0]
    refine T.neg (by omega) (T.ret ?_)
    rw [List.drop_of_length_le (by omega), List.drop_of_length_le (by omega)]
    simp
  | succ d ih =>
    intro i hd hi
    have hlt : i < l.length := by omega
    refine T.succ ?_
    simp only [laws_eqStringS.l0]
    refine T.pos (by omega) (T.pos (by omega) (T.pos (by omega) ?_))
    simp only [rdTx l i hlt, rdTx m i (by omega), bytes_eq]
    rw [List.drop_eq_getElem_cons hlt, List.drop_eq_getElem_cons (show i < m.length by omega)]
    refine T.ite (fun h => ?_) (fun h => T.ret ⟨ff, fun h1 => absurd (List.cons.inj h1).1 h⟩)
    rw [wrap_succ hlt hl]
    exact (ih (i + 1) (by omega) (by omega)).mono (fun r hr => hr.trans ⟨fun h1 => by rw [h, h1], fun h1 => (List.cons.inj h1).2⟩)
theorem eqStringS_T (l m : List ByteArray) (hl : l.length ≤ 4611686018427387904) : T (fun k => laws_eqStringS.f k l m) (fun r => r = true ↔ l = m) := by
  simp only [laws_eqStringS.f]
  refine T.ite (fun h => ?_) (fun h => T.ret ⟨ff, fun h1 => by subst h1; exact absurd rfl h⟩)
  have := eqStringS_loop l m (by omega) hl _ 0 rfl (Nat.zero_le _)
  simpa using this
theorem eqSw_f (x y : S75) : ∃ r, laws_eqSecWrite.f x.f0 x.f1 y.f0 y.f1 = some r ∧ (r = true ↔ x = y) := by
  unfold laws_eqSecWrite.f
  obtain ⟨x0, x1⟩ := x
  obtain ⟨y0, y1⟩ := y
  simp only [bytes_eq]
  repeat' split
  all_goals first
    | exact ⟨_, rfl, by simp_all⟩
theorem eqSw_loop (l m : List S75) (hlm : l.length = m.length) (hl : l.length ≤ 4611686018427387904) : ∀ (d i : Nat), l.length - i = d → i ≤ l.length →
    T (fun k => laws_eqSecWriteS.l0 k l m (i : Int)) (fun r => r = true ↔ l.drop i = m.drop i) := by
  intro d
  induction d with
  | zero =>
    intro i hd hi
    refine T.succ ?_
    simp only [laws_eqSecWriteS.l0]
    refine T.neg (by omega) (T.ret ?_)
    rw [List.drop_of_length_le (by omega), List.drop_of_length_le (by omega)]
    simp
  | succ d ih =>
    intro i hd hi
    have hlt : i < l.length := by omega
    refine T.succ ?_
    simp only [laws_eqSecWriteS.l0]
    refine T.pos (by omega) (T.pos (by omega) (T.pos (by omega) ?_))
    simp only [rd_ISw l i hlt, rd_ISw m i (by omega)]
    obtain ⟨r, hr, hr2⟩ := eqSw_f l[i] (m[i]'(by omega))
    simp only [hr, Option.bind_some]
    rw [List.drop_eq_getElem_cons hlt, List.drop_eq_getElem_cons (show i < m.length by omega)]
    refine T.ite (fun h => ?_) (fun h => T.ret ⟨ff, fun h1 => absurd (hr2.2 (List.cons.inj h1).1) h⟩)
    rw [wrap_succ hlt hl]
    exact (ih (i + 1) (by omega) (by omega)).mono (fun r hr => hr.trans ⟨fun h1 => by rw [hr2.1 h, h1], fun h1 => (List.cons.inj h1).2⟩)
theorem eqSwS_T (l m : List S75) (hl : l.length ≤ 4611686018427387904) : T (fun k => laws_eqSecWriteS.f k l m) (fun r => r = true ↔ l = m) := by
  simp only [laws_eqSecWriteS.f]
  refine T.ite (fun h => ?_) (fun h => T.ret ⟨ff, fun h1 => by subst h1; exact absurd rfl h⟩)
  have := eqSw_loop l m (by omega) hl _ 0 rfl (Nat.zero_le _)
  simpa using this
theorem eqSecDisk_T (K K' : List ByteArray) (W W' : List S75) (hK : K.length ≤ 4611686018427387904) (hW : W.length ≤ 4611686018427387904) :
    T (fun k => laws_eqSecDisk.f k K W K' W') (fun r => r = true ↔ K = K' ∧ W = W') := by
  simp only [laws_eqSecDisk.f]
  refine T.bind (eqStringS_T K K' hK) (fun r hr => ?_)
  refine T.ite (fun h => ?_) (fun h => T.ret ⟨ff, fun h1 => absurd (hr.2 h1.1) h⟩)
  refine T.bind (eqSwS_T W W' hW) (fun q hq => ?_)
  exact T.ite (fun h2 => T.ret ⟨fun _ => ⟨hr.1 h, hq.1 h2⟩, fun _ => rfl⟩) (fun h2 => T.ret ⟨ff, fun h1 => absurd (hq.2 h1.2) h2⟩)
/-! ### marks -/
def MkTx (a : Int) (l : List ByteArray) : Prop := ∀ j, (h : j < l.length) → l[j] = mt (a + (j : Int))
theorem markTx_loop (a : Int) (ha : 0 ≤ a) : ∀ (d i : Nat) (y : List ByteArray), y.length - i = d → i ≤ y.length → a + (y.length : Int) ≤ 4611686018427387904 → MkTx a (y.take i) →
    T (fun k => laws_markStringS.l0 k y (a + (i : Int)) (i : Int)) (fun r => r.1 = a + (y.length : Int) ∧ r.2.length = y.length ∧ MkTx a r.2) := by
  intro d
  induction d with
  | zero =>
    intro i y hd hi hb hm
    refine T.succ ?_
    simp only [laws_markStringS.l0]
    refine T.neg (by omega) (T.ret ⟨?_, rfl, ?_⟩)
    · simp only; omega
    · rwa [List.take_of_length_le (by omega)] at hm
  | succ d ih =>
    intro i y hd hi hb hm
    have hlt : i < y.length := by omega
    refine T.succ ?_
    simp only [laws_markStringS.l0]
    refine T.pos (by omega) ?_
    refine T.bind_eq (mt_T (a + (i : Int)) (by omega)) ?_
    refine T.pos (by omega) ?_
    rw [wrap_succ hlt (by omega), wrap64_id (x := a + (i : Int) + 1) (by omega) (by omega), Int.toNat_natCast]
    have := ih (i + 1) (y.set i (mt (a + (i : Int)))) (by rw [List.length_set]; omega) (by rw [List.length_set]; omega) (by rw [List.length_set]; exact hb) (by
      rw [take_set_succ _ _ _ hlt]
      intro j hj
      rcases Nat.lt_or_ge j (y.take i).length with h | h
      · simp only [List.getElem_append_left h]
        exact hm j h
      · have e : j = i := by simp at hj h; omega
        subst e
        rw [List.getElem_append_right h]
        simp)
    rw [show a + ((i + 1 : Nat) : Int) = a + (i : Int) + 1 by omega] at this
    simpa only [List.length_set] using this
theorem markTx_T (y : List ByteArray) (a : Int) (ha : 0 ≤ a) (hb : a + (y.length : Int) ≤ 4611686018427387904) : T (fun k => laws_markStringS.f k y a) (fun r => r.1 = a + (y.length : Int) ∧ r.2.length = y.length ∧ MkTx a r.2) := by
  have := markTx_loop a ha _ 0 y rfl (Nat.zero_le _) hb (fun j hj => by simp at hj)
  simpa [laws_markStringS.f] using this
def MkSw (a : Int) (l : List S75) : Prop := ∀ j, (h : j < l.length) → l[j].f0 = a + 2 * (j : Int) ∧ l[j].f1 = mt (a + 2 * (j : Int) + 1)
theorem markSw_loop (a : Int) (ha : 0 ≤ a) : ∀ (d i : Nat) (y : List S75), y.length - i = d → i ≤ y.length → a + 2 * (y.length : Int) ≤ 4611686018427387904 → MkSw a (y.take i) →
    T (fun k => laws_markSecWriteS.l0 k y (a + 2 * (i : Int)) (i : Int)) (fun r => r.1 = a + 2 * (y.length : Int) ∧ r.2.length = y.length ∧ MkSw a r.2) := by
  intro d
  induction d with
  | zero =>
    intro i y hd hi hb hm
    refine T.succ ?_
    simp only [laws_markSecWriteS.l0]
    refine T.neg (by omega) (T.ret ⟨?_, rfl, ?_⟩)
    · simp only; omega
    · rwa [List.take_of_length_le (by omega)] at hm
  | succ d ih =>
    intro i y hd hi hb hm
    have hlt : i < y.length := by omega
    have w1 : wrap64 (a + 2 * (i : Int) + 1) = a + 2 * (i : Int) + 1 := wrap64_id (by omega) (by omega)
    have w2 : wrap64 (a + 2 * (i : Int) + 1 + 1) = a + 2 * (i : Int) + 2 := by rw [wrap64_id (by omega) (by omega)]; omega
    have rs : ∀ (z : List S75) (v : S75), i < z.length → rd_T75 (z.set i v) (i : Int) = v := fun z v hz => by
      rw [rd_ISw _ i (by simpa using hz)]; simp
    refine T.succ ?_
    simp only [laws_markSecWriteS.l0]
    refine T.pos (by omega) (T.pos (by omega) ?_)
    simp only [Option.bind_some, w1, w2]
    refine T.bind_eq (mt_T (a + 2 * (i : Int) + 1) (by omega)) ?_
    simp only [Int.toNat_natCast, rs, hlt, List.length_set, List.set_set, wrap_succ hlt (show y.length ≤ 4611686018427387904 by omega)]
    have := ih (i + 1) (y.set i ⟨a + 2 * (i : Int), mt (a + 2 * (i : Int) + 1)⟩) (by rw [List.length_set]; omega) (by rw [List.length_set]; omega) (by rw [List.length_set]; exact hb) (by
      rw [take_set_succ _ _ _ hlt]
      intro j hj
      rcases Nat.lt_or_ge j (y.take i).length with h | h
      · simp only [List.getElem_append_left h]
        exact hm j h
      · have e : j = i := by simp at hj h; omega
        subst e
        rw [List.getElem_append_right h]
        simp)
    rw [show a + 2 * ((i + 1 : Nat) : Int) = a + 2 * (i : Int) + 2 by omega] at this
    simpa only [List.length_set] using this
theorem markSw_T (y : List S75) (a : Int) (ha : 0 ≤ a) (hb : a + 2 * (y.length : Int) ≤ 4611686018427387904) : T (fun k => laws_markSecWriteS.f k y a) (fun r => r.1 = a + 2 * (y.length : Int) ∧ r.2.length = y.length ∧ MkSw a r.2) := by
  have := markSw_loop a ha _ 0 y rfl (Nat.zero_le _) hb (fun j hj => by simp at hj)
  simpa [laws_markSecWriteS.f] using this
/-- A disk is marked. -/
theorem markSecDiskA_T (K : List ByteArray) (W : List S75) (hK : K.length ≤ 1152921504606846976) (hW : W.length ≤ 1152921504606846976) :
    T (fun k => laws_markSecDisk.f k K W 1) (fun r => (0 ≤ r.1 ∧ r.1 ≤ 3 * 1152921504606846976 + 1) ∧ (r.1 = 1 + (K.length : Int) + 2 * (W.length : Int)) ∧ (r.2.1.length = K.length ∧ MkTx 1 r.2.1) ∧ r.2.2.length = W.length ∧ MkSw (1 + (K.length : Int)) r.2.2) := by
  simp only [laws_markSecDisk.f]
  refine T.bind (markTx_T K 1 (by omega) (by omega)) (fun r hr => ?_)
  obtain ⟨h1, h2, h3⟩ := hr
  refine T.bind (markSw_T W r.1 (by omega) (by omega)) (fun q hq => ?_)
  obtain ⟨g1, g2, g3⟩ := hq
  rw [h1] at g1 g3
  exact T.ret ⟨⟨by simp only; omega, by simp only; omega⟩, by simp only; omega, ⟨h2, h3⟩, g2, g3⟩
end Go.Proofs.YthjocaegapchaaaX
