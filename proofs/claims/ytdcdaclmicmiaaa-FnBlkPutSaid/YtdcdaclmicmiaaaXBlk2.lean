/-
  What BlkGet, BlkDrop and BlkPut come to, in plain lists, for the program and the reference alike.
  Conditions: lists of at most a million elements.
-/
import Derived.Test.YtdcdaclmicmiaaaXBlk
import Derived.Test.YtdcdaclmicmiaaaPx12
import Derived.Test.YtdcdaclmicmiaaaPx18
import Derived.Test.YtdcdaclmicmiaaaPx20
import Derived.Test.YtdcdaclmicmiaaaPx9
import Derived.Test.YtdcdaclmicmiaaaPx7
namespace Go.Proofs.YtdcdaclmicmiaaaX
open Go.RowKit Go.Proofs.Ytdcdaclmicmiaaa.P Go.Proofs.YtdcdaclmicmiaaaW.PrintWords Go.Proofs.YtdcdaclmicmiaaaW.PrintLast Go.Proofs.YtdcdaclmicmiaaaW.PrintMore
set_option linter.unusedVariables false
set_option linter.unusedSimpArgs false

/-! ### BlkGet -/
def hit (d b e : Int) (p : Pc) : Prop := p.f0 = d ∧ p.f1 = b ∧ p.f2 ≤ e
instance (d b e : Int) (p : Pc) : Decidable (hit d b e p) := by unfold hit; infer_instance
def getL (d b e : Int) : Int → List Pc → Int
  | acc, [] => acc
  | acc, p :: r => getL d b e (if hit d b e p then p.f3 else acc) r
theorem impl_get_loop (d b e : Int) (l : List Pc) (hl : l.length ≤ 4611686018427387904) : ∀ (m i : Nat) (acc : Int), l.length - i = m → i ≤ l.length →
    T (fun k => impl_BlkGet.l0 k d b e acc l (l.length : Int) (i : Int)) (· = getL d b e acc (l.drop i)) := by
  intro m
  induction m with
  | zero =>
    intro i acc hd hi
    refine T.succ ?_
    simp only [impl_BlkGet.l0]
    refine T.neg (by omega) (T.ret ?_)
    rw [List.drop_of_length_le (by omega)]; rfl
  | succ m ih =>
    intro i acc hd hi
    have hlt : i < l.length := by omega
    refine T.succ ?_
    simp only [impl_BlkGet.l0]
    refine T.pos (by omega) (T.pos (by omega) (T.pos (by omega) ?_))
    simp only [rdP l i hlt, wrap_succ hlt hl]
    rw [List.drop_eq_getElem_cons hlt]
    simp only [getL]
    have h1 := fun a => ih (i + 1) a (by omega) (by omega)
    refine T.ite (fun ha => ?_) (fun ha => ?_)
    · refine T.ite (fun hb => ?_) (fun hb => ?_)
      · refine T.ite (fun hc => ?_) (fun hc => ?_)
        · rw [if_pos (show hit d b e l[i] from ⟨ha, hb, hc⟩)]; exact h1 _
        · rw [if_neg (fun h : hit d b e l[i] => hc h.2.2)]; exact h1 _
      · rw [if_neg (fun h : hit d b e l[i] => hb h.2.1)]; exact h1 _
    · rw [if_neg (fun h : hit d b e l[i] => ha h.1)]; exact h1 _
theorem spec_get_loop (d b e : Int) (l : List Pc) (hl : l.length ≤ 4611686018427387904) : ∀ (m i : Nat) (acc : Int), l.length - i = m → i ≤ l.length →
    T (fun k => spec_BlkGet.l0 k l d b e acc (i : Int)) (· = getL d b e acc (l.drop i)) := by
  intro m
  induction m with
  | zero =>
    intro i acc hd hi
    refine T.succ ?_
    simp only [spec_BlkGet.l0]
    refine T.neg (by omega) (T.ret ?_)
    rw [List.drop_of_length_le (by omega)]; rfl
  | succ m ih =>
    intro i acc hd hi
    have hlt : i < l.length := by omega
    refine T.succ ?_
    simp only [spec_BlkGet.l0]
    refine T.pos (by omega) (T.pos (by omega) ?_)
    simp only [rdP l i hlt, wrap_succ hlt hl]
    rw [List.drop_eq_getElem_cons hlt]
    simp only [getL]
    have h1 := fun a => ih (i + 1) a (by omega) (by omega)
    refine T.ite (fun ha => ?_) (fun ha => ?_)
    · refine T.ite (fun hb => ?_) (fun hb => ?_)
      · refine T.ite (fun hc => ?_) (fun hc => ?_)
        · rw [if_pos (show hit d b e l[i] from ⟨ha, hb, hc⟩)]; exact h1 _
        · rw [if_neg (fun h : hit d b e l[i] => hc h.2.2)]; exact h1 _
      · rw [if_neg (fun h : hit d b e l[i] => hb h.2.1)]; exact h1 _
    · rw [if_neg (fun h : hit d b e l[i] => ha h.1)]; exact h1 _
noncomputable def getB (l : List Pc) (d b e : Int) : Int := if bok l = true then getL d b e 0 l else 0
theorem impl_get (l : List Pc) (hl : l.length ≤ 4611686018427387904) (d b e : Int) : T (fun k => impl_BlkGet.f k l d b e) (· = getB l d b e) := by
  simp only [impl_BlkGet.f]
  refine T.bind_eq (impl_ok_eq l hl) ?_
  unfold getB
  refine T.ite (fun h => ?_) (fun h => ?_)
  · rw [if_pos h]; exact impl_get_loop d b e l hl _ 0 0 rfl (Nat.zero_le _)
  · rw [if_neg h]; exact T.ret rfl
theorem spec_get (l : List Pc) (hl : l.length ≤ 4611686018427387904) (d b e : Int) : T (fun k => spec_BlkGet.f k l d b e) (· = getB l d b e) := by
  simp only [spec_BlkGet.f]
  refine T.bind_eq (spec_ok_eq l) ?_
  unfold getB
  refine T.ite (fun h => ?_) (fun h => ?_)
  · rw [if_pos h]; exact spec_get_loop d b e l hl _ 0 0 rfl (Nat.zero_le _)
  · rw [if_neg h]; exact T.ret rfl

/-! ### BlkDrop -/
def dropL (d : Int) (l : List Pc) : List Pc := l.filter (fun p => !(p.f0 == d))
theorem dropL_cons (d : Int) (p : Pc) (r : List Pc) : dropL d (p :: r) = if p.f0 = d then dropL d r else p :: dropL d r := by
  unfold dropL
  by_cases h : p.f0 = d <;> simp [List.filter_cons, h]
theorem dropL_le (d : Int) (l : List Pc) : (dropL d l).length ≤ l.length := List.length_filter_le _ _
theorem impl_drop_loop (d : Int) (l : List Pc) (hl : l.length ≤ 1048577) : ∀ (m i : Nat) (acc : List Pc), l.length - i = m → i ≤ l.length → acc.length ≤ i →
    T (fun k => impl_BlkDrop.l0 k d acc l (l.length : Int) (i : Int)) (· = acc ++ dropL d (l.drop i)) := by
  intro m
  induction m with
  | zero =>
    intro i acc hd hi ha
    refine T.succ ?_
    simp only [impl_BlkDrop.l0]
    refine T.neg (by omega) ?_
    simp only [impl_copied_BlkPiece.f]
    rw [if_pos (by omega)]
    refine T.ret ?_
    rw [List.drop_of_length_le (by omega)]; simp [dropL]
  | succ m ih =>
    intro i acc hd hi ha
    have hlt : i < l.length := by omega
    refine T.succ ?_
    simp only [impl_BlkDrop.l0]
    refine T.pos (by omega) (T.pos (by omega) (T.pos (by omega) ?_))
    simp only [rdP l i hlt, wrap_succ hlt (show l.length ≤ 4611686018427387904 by omega)]
    rw [List.drop_eq_getElem_cons hlt, dropL_cons]
    refine T.ite (fun h => ?_) (fun h => ?_)
    · rw [if_pos h]; exact ih (i + 1) acc (by omega) (by omega) (by omega)
    · rw [if_neg h]
      refine T.pos (by omega) ?_
      have := ih (i + 1) (acc ++ [l[i]]) (by omega) (by omega) (by simp; omega)
      simpa using this
theorem spec_drop_loop (d : Int) (l : List Pc) (hl : l.length ≤ 1048577) : ∀ (m i : Nat) (acc : List Pc), l.length - i = m → i ≤ l.length → acc.length ≤ i →
    T (fun k => spec_BlkDrop.l0 k l d acc (i : Int)) (· = acc ++ dropL d (l.drop i)) := by
  intro m
  induction m with
  | zero =>
    intro i acc hd hi ha
    refine T.succ ?_
    simp only [spec_BlkDrop.l0]
    refine T.neg (by omega) (T.ret ?_)
    rw [List.drop_of_length_le (by omega)]; simp [dropL]
  | succ m ih =>
    intro i acc hd hi ha
    have hlt : i < l.length := by omega
    refine T.succ ?_
    simp only [spec_BlkDrop.l0]
    refine T.pos (by omega) (T.pos (by omega) ?_)
    simp only [rdP l i hlt, wrap_succ hlt (show l.length ≤ 4611686018427387904 by omega)]
    rw [List.drop_eq_getElem_cons hlt, dropL_cons]
    refine T.ite (fun h => ?_) (fun h => ?_)
    · rw [if_pos h]; exact ih (i + 1) acc (by omega) (by omega) (by omega)
    · rw [if_neg h]
      refine T.pos (by omega) ?_
      have := ih (i + 1) (acc ++ [l[i]]) (by omega) (by omega) (by simp; omega)
      simpa using this
noncomputable def dropB (l : List Pc) (d : Int) : List Pc := if bok l = true then dropL d l else []
theorem impl_drop (l : List Pc) (hl : l.length ≤ 1048577) (d : Int) : T (fun k => impl_BlkDrop.f k l d) (· = dropB l d) := by
  simp only [impl_BlkDrop.f]
  refine T.bind_eq (impl_ok_eq l (by omega)) ?_
  unfold dropB
  refine T.ite (fun h => ?_) (fun h => ?_)
  · rw [if_pos h]; simpa using impl_drop_loop d l hl _ 0 [] rfl (Nat.zero_le _) (Nat.le_refl _)
  · rw [if_neg h]; exact T.ret rfl
theorem spec_drop (l : List Pc) (hl : l.length ≤ 1048577) (d : Int) : T (fun k => spec_BlkDrop.f k l d) (· = dropB l d) := by
  simp only [spec_BlkDrop.f, Option.bind_some]
  refine T.bind_eq (spec_ok_eq l) ?_
  unfold dropB
  refine T.ite (fun h => ?_) (fun h => ?_)
  · rw [if_pos h]; simpa using spec_drop_loop d l hl _ 0 [] rfl (Nat.zero_le _) (Nat.le_refl _)
  · rw [if_neg h]; exact T.ret rfl

/-! ### BlkPut -/
/-- What stands in a piece's place, and behind it. -/
def insL (p : Pc) : Bool → List Pc → List Pc
  | put, [] => if put then [] else [p]
  | put, x :: r =>
    let now := !put && !decide (lt3 x p)
    (if now then [p] else []) ++ ((if key p x then [] else [x]) ++ insL p (put || now) r)
theorem insL_le (p : Pc) : ∀ (l : List Pc) (b : Bool), (insL p b l).length ≤ l.length + (if b then 0 else 1)
  | [], b => by cases b <;> simp [insL]
  | x :: r, b => by
    have h1 := insL_le p r true
    have h2 := insL_le p r false
    simp only [insL]
    by_cases hx : lt3 x p <;> by_cases hk : key p x <;> cases b <;> simp [hx, hk] at h1 h2 ⊢ <;> omega
noncomputable def putB (l : List Pc) (p : Pc) : List Pc × Bool := if bok l = true then (if bok (insL p false l) = true then (insL p false l, true) else (l, false)) else ([], false)
theorem impl_put_loop (p : Pc) (l : List Pc) (hl : l.length ≤ 1048577) : ∀ (m i : Nat) (acc : List Pc) (b : Bool), l.length - i = m → i ≤ l.length → (b = false → acc.length ≤ i) → acc.length ≤ i + 1 →
    T (fun k => impl_BlkPut.l0 k l acc b l (l.length : Int) (i : Int) p.f0 p.f1 p.f2 p.f3) (· = if bok (acc ++ insL p b (l.drop i)) = true then (acc ++ insL p b (l.drop i), true) else (l, false)) := by
  have last : ∀ out : List Pc, out.length ≤ 1048580 → T (fun k => impl_BlkPut.j2 k l out) (· = if bok out = true then (out, true) else (l, false)) := fun out ho => by
    refine T.succ ?_
    simp only [impl_BlkPut.j2, impl_copied_BlkPiece.f]
    refine T.bind_eq (impl_ok_eq out (by omega)) ?_
    rw [if_pos (show out.length ≤ 8796093022208 by omega), if_pos (show l.length ≤ 8796093022208 by omega)]
    refine T.ite (fun h => ?_) (fun h => ?_)
    · rw [if_pos h]; exact T.ret rfl
    · rw [if_neg h]; exact T.ret rfl
  intro m
  induction m with
  | zero =>
    intro i acc b hd hi ha0 ha
    refine T.succ ?_
    simp only [impl_BlkPut.l0]
    refine T.neg (by omega) ?_
    rw [List.drop_of_length_le (by omega)]
    refine T.ite (fun h => ?_) (fun h => ?_)
    · subst h
      simpa [insL] using last acc (by omega)
    · obtain rfl : b = false := by simpa using h
      refine T.pos (by omega) ?_
      have := last (acc ++ [p]) (by simp; omega)
      simpa [insL] using this
  | succ m ih =>
    intro i acc b hd hi ha0 ha
    have hlt : i < l.length := by omega
    refine T.succ ?_
    simp only [impl_BlkPut.l0]
    refine T.pos (by omega) (T.pos (by omega) (T.pos (by omega) ?_))
    simp only [rdP l i hlt]
    refine T.bind_eq (way_T _ _ _ _ _ _ _ _) ?_
    rw [List.drop_eq_getElem_cons hlt]
    have go : ∀ now : Bool, now = (!b && !decide (lt3 l[i] p)) → T (fun k => impl_BlkPut.j1 k l acc b (way p l[i]) l (l.length : Int) (i : Int) now p.f0 p.f1 p.f2 p.f3 l[i].f0 l[i].f1 l[i].f2 l[i].f3)
        (· = if bok (acc ++ insL p b (l[i] :: l.drop (i + 1))) = true then (acc ++ insL p b (l[i] :: l.drop (i + 1)), true) else (l, false)) := by
      intro now hnow
      refine T.succ ?_
      simp only [impl_BlkPut.j1, insL, ← hnow, wrap_succ hlt (show l.length ≤ 4611686018427387904 by omega)]
      refine T.ite (fun h => ?_) (fun h => ?_)
      · subst h
        have hb : b = false := by
          cases b
          · rfl
          · simp at hnow
        subst hb
        have ha1 := ha0 rfl
        refine T.pos (by omega) ?_
        simp only [Option.bind_some]
        refine T.ite (fun hk => ?_) (fun hk => ?_)
        · rw [if_pos ((way_key _ _).1 hk)]
          have := ih (i + 1) (acc ++ [p]) true (by omega) (by omega) (by simp) (by simp; omega)
          simpa using this
        · rw [if_neg (fun h => hk ((way_key _ _).2 h))]
          refine T.pos (by simp; omega) ?_
          have := ih (i + 1) (acc ++ [p] ++ [l[i]]) true (by omega) (by omega) (by simp) (by simp; omega)
          simpa using this
      · obtain rfl : now = false := by simpa using h
        refine T.ite (fun hk => ?_) (fun hk => ?_)
        · rw [if_pos ((way_key _ _).1 hk)]
          have := ih (i + 1) acc b (by omega) (by omega) (fun h => by have := ha0 h; omega) (by omega)
          simpa using this
        · rw [if_neg (fun h => hk ((way_key _ _).2 h))]
          refine T.pos (by omega) ?_
          have := ih (i + 1) (acc ++ [l[i]]) b (by omega) (by omega) (fun h => by have := ha0 h; simp; omega) (by simp; omega)
          simpa using this
    have hw := way_le p l[i]
    refine T.ite (fun h => ?_) (fun h => ?_)
    · exact go _ (by simp [hw.1 h])
    · have : lt3 l[i] p := Decidable.not_not.1 (fun z => h (hw.2 z))
      exact go _ (by simp [this])
theorem impl_put (l : List Pc) (hl : l.length ≤ 1048577) (p : Pc) : T (fun k => impl_BlkPut.f k l p.f0 p.f1 p.f2 p.f3) (· = putB l p) := by
  simp only [impl_BlkPut.f]
  refine T.bind_eq (impl_ok_eq l (by omega)) ?_
  unfold putB
  refine T.ite (fun h => ?_) (fun h => ?_)
  · rw [if_pos h]; simpa using impl_put_loop p l hl _ 0 [] false rfl (Nat.zero_le _) (fun _ => Nat.zero_le _) (Nat.zero_le _)
  · rw [if_neg h]; exact T.ret rfl
theorem spec_put_loop (p : Pc) (l : List Pc) (hl : l.length ≤ 1048577) : ∀ (m i : Nat) (acc : List Pc) (b : Bool), l.length - i = m → i ≤ l.length → (b = false → acc.length ≤ i) → acc.length ≤ i + 1 →
    T (fun k => spec_BlkPut.l0 k l p.f0 p.f1 p.f2 acc b (i : Int) p.f0 p.f1 p.f2 p.f3) (· = if bok (acc ++ insL p b (l.drop i)) = true then (acc ++ insL p b (l.drop i), true) else (l, false)) := by
  intro m
  induction m with
  | zero =>
    intro i acc b hd hi ha0 ha
    refine T.succ ?_
    simp only [spec_BlkPut.l0, Option.bind_some]
    refine T.neg (by omega) ?_
    rw [List.drop_of_length_le (by omega)]
    simp only [List.nil_append, List.length_nil]
    refine T.ite (fun h => ?_) (fun h => ?_)
    · subst h
      refine T.bind_eq (spec_ok_eq acc) ?_
      simp only [insL, if_true, List.append_nil]
      refine T.ite (fun h => ?_) (fun h => ?_)
      · rw [if_pos h]; exact T.ret rfl
      · rw [if_neg h]; exact T.pos (by omega) (T.ret rfl)
    · obtain rfl : b = false := by simpa using h
      refine T.pos (by omega) ?_
      refine T.bind_eq (spec_ok_eq (acc ++ [p])) ?_
      simp only [insL, Bool.false_eq_true, if_false]
      refine T.ite (fun h => ?_) (fun h => ?_)
      · rw [if_pos h]; exact T.ret rfl
      · rw [if_neg h]; exact T.pos (by omega) (T.ret rfl)
  | succ m ih =>
    intro i acc b hd hi ha0 ha
    have hlt : i < l.length := by omega
    refine T.succ ?_
    simp only [spec_BlkPut.l0]
    refine T.pos (by omega) (T.pos (by omega) ?_)
    simp only [rdP l i hlt]
    rw [List.drop_eq_getElem_cons hlt]
    have go2 : ∀ now sm : Bool, now = (!b && !decide (lt3 l[i] p)) → sm = decide (key p l[i]) → T (fun k => spec_BlkPut.j2 k l p.f0 p.f1 p.f2 acc b (i : Int) sm now p.f0 p.f1 p.f2 p.f3 l[i].f0 l[i].f1 l[i].f2 l[i].f3)
        (· = if bok (acc ++ insL p b (l[i] :: l.drop (i + 1))) = true then (acc ++ insL p b (l[i] :: l.drop (i + 1)), true) else (l, false)) := by
      intro now sm hnow hsm
      refine T.succ ?_
      simp only [spec_BlkPut.j2, insL, ← hnow, wrap_succ hlt (show l.length ≤ 4611686018427387904 by omega)]
      refine T.ite (fun h => ?_) (fun h => ?_)
      · subst h
        have hb : b = false := by
          cases b
          · rfl
          · simp at hnow
        subst hb
        have ha1 := ha0 rfl
        refine T.pos (by omega) ?_
        simp only [Option.bind_some]
        refine T.ite (fun hk => ?_) (fun hk => ?_)
        · rw [if_pos (show key p l[i] by rw [hk] at hsm; simpa using hsm.symm)]
          have := ih (i + 1) (acc ++ [p]) true (by omega) (by omega) (by simp) (by simp; omega)
          simpa using this
        · rw [if_neg (show ¬ key p l[i] by intro h; rw [decide_eq_true h] at hsm; exact hk hsm)]
          refine T.pos (by simp; omega) ?_
          have := ih (i + 1) (acc ++ [p] ++ [l[i]]) true (by omega) (by omega) (by simp) (by simp; omega)
          simpa using this
      · obtain rfl : now = false := by simpa using h
        refine T.ite (fun hk => ?_) (fun hk => ?_)
        · rw [if_pos (show key p l[i] by rw [hk] at hsm; simpa using hsm.symm)]
          have := ih (i + 1) acc b (by omega) (by omega) (fun h => by have := ha0 h; omega) (by omega)
          simpa using this
        · rw [if_neg (show ¬ key p l[i] by intro h; rw [decide_eq_true h] at hsm; exact hk hsm)]
          refine T.pos (by omega) ?_
          have := ih (i + 1) (acc ++ [l[i]]) b (by omega) (by omega) (fun h => by have := ha0 h; simp; omega) (by simp; omega)
          simpa using this
    have go1 : ∀ sm : Bool, sm = decide (key p l[i]) → T (fun k => spec_BlkPut.j1 k l p.f0 p.f1 p.f2 acc b (i : Int) sm p.f0 p.f1 p.f2 p.f3 l[i].f0 l[i].f1 l[i].f2 l[i].f3)
        (· = if bok (acc ++ insL p b (l[i] :: l.drop (i + 1))) = true then (acc ++ insL p b (l[i] :: l.drop (i + 1)), true) else (l, false)) := by
      intro sm hsm
      refine T.succ ?_
      simp only [spec_BlkPut.j1]
      refine T.ite (fun h => ?_) (fun h => ?_)
      · exact go2 _ _ (by simp [h]) hsm
      · simp only [before_f _ _ _ _ _ _ _ p.f3, Option.bind_some]
        exact go2 _ _ (by simp [h]) hsm
    refine T.ite (fun h1 => ?_) (fun h1 => ?_)
    · refine T.ite (fun h2 => ?_) (fun h2 => ?_)
      · refine go1 _ ?_
        rw [Bool.eq_iff_iff, beq_iff_eq, decide_eq_true_eq]
        exact ⟨fun h => ⟨h1.symm, h2.symm, h.symm⟩, fun h => h.2.2.symm⟩
      · exact go1 _ (decide_eq_false (fun h : key p l[i] => h2 h.2.1.symm)).symm
    · exact go1 _ (decide_eq_false (fun h : key p l[i] => h1 h.1.symm)).symm
theorem spec_put (l : List Pc) (hl : l.length ≤ 1048577) (p : Pc) : T (fun k => spec_BlkPut.f k l p.f0 p.f1 p.f2 p.f3) (· = putB l p) := by
  simp only [spec_BlkPut.f, Option.bind_some]
  refine T.bind_eq (spec_ok_eq l) ?_
  unfold putB
  refine T.ite (fun h => ?_) (fun h => ?_)
  · rw [if_pos h]; simpa using spec_put_loop p l hl _ 0 [] false rfl (Nat.zero_le _) (fun _ => Nat.zero_le _) (Nat.zero_le _)
  · rw [if_neg h]; exact T.ret rfl
end Go.Proofs.YtdcdaclmicmiaaaX
