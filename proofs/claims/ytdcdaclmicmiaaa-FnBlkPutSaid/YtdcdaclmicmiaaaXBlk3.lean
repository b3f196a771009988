/-
  Plain facts on pieces in order: what was written is read, writes change places, a disk that is gone leaves the others.
  Conditions: none.
-/
import Derived.Test.YtdcdaclmicmiaaaXBlk2
namespace Go.Proofs.YtdcdaclmicmiaaaX
open Go.RowKit Go.Proofs.Ytdcdaclmicmiaaa.P Go.Proofs.YtdcdaclmicmiaaaW.PrintWords Go.Proofs.YtdcdaclmicmiaaaW.PrintLast Go.Proofs.YtdcdaclmicmiaaaW.PrintMore
set_option linter.unusedVariables false
set_option linter.unusedSimpArgs false

theorem lt3_irrefl (p : Pc) : ¬ lt3 p p := by unfold lt3; omega
theorem lt3_trans {p q r : Pc} (h : lt3 p q) (h2 : lt3 q r) : lt3 p r := by unfold lt3 at *; omega
theorem lt3_asymm {p q : Pc} (h : lt3 p q) : ¬ lt3 q p := by unfold lt3 at *; omega
theorem lt3_total (p q : Pc) : lt3 p q ∨ key p q ∨ lt3 q p := by unfold lt3 key; omega
theorem not_key_of_lt {p q : Pc} (h : lt3 p q) : ¬ key p q := by unfold lt3 key at *; omega
def Srt (l : List Pc) : Prop := l.Pairwise lt3
theorem BOk.srt {l : List Pc} (h : BOk l) : Srt l := by
  have key : ∀ d i : Nat, (hi : i + d < l.length) → 0 < d → lt3 l[i] l[i + d] := by
    intro d
    induction d with
    | zero => intro i hi h0; omega
    | succ d ih =>
      intro i hi _
      have h1 := (h.2 (i + d + 1) (Nat.zero_le _) hi).2 (by omega)
      simp only [Nat.add_sub_cancel] at h1
      rcases Nat.eq_zero_or_pos d with rfl | hd
      · simpa using h1
      · exact lt3_trans (ih i (by omega) hd) h1
  refine List.pairwise_iff_getElem.2 (fun i j hi hj hij => ?_)
  have := key (j - i) i (by omega) (by omega)
  simpa [show i + (j - i) = j by omega] using this
theorem BOk.goods {l : List Pc} (h : BOk l) : ∀ x ∈ l, good x := fun x hx => by
  obtain ⟨i, hi, rfl⟩ := List.getElem_of_mem hx
  exact (h.2 i (Nat.zero_le _) hi).1
theorem BOk.of {l : List Pc} (h0 : l.length ≤ 60) (h1 : Srt l) (h2 : ∀ x ∈ l, good x) : BOk l :=
  ⟨h0, fun j _ hj => ⟨h2 _ (List.getElem_mem hj), fun h => List.pairwise_iff_getElem.1 h1 (j - 1) j (by omega) hj (by omega)⟩⟩
theorem srt_ext : ∀ {l m : List Pc}, Srt l → Srt m → (∀ z, z ∈ l ↔ z ∈ m) → l = m
  | [], [], _, _, _ => rfl
  | [], b :: m, _, _, h => absurd ((h b).2 List.mem_cons_self) (by simp)
  | a :: l, [], _, _, h => absurd ((h a).1 List.mem_cons_self) (by simp)
  | a :: l, b :: m, hl, hm, h => by
    have hl1 := List.pairwise_cons.1 hl
    have hm1 := List.pairwise_cons.1 hm
    have e : a = b := by
      rcases List.mem_cons.1 ((h a).1 List.mem_cons_self) with e | ha
      · exact e
      · rcases List.mem_cons.1 ((h b).2 List.mem_cons_self) with e | hb
        · exact e.symm
        · exact absurd (hl1.1 b hb) (lt3_asymm (hm1.1 a ha))
    subst e
    rw [srt_ext hl1.2 hm1.2 (fun z => ⟨fun hz => ?_, fun hz => ?_⟩)]
    · rcases List.mem_cons.1 ((h z).1 (List.mem_cons_of_mem _ hz)) with rfl | h1
      · exact absurd (hl1.1 _ hz) (lt3_irrefl _)
      · exact h1
    · rcases List.mem_cons.1 ((h z).2 (List.mem_cons_of_mem _ hz)) with rfl | h1
      · exact absurd (hm1.1 _ hz) (lt3_irrefl _)
      · exact h1
theorem mem_insL (p z : Pc) : ∀ (l : List Pc) (b : Bool), z ∈ insL p b l ↔ (b = false ∧ z = p) ∨ (z ∈ l ∧ ¬ key p z)
  | [], b => by cases b <;> simp [insL]
  | x :: r, b => by
    simp only [insL, List.mem_append, mem_insL p z r]
    have hx : z ∈ (if key p x then ([] : List Pc) else [x]) ↔ z = x ∧ ¬ key p z := by
      by_cases h : key p x
      · rw [if_pos h]
        exact ⟨fun hz => (by cases hz), fun hz => absurd (hz.1 ▸ h) hz.2⟩
      · rw [if_neg h, List.mem_singleton]
        exact ⟨fun hz => ⟨hz, hz ▸ h⟩, fun hz => hz.1⟩
    rw [hx, List.mem_cons]
    by_cases hl : lt3 x p <;> cases b <;> simp [hl] <;> grind
theorem getL_skip (d b e : Int) (p : Pc) (hp : ¬ hit d b e p) : ∀ (l : List Pc) (put : Bool) (acc : Int), getL d b e acc (insL p put l) = getL d b e acc l
  | [], put, acc => by cases put <;> simp [insL, getL, hp]
  | x :: r, put, acc => by
    have ih := getL_skip d b e p hp r
    have hk : key p x → ¬ hit d b e x := fun h h2 => hp (by unfold key hit at *; omega)
    have app : ∀ (a : Int) (m n : List Pc), getL d b e a (m ++ n) = getL d b e (getL d b e a m) n := by
      intro a m
      induction m generalizing a with
      | nil => intro n; rfl
      | cons y m ihm => intro n; simp only [List.cons_append, getL]; exact ihm _ n
    simp only [insL, app, getL]
    have h1 : ∀ c : Bool, getL d b e acc (if c then [p] else []) = acc := fun c => by cases c <;> simp [getL, hp]
    rw [show getL d b e acc (if (!put && !decide (lt3 x p)) = true then [p] else []) = acc from h1 _, ih]
    by_cases h : key p x
    · rw [if_pos h, if_neg (hk h)]
      rfl
    · rw [if_neg h]
      simp only [getL]
theorem getL_none (d b e : Int) : ∀ (l : List Pc) (acc : Int), (∀ x ∈ l, ¬ hit d b e x) → getL d b e acc l = acc
  | [], _, _ => rfl
  | x :: r, acc, h => by
    simp only [getL]
    rw [if_neg (h x List.mem_cons_self)]
    exact getL_none d b e r acc (fun y hy => h y (List.mem_cons_of_mem _ hy))
theorem getL_mem : ∀ (l : List Pc) (acc : Int) (p : Pc), Srt l → p ∈ l → getL p.f0 p.f1 p.f2 acc l = p.f3
  | [], _, _, _, h => by cases h
  | x :: r, acc, p, hs, h => by
    have hs1 := List.pairwise_cons.1 hs
    simp only [getL]
    rcases List.mem_cons.1 h with rfl | h
    · rw [if_pos (by unfold hit; omega), getL_none _ _ _ _ _ (fun y hy => by have := hs1.1 y hy; unfold lt3 at this; unfold hit; omega)]
    · exact getL_mem r _ p hs1.2 h
theorem insL_keep (p : Pc) : ∀ r : List Pc, (∀ y ∈ r, ¬ key p y) → insL p true r = r
  | [], _ => rfl
  | x :: r, h => by
    simp only [insL, Bool.not_true, Bool.false_and, Bool.or_false, Bool.false_eq_true, if_false, List.nil_append]
    rw [if_neg (h x List.mem_cons_self), insL_keep p r (fun y hy => h y (List.mem_cons_of_mem _ hy))]
    rfl
theorem insL_again (p : Pc) : ∀ M : List Pc, Srt M → p ∈ M → insL p false M = M
  | [], _, h => by cases h
  | x :: r, hs, h => by
    have hs1 := List.pairwise_cons.1 hs
    by_cases hx : lt3 x p
    · have hr : p ∈ r := by
        rcases List.mem_cons.1 h with rfl | h
        · exact absurd hx (lt3_irrefl _)
        · exact h
      simp only [insL, hx, decide_true, Bool.not_true, Bool.and_false, Bool.or_false, Bool.false_eq_true, if_false, List.nil_append]
      rw [if_neg (fun hk : key p x => not_key_of_lt hx (by unfold key at *; omega)), insL_again p r hs1.2 hr]
      rfl
    · have e : p = x := by
        rcases List.mem_cons.1 h with e | h
        · exact e
        · exact absurd (hs1.1 p h) hx
      subst e
      simp only [insL, hx, decide_false, Bool.not_false, Bool.and_self, Bool.or_true, if_true]
      rw [if_pos (show key p p from ⟨rfl, rfl, rfl⟩), insL_keep p r (fun y hy => not_key_of_lt (hs1.1 y hy))]
      rfl
theorem put_true {l : List Pc} {p : Pc} (h : (putB l p).2 = true) : BOk l ∧ BOk (insL p false l) ∧ putB l p = (insL p false l, true) := by
  unfold putB at h ⊢
  by_cases h1 : bok l = true
  · by_cases h2 : bok (insL p false l) = true
    · exact ⟨(bok_iff _).1 h1, (bok_iff _).1 h2, by simp [h1, h2]⟩
    · simp [h1, h2] at h
  · simp [h1] at h
theorem put_twice {l : List Pc} {p : Pc} (h : (putB l p).2 = true) : putB (putB l p).1 p = putB l p := by
  obtain ⟨h1, h2, h3⟩ := put_true h
  have e : insL p false (insL p false l) = insL p false l := insL_again p _ h2.srt ((mem_insL p p l false).2 (.inl ⟨rfl, rfl⟩))
  rw [h3]
  unfold putB
  simp [(bok_iff _).2 h2, e]
theorem put_swap {l : List Pc} {p q : Pc} (hk : ¬ key p q) (a : (putB l p).2 = true) (b : (putB (putB l p).1 q).2 = true) (c : (putB l q).2 = true) (d : (putB (putB l q).1 p).2 = true) :
    (putB (putB l p).1 q).1 = (putB (putB l q).1 p).1 := by
  obtain ⟨_, _, a3⟩ := put_true a
  obtain ⟨_, b2, b3⟩ := put_true b
  obtain ⟨_, _, c3⟩ := put_true c
  obtain ⟨_, d2, d3⟩ := put_true d
  rw [b3, d3]
  rw [a3] at b2 ⊢
  rw [c3] at d2 ⊢
  refine srt_ext b2.srt d2.srt (fun z => ?_)
  simp only [mem_insL]
  have h1 : z = p → ¬ key q z := fun e h => hk (by subst e; unfold key at *; omega)
  have h2 : z = q → ¬ key p z := fun e h => hk (by subst e; exact h)
  grind
theorem put_reads {l : List Pc} {p : Pc} (h : (putB l p).2 = true) : getB (putB l p).1 p.f0 p.f1 p.f2 = p.f3 := by
  obtain ⟨_, h2, h3⟩ := put_true h
  rw [h3]
  unfold getB
  rw [if_pos ((bok_iff _).2 h2)]
  exact getL_mem _ _ p h2.srt ((mem_insL p p l false).2 (.inl ⟨rfl, rfl⟩))
theorem put_others {l : List Pc} {p : Pc} (h : (putB l p).2 = true) (d b e : Int) (hn : ¬ hit d b e p) : getB (putB l p).1 d b e = getB l d b e := by
  obtain ⟨h1, h2, h3⟩ := put_true h
  rw [h3]
  unfold getB
  rw [if_pos ((bok_iff _).2 h2), if_pos ((bok_iff _).2 h1)]
  exact getL_skip d b e p hn l false 0
theorem drop_ok {l : List Pc} (d : Int) (h : BOk l) : BOk (dropL d l) :=
  BOk.of (Nat.le_trans (dropL_le d l) h.1) (List.Pairwise.filter _ h.srt) (fun x hx => h.goods x (List.mem_filter.1 hx).1)
theorem drop_reads {l : List Pc} {d : Int} {p : Pc} (h : BOk l) (hp : p ∈ l) : getB (dropL d l) p.f0 p.f1 p.f2 = if p.f0 = d then 0 else p.f3 := by
  have hd := drop_ok d h
  unfold getB
  rw [if_pos ((bok_iff _).2 hd)]
  by_cases e : p.f0 = d
  · rw [if_pos e]
    refine getL_none _ _ _ _ _ (fun x hx hh => ?_)
    have := (List.mem_filter.1 hx).2
    unfold hit at hh
    simp at this
    omega
  · rw [if_neg e]
    exact getL_mem _ _ p hd.srt (List.mem_filter.2 ⟨hp, by simpa using e⟩)
end Go.Proofs.YtdcdaclmicmiaaaX
