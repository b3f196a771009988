/-
  Rounds over lists, told once: all elements are right; each element anew; sizes.
  Conditions: none.
-/
import Derived.Test.YtncohokalilnbaaXPure
namespace Go.Proofs.YtncohokalilnbaaX
open Go.RowKit Go.Proofs.YtncohokalilnbaaW.PrintWords Go.Proofs.YtncohokalilnbaaW.PrintLast Go.Proofs.YtncohokalilnbaaW.PrintMore
set_option linter.unusedVariables false
set_option linter.unusedSimpArgs false

theorem getD_at {α : Type} (l : List α) (i : Nat) (h : i < l.length) (d : α) : l.getD i d = l[i] := by
  rw [List.getD_eq_getElem?_getD, List.getElem?_eq_getElem h]
  rfl
theorem allS {α : Type} {g : Nat → Int → Option Bool} {one : Nat → α → Option Bool} {rest : Nat → Option Bool} {F : α → Bool} {R : Bool} (l : List α) (d : α)
    (hg : ∀ k (i : Nat), i < l.length → g (k + 1) (i : Int) = (one k (l.getD i d)).bind fun t => if t = true then g k ((i + 1 : Nat) : Int) else some false)
    (he : ∀ k, g (k + 1) (l.length : Int) = rest k) (h1 : ∀ x ∈ l, T (fun k => one k x) (· = F x)) (hr : T rest (· = R)) : T (fun k => g k 0) (· = (l.all F && R)) := by
  have aux : ∀ (n i : Nat), l.length - i = n → i ≤ l.length → T (fun k => g k (i : Int)) (· = ((l.drop i).all F && R)) := by
    intro n
    induction n with
    | zero =>
      intro i hn hi
      obtain rfl : i = l.length := by omega
      refine T.succ (T.congr hr he |>.mono fun r e => ?_)
      rw [e, List.drop_length]
      rfl
    | succ n ih =>
      intro i hn hi
      have hlt : i < l.length := by omega
      refine T.succ (T.congr ?_ (fun k => hg k i hlt))
      rw [getD_at l i hlt, List.drop_eq_getElem_cons hlt, List.all_cons]
      refine T.bind_eq (h1 l[i] (List.getElem_mem hlt)) ?_
      refine T.ite (fun h => ?_) (fun h => T.ret (by rw [Bool.eq_false_iff.2 h]; rfl))
      rw [h, Bool.true_and]
      exact ih (i + 1) (by omega) (by omega)
  exact aux l.length 0 rfl (Nat.zero_le _)
theorem mapS {α β : Type} {g : Nat → List β → Int → Option (List β)} {one : Nat → α → Option β} {F : α → β} (l : List α) (d : α)
    (hg : ∀ k (y : List β) (i : Nat), i < l.length → y.length = l.length → g (k + 1) y (i : Int) = (one k (l.getD i d)).bind fun b => g k (y.set i b) ((i + 1 : Nat) : Int))
    (he : ∀ k y, g (k + 1) y (l.length : Int) = some y) (h1 : ∀ x ∈ l, T (fun k => one k x) (· = F x)) (y : List β) (hy : y.length = l.length) : T (fun k => g k y 0) (· = l.map F) := by
  have aux : ∀ (n i : Nat) (y : List β), l.length - i = n → i ≤ l.length → y.length = l.length → y.take i = (l.take i).map F → T (fun k => g k y (i : Int)) (· = l.map F) := by
    intro n
    induction n with
    | zero =>
      intro i y hn hi hy ht
      obtain rfl : i = l.length := by omega
      refine T.succ (T.congr (T.ret ?_) (fun k => he k y))
      rwa [List.take_of_length_le (by omega), List.take_of_length_le (by omega)] at ht
    | succ n ih =>
      intro i y hn hi hy ht
      have hlt : i < l.length := by omega
      refine T.succ (T.congr ?_ (fun k => hg k y i hlt hy))
      rw [getD_at l i hlt]
      refine T.bind_eq (h1 l[i] (List.getElem_mem hlt)) ?_
      exact ih (i + 1) _ (by omega) (by omega) (by rw [List.length_set]; exact hy) (by
        rw [take_set_succ _ _ _ (by omega), ht, List.take_succ_eq_append_getElem hlt, List.map_append]
        rfl)
  exact aux l.length 0 y rfl (Nat.zero_le _) hy rfl
theorem szS {α : Type} {g : Nat → Int → Int → Option Int} {one : Nat → α → Int → Option Int} {B : α → Prop} (l : List α) (d : α)
    (hg : ∀ k a (i : Nat), i < l.length → g (k + 1) a (i : Int) = (one k (l.getD i d) a).bind fun t => if t < 0 then some (-1) else g k t ((i + 1 : Nat) : Int))
    (he : ∀ k a, g (k + 1) a (l.length : Int) = some a) (h1 : ∀ x ∈ l, ∀ a, 0 ≤ a → a ≤ 1048576 → T (fun k => one k x a) (fun r => r < 0 ∨ (0 ≤ r ∧ r ≤ a ∧ B x)))
    (a : Int) (h0 : 0 ≤ a) (ha : a ≤ 1048576) : T (fun k => g k a 0) (fun r => r < 0 ∨ (0 ≤ r ∧ r ≤ a ∧ ∀ x ∈ l, B x)) := by
  have aux : ∀ (n i : Nat) (a : Int), l.length - i = n → i ≤ l.length → 0 ≤ a → a ≤ 1048576 → T (fun k => g k a (i : Int)) (fun r => r < 0 ∨ (0 ≤ r ∧ r ≤ a ∧ ∀ x ∈ l.drop i, B x)) := by
    intro n
    induction n with
    | zero =>
      intro i a hn hi h0 ha
      obtain rfl : i = l.length := by omega
      refine T.succ (T.congr (T.ret (.inr ⟨h0, Int.le_refl _, ?_⟩)) (fun k => he k a))
      rw [List.drop_length]
      intro x hx
      cases hx
    | succ n ih =>
      intro i a hn hi h0 ha
      have hlt : i < l.length := by omega
      refine T.succ (T.congr ?_ (fun k => hg k a i hlt))
      rw [getD_at l i hlt]
      refine T.bind (h1 l[i] (List.getElem_mem hlt) a h0 ha) (fun r hr => ?_)
      refine T.ite (fun h => T.ret (.inl (by omega))) (fun h => ?_)
      obtain hr | ⟨hr0, hr1, hB⟩ := hr
      · exact absurd hr h
      refine (ih (i + 1) r (by omega) (by omega) hr0 (by omega)).mono (fun q hq => ?_)
      obtain hq | ⟨hq0, hq1, hq2⟩ := hq
      · exact .inl hq
      refine .inr ⟨hq0, by omega, ?_⟩
      rw [List.drop_eq_getElem_cons hlt]
      intro x hx
      obtain rfl | hx := List.mem_cons.1 hx
      · exact hB
      · exact hq2 x hx
  have := aux l.length 0 a rfl (Nat.zero_le _) h0 ha
  exact this
/-- A list's length, taken off what is left. -/
theorem sz1 {a : Int} {n : Nat} (h0 : 0 ≤ a) (ha : a ≤ 1048576) (hn : n ≤ 9223372036854775807) : ∃ r, (if wrap64 (a - (n : Int)) < 0 then some (-1) else some (wrap64 (a - (n : Int)))) = some r ∧ (r < 0 ∨ (0 ≤ r ∧ r ≤ a ∧ n ≤ 1048576)) := by
  rw [wrap64_id (x := a - (n : Int)) (by omega) (by omega)]
  by_cases h : a - (n : Int) < 0
  · rw [if_pos h]; exact ⟨-1, rfl, .inl (by omega)⟩
  · rw [if_neg h]; exact ⟨_, rfl, .inr (by omega)⟩
end Go.Proofs.YtncohokalilnbaaX
