/-
  What SecPut comes to in plain lists, for the reference.
  Conditions: lists of at most two millions of elements.
-/
import Derived.Test.YthjocaegapchaaaXSec
import Derived.Test.YthjocaegapchaaaPx7
namespace Go.Proofs.YthjocaegapchaaaX
open Go.RowKit Go.Proofs.Ythjocaegapchaaa.P Go.Proofs.YthjocaegapchaaaW.PrintWords Go.Proofs.YthjocaegapchaaaW.PrintLast Go.Proofs.YthjocaegapchaaaW.PrintMore
set_option linter.unusedVariables false
set_option linter.unusedSimpArgs false

noncomputable def sputB (K : List ByteArray) (W : List Sw) (a : Int) (s : ByteArray) : List ByteArray × List Sw × Bool :=
  if sok K W = true then (if sok K (W ++ [⟨a, s⟩]) = true then (K, W ++ [⟨a, s⟩], true) else (K, W, false)) else ([], [], false)
theorem sok_append (K : List ByteArray) (W : List Sw) (x : Sw) (h : sok K W = true) : sok K (W ++ [x]) = true ↔ W.length < 600 ∧ goodW K.length x := by
  have h := (sok_iff K W).1 h
  rw [sok_iff]
  unfold SOk at *
  simp only [List.length_append, List.length_cons, List.length_nil, List.mem_append, List.mem_singleton]
  exact ⟨fun h1 => ⟨by omega, h1.2.2 x (.inr rfl)⟩, fun h1 => ⟨⟨h.1.1, by omega⟩, h.2.1, fun y hy => by
    rcases hy with hy | rfl
    · exact h.2.2 y hy
    · exact h1.2⟩⟩
theorem spec_sput (K : List ByteArray) (W : List Sw) (hK : K.length ≤ 1048577) (hW : W.length ≤ 1048577) (a : Int) (s : ByteArray) : T (fun k => spec_SecPut.f k K W a s) (· = sputB K W a s) := by
  have cp : spec_l1Copy.f K W = some (K, W) := by
    simp only [spec_l1Copy.f, Option.bind_some, List.length_nil, List.nil_append]
    rw [if_pos (by omega), if_pos (by omega)]
  simp only [spec_SecPut.f]
  refine T.bind_eq (spec_sok K W) ?_
  unfold sputB
  refine T.ite (fun h => ?_) (fun h => by rw [if_neg h]; exact T.ret rfl)
  rw [if_pos h]
  have bad : ¬ (sok K (W ++ [⟨a, s⟩]) = true) → T (fun k => spec_SecPut.j1 k a s true K W) (· = if sok K (W ++ [⟨a, s⟩]) = true then (K, W ++ [⟨a, s⟩], true) else (K, W, false)) := fun h2 => by
    refine T.succ ?_
    simp only [spec_SecPut.j1, if_true]
    exact T.ret (by rw [if_neg h2])
  refine T.succ ?_
  simp only [spec_SecPut.j0, cp, Option.bind_some]
  obtain ⟨r, hr, hr2⟩ := writeOk_f K.length (by omega) a s
  simp only [hr, Option.bind_some]
  refine T.ite (fun h2 => ?_) (fun h2 => bad (fun h3 => h2 (hr2.2 ((sok_append K W _ h).1 h3).2)))
  by_cases h4 : W.length < 600
  · rw [decide_eq_false (by omega)]
    refine T.succ ?_
    simp only [spec_SecPut.j1]
    refine T.neg (by simp) (T.pos (by omega) (T.ret ?_))
    rw [if_pos ((sok_append K W _ h).2 ⟨h4, hr2.1 h2⟩)]
  · rw [decide_eq_true (by omega)]
    exact bad (fun h3 => h4 ((sok_append K W _ h).1 h3).1)
end Go.Proofs.YthjocaegapchaaaX
