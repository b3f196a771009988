/-
  The texts by which the exact laws mark memory: that each is told, and what it is to compare texts.
  Conditions: numbers within Go's.
-/
import Derived.Test.YthjocaegapchaaaXPure
import Derived.Test.YthjocaegapchaaaPx10
namespace Go.Proofs.YthjocaegapchaaaX
open Go.RowKit Go.Proofs.Ythjocaegapchaaa.P Go.Proofs.YthjocaegapchaaaW.PrintWords Go.Proofs.YthjocaegapchaaaW.PrintLast Go.Proofs.YthjocaegapchaaaW.PrintMore
set_option linter.unusedVariables false
set_option linter.unusedSimpArgs false

theorem bytes_eq (a b : ByteArray) : a.toList = b.toList ↔ a = b := by
  constructor
  · intro h
    rw [ByteArray.toList_eq, ByteArray.toList_eq] at h
    exact ByteArray.ext (Array.toList_inj.1 h)
  · intro h; rw [h]
theorem rdTx (l : List ByteArray) (i : Nat) (h : i < l.length) : rdOf ByteArray.empty l (i : Int) = l[i] := getD_nat l i h _
theorem strOfNums_size (l : List Int) : (strOfNums l).size = l.length := by
  simp [strOfNums, ByteArray.size]
theorem markText_loop : ∀ (d : Nat) (x : Int) (s : ByteArray), 0 ≤ x → x < (10 : Int) ^ d → x ≤ 9223372036854775807 → s.size + d ≤ 100 → T (fun k => laws_markText.l0 k x s) (fun _ => True) := by
  intro d
  induction d with
  | zero =>
    intro x s h0 h1 h2 hs
    refine T.succ ?_
    simp only [laws_markText.l0]
    refine T.neg (by simp at h1; omega) (T.pos (by omega) (T.ret trivial))
  | succ d ih =>
    intro x s h0 h1 h2 hs
    refine T.succ ?_
    simp only [laws_markText.l0]
    refine T.ite (fun h => ?_) (fun h => T.pos (by omega) (T.ret trivial))
    simp only [Option.bind_some]
    refine T.pos (by rw [strOfNums_size]; simp only [List.length_cons, List.length_nil]; omega) ?_
    have e : Int.tdiv x 10 = x / 10 := Int.tdiv_eq_ediv_of_nonneg h0
    have hq : x / 10 < (10 : Int) ^ d := by
      rw [Int.pow_succ] at h1
      omega
    rw [e, wrap64_id (by omega) (by omega)]
    exact ih (x / 10) _ (by omega) hq (by omega) (by rw [ByteArray.size_append, strOfNums_size]; simp only [List.length_cons, List.length_nil]; omega)
theorem markText_ex (x : Int) (h : x ≤ 9223372036854775807) : ∃ s, T (fun k => laws_markText.f k x) (· = s) := by
  have : T (fun k => laws_markText.f k x) (fun _ => True) := by
    simp only [laws_markText.f]
    refine T.ite (fun h => T.ret trivial) (fun h => ?_)
    exact markText_loop 19 x _ (by omega) (by omega) (by omega) (by simp [ByteArray.size])
  obtain ⟨r, _, h⟩ := this.ex
  exact ⟨r, h⟩
open Classical in
noncomputable def mt (x : Int) : ByteArray := if h : ∃ s, T (fun k => laws_markText.f k x) (· = s) then h.choose else ⟨#[]⟩
theorem mt_T (x : Int) (h : x ≤ 9223372036854775807) : T (fun k => laws_markText.f k x) (· = mt x) := by
  have h := markText_ex x h
  unfold mt
  rw [dif_pos h]
  exact h.choose_spec
end Go.Proofs.YthjocaegapchaaaX
