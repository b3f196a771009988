/-
  The bytes of a word, for the program and the reference alike.
  Conditions: a word that is right.
-/
import Derived.Test.YtoieojmfkkidnaaXWord
import Derived.Test.YtoieojmfkkidnaaPx25
namespace Go.Proofs.YtoieojmfkkidnaaX
open Go.RowKit Go.Proofs.Ytoieojmfkkidnaa.P Go.Proofs.YtoieojmfkkidnaaW.PrintWords Go.Proofs.YtoieojmfkkidnaaW.PrintLast Go.Proofs.YtoieojmfkkidnaaW.PrintMore
set_option linter.unusedVariables false
set_option linter.unusedSimpArgs false

/-- A number's bytes. -/
def encI (m : Int) : List Int :=
  if m > 127 then (if Int.tdiv m 128 > 127 then [(128 + Int.tmod m 128) % 256, (128 + Int.tmod (Int.tdiv m 128) 128) % 256, Int.tdiv (Int.tdiv m 128) 128 % 256] else [(128 + Int.tmod m 128) % 256, Int.tdiv m 128 % 256]) else [m % 256]
theorem encI_len (m : Int) : (encI m).length ≤ 3 := by
  unfold encI
  split
  · split <;> simp
  · simp
def encL : List Int → List Int
  | [] => []
  | n :: r => encI (n + 1) ++ encL r
theorem encL_len : ∀ l : List Int, (encL l).length ≤ 3 * l.length
  | [] => by simp [encL]
  | n :: r => by
    have h1 := encL_len r
    have h2 := encI_len (n + 1)
    simp only [encL, List.length_append, List.length_cons]
    omega
theorem tdm (m : Int) (h0 : 0 ≤ m) (h1 : m ≤ 100000) : 0 ≤ Int.tmod m 128 ∧ Int.tmod m 128 ≤ 127 ∧ 0 ≤ Int.tdiv m 128 ∧ Int.tdiv m 128 ≤ 781 := by
  rw [Int.tmod_eq_emod_of_nonneg h0, Int.tdiv_eq_ediv_of_nonneg h0]
  omega
theorem tdd (m : Int) (h0 : 0 ≤ m) (h1 : m ≤ 781) : 0 ≤ Int.tmod m 128 ∧ Int.tmod m 128 ≤ 127 ∧ 0 ≤ Int.tdiv m 128 ∧ Int.tdiv m 128 ≤ 6 := by
  rw [Int.tmod_eq_emod_of_nonneg h0, Int.tdiv_eq_ediv_of_nonneg h0]
  omega
theorem spec_enc (N A : List Int) (i m : Int) (h0 : 0 ≤ m) (h1 : m ≤ 100000) (hA : A.length ≤ 1000000) {Q : List Int → Prop} (hn : T (fun k => spec_l11Byte.l0 k N (A ++ encI m) (wrap64 (i + 1))) Q) : T (fun k => spec_l11Byte.l1 k N A i m) Q := by
  obtain ⟨t1, t2, t3, t4⟩ := tdm m h0 h1
  obtain ⟨u1, u2, u3, u4⟩ := tdd (Int.tdiv m 128) t3 t4
  unfold encI at hn
  refine T.succ ?_
  simp only [spec_l11Byte.l1]
  refine T.ite (fun h => ?_) (fun h => ?_)
  · rw [if_pos h] at hn
    refine T.pos (by omega) ?_
    rw [wrap64_id (x := 128 + Int.tmod m 128) (by omega) (by omega), wrap64_id (x := Int.tdiv m 128) (by omega) (by omega)]
    refine T.succ ?_
    simp only [spec_l11Byte.l1]
    refine T.ite (fun h2 => ?_) (fun h2 => ?_)
    · rw [if_pos h2] at hn
      refine T.pos (by simp only [List.length_append, List.length_cons, List.length_nil]; omega) ?_
      rw [wrap64_id (x := 128 + Int.tmod (Int.tdiv m 128) 128) (by omega) (by omega), wrap64_id (x := Int.tdiv (Int.tdiv m 128) 128) (by omega) (by omega)]
      refine T.succ ?_
      simp only [spec_l11Byte.l1]
      refine T.neg (by omega) (T.pos (by simp only [List.length_append, List.length_cons, List.length_nil]; omega) ?_)
      simpa [List.append_assoc] using hn
    · rw [if_neg h2] at hn
      refine T.pos (by simp only [List.length_append, List.length_cons, List.length_nil]; omega) ?_
      simpa [List.append_assoc] using hn
  · rw [if_neg h] at hn
    exact T.pos (by omega) hn
theorem impl_enc (N A : List Int) (n i m : Int) (h0 : 0 ≤ m) (h1 : m ≤ 100000) (hA : A.length ≤ 1000000) {Q : List Int → Prop} (hn : T (fun k => impl_bytesOf.l0 k (A ++ encI m) N n (wrap64 (i + 1))) Q) : T (fun k => impl_bytesOf.l1 k A m N n i) Q := by
  obtain ⟨t1, t2, t3, t4⟩ := tdm m h0 h1
  obtain ⟨u1, u2, u3, u4⟩ := tdd (Int.tdiv m 128) t3 t4
  unfold encI at hn
  refine T.succ ?_
  simp only [impl_bytesOf.l1]
  refine T.ite (fun h => ?_) (fun h => ?_)
  · rw [if_pos h] at hn
    refine T.pos (by omega) ?_
    rw [Int.add_comm (Int.tmod m 128) 128, wrap64_id (x := 128 + Int.tmod m 128) (by omega) (by omega), wrap64_id (x := Int.tdiv m 128) (by omega) (by omega)]
    refine T.succ ?_
    simp only [impl_bytesOf.l1]
    refine T.ite (fun h2 => ?_) (fun h2 => ?_)
    · rw [if_pos h2] at hn
      refine T.pos (by simp only [List.length_append, List.length_cons, List.length_nil]; omega) ?_
      rw [Int.add_comm (Int.tmod (Int.tdiv m 128) 128) 128, wrap64_id (x := 128 + Int.tmod (Int.tdiv m 128) 128) (by omega) (by omega), wrap64_id (x := Int.tdiv (Int.tdiv m 128) 128) (by omega) (by omega)]
      refine T.succ ?_
      simp only [impl_bytesOf.l1]
      refine T.neg (by omega) (T.pos (by simp only [List.length_append, List.length_cons, List.length_nil]; omega) ?_)
      simpa [List.append_assoc] using hn
    · rw [if_neg h2] at hn
      refine T.pos (by simp only [List.length_append, List.length_cons, List.length_nil]; omega) ?_
      simpa [List.append_assoc] using hn
  · rw [if_neg h] at hn
    exact T.pos (by omega) hn
theorem spec_bytes (N : List Int) (hN : N.length ≤ 1000) (hg : ∀ x ∈ N, -1 ≤ x ∧ x ≤ 99999) : T (fun k => spec_l11Byte.f k N) (· = encL N) := by
  have key : ∀ (d i : Nat) (A : List Int), A.length ≤ 3 * i → N.length - i = d → i ≤ N.length → T (fun k => spec_l11Byte.l0 k N A (i : Int)) (· = A ++ encL (N.drop i)) := by
    intro d
    induction d with
    | zero =>
      intro i A hA hd hi
      refine T.succ ?_
      simp only [spec_l11Byte.l0]
      refine T.neg (by omega) (T.ret ?_)
      rw [List.drop_of_length_le (by omega)]
      simp [encL]
    | succ d ih =>
      intro i A hA hd hi
      have hlt : i < N.length := by omega
      have h1 := hg _ (List.getElem_mem hlt)
      refine T.succ ?_
      simp only [spec_l11Byte.l0, rdNum N i hlt]
      refine T.pos (by omega) (T.pos (by omega) ?_)
      rw [wrap64_id (x := N[i] + 1) (by omega) (by omega)]
      refine spec_enc N A _ _ (by omega) (by omega) (by omega) ?_
      rw [wrap_succ hlt (by omega), List.drop_eq_getElem_cons hlt]
      have hl := encI_len (N[i] + 1)
      have := ih (i + 1) (A ++ encI (N[i] + 1)) (by rw [List.length_append]; omega) (by omega) (by omega)
      simpa [encL, List.append_assoc] using this
  simp only [spec_l11Byte.f]
  simpa using key _ 0 [] (by simp) rfl (Nat.zero_le _)
theorem impl_bytes (N : List Int) (hN : N.length ≤ 1000) (hg : ∀ x ∈ N, -1 ≤ x ∧ x ≤ 99999) : T (fun k => impl_bytesOf.f k N) (· = encL N) := by
  have key : ∀ (d i : Nat) (A : List Int), A.length ≤ 3 * i → N.length - i = d → i ≤ N.length → T (fun k => impl_bytesOf.l0 k A N (N.length : Int) (i : Int)) (· = A ++ encL (N.drop i)) := by
    intro d
    induction d with
    | zero =>
      intro i A hA hd hi
      refine T.succ ?_
      simp only [impl_bytesOf.l0]
      refine T.neg (by omega) (T.ret ?_)
      rw [List.drop_of_length_le (by omega)]
      simp [encL]
    | succ d ih =>
      intro i A hA hd hi
      have hlt : i < N.length := by omega
      have h1 := hg _ (List.getElem_mem hlt)
      refine T.succ ?_
      simp only [impl_bytesOf.l0, rdNum N i hlt]
      refine T.pos (by omega) (T.pos (by omega) (T.pos (by omega) ?_))
      rw [wrap64_id (x := N[i] + 1) (by omega) (by omega)]
      refine impl_enc N A _ _ _ (by omega) (by omega) (by omega) ?_
      rw [wrap_succ hlt (by omega), List.drop_eq_getElem_cons hlt]
      have hl := encI_len (N[i] + 1)
      have := ih (i + 1) (A ++ encI (N[i] + 1)) (by rw [List.length_append]; omega) (by omega) (by omega)
      simpa [encL, List.append_assoc] using this
  simp only [impl_bytesOf.f]
  simpa using key _ 0 [] (by simp) rfl (Nat.zero_le _)
theorem all_numbers (a0 a1 a2 a3 a4 a5 a6 a7 a8 a9 a10 a11 a12 a13 a14 a15 a16 a17 a18 a19 a20 a21 a22 a23 : Int) (P : List Pc) (L : List La) (hP : P.length ≤ 1048576) (hL : L.length ≤ 1048576) : T (fun k => spec_l11All.f k a0 a1 a2 a3 a4 a5 a6 a7 a8 a9 a10 a11 a12 a13 a14 a15 a16 a17 a18 a19 a20 a21 a22 a23 P L) (· = allN a0 a1 a2 a3 a4 a5 a6 a7 a8 a9 a10 a11 a12 a13 a14 a15 a16 a17 a18 a19 a20 a21 a22 a23 P L) := by
  have k1 : ∀ (d i : Nat) (B : List Int), B.length ≤ 5000000 + 2 * i → L.length - i = d → i ≤ L.length → T (fun k => spec_l11All.l1 k B (i : Int) a0 a1 a2 a3 a4 a5 a6 a7 a8 a9 a10 a11 a12 a13 a14 a15 a16 a17 a18 a19 a20 a21 a22 a23 P L) (· = B ++ ln (L.drop i)) := by
    intro d
    induction d with
    | zero =>
      intro i B hB hd hi
      refine T.succ ?_
      simp only [spec_l11All.l1]
      refine T.neg (by omega) (T.ret ?_)
      rw [List.drop_of_length_le (by omega)]
      simp [ln]
    | succ d ih =>
      intro i B hB hd hi
      have hlt : i < L.length := by omega
      refine T.succ ?_
      simp only [spec_l11All.l1, Option.bind_some, rdLa L i hlt, wrap_succ hlt (show L.length ≤ 4611686018427387904 by omega)]
      refine T.pos (by omega) (T.pos (by omega) (T.pos (by simp only [List.length_cons, List.length_nil]; omega) ?_))
      rw [List.drop_eq_getElem_cons hlt]
      have := ih (i + 1) (B ++ [L[i].f0, L[i].f1]) (by simp only [List.length_append, List.length_cons, List.length_nil]; omega) (by omega) (by omega)
      simpa [ln, List.append_assoc] using this
  have k0 : ∀ (d i : Nat) (B : List Int), B.length ≤ 100 + 4 * i → P.length - i = d → i ≤ P.length → T (fun k => spec_l11All.l0 k B (i : Int) a0 a1 a2 a3 a4 a5 a6 a7 a8 a9 a10 a11 a12 a13 a14 a15 a16 a17 a18 a19 a20 a21 a22 a23 P L) (· = B ++ pn (P.drop i) ++ ((L.length : Int) :: ln L)) := by
    intro d
    induction d with
    | zero =>
      intro i B hB hd hi
      refine T.succ ?_
      simp only [spec_l11All.l0, Option.bind_some]
      refine T.neg (by omega) (T.pos (by simp only [List.length_cons, List.length_nil]; omega) ?_)
      rw [List.drop_of_length_le (by omega)]
      have := k1 _ 0 (B ++ [(L.length : Int)]) (by simp only [List.length_append, List.length_cons, List.length_nil]; omega) rfl (Nat.zero_le _)
      simpa [pn, List.append_assoc] using this
    | succ d ih =>
      intro i B hB hd hi
      have hlt : i < P.length := by omega
      refine T.succ ?_
      simp only [spec_l11All.l0, Option.bind_some, rdP P i hlt, wrap_succ hlt (show P.length ≤ 4611686018427387904 by omega)]
      refine T.pos (by omega) (T.pos (by omega) (T.pos (by simp only [List.length_cons, List.length_nil]; omega) ?_))
      rw [List.drop_eq_getElem_cons hlt]
      have := ih (i + 1) (B ++ [P[i].f0, P[i].f1, P[i].f2, P[i].f3]) (by simp only [List.length_append, List.length_cons, List.length_nil]; omega) (by omega) (by omega)
      simpa [pn, List.append_assoc] using this
  simp only [spec_l11All.f, spec_l11Nums.f, Option.bind_some]
  refine T.pos (by simp only [List.length_cons, List.length_nil]; omega) ?_
  have := k0 _ 0 (n24 a0 a1 a2 a3 a4 a5 a6 a7 a8 a9 a10 a11 a12 a13 a14 a15 a16 a17 a18 a19 a20 a21 a22 a23 ++ [(P.length : Int)]) (by simp [n24]) rfl (Nat.zero_le _)
  simpa [allN, n24, List.append_assoc] using this
noncomputable def packB (a0 a1 a2 a3 a4 a5 a6 a7 a8 a9 a10 a11 a12 a13 a14 a15 a16 a17 a18 a19 a20 a21 a22 a23 : Int) (P : List Pc) (L : List La) : List Int := if wordB a0 a1 a2 a3 a4 a5 a6 a7 a8 a9 a10 a11 a12 a13 a14 a15 a16 a17 a18 a19 a20 a21 a22 a23 P L = true then encL (allN a0 a1 a2 a3 a4 a5 a6 a7 a8 a9 a10 a11 a12 a13 a14 a15 a16 a17 a18 a19 a20 a21 a22 a23 P L) else []
theorem wordB_good {a0 a1 a2 a3 a4 a5 a6 a7 a8 a9 a10 a11 a12 a13 a14 a15 a16 a17 a18 a19 a20 a21 a22 a23 : Int} {P : List Pc} {L : List La} (h : wordB a0 a1 a2 a3 a4 a5 a6 a7 a8 a9 a10 a11 a12 a13 a14 a15 a16 a17 a18 a19 a20 a21 a22 a23 P L = true) : P.length ≤ 60 ∧ L.length ≤ 4 ∧ ∀ x ∈ allN a0 a1 a2 a3 a4 a5 a6 a7 a8 a9 a10 a11 a12 a13 a14 a15 a16 a17 a18 a19 a20 a21 a22 a23 P L, -1 ≤ x ∧ x ≤ 99999 := by
  unfold wordB restB at h
  simp only [Bool.and_eq_true] at h
  obtain ⟨h0, -, -, -, -, h5, h6⟩ := h
  have b1 := bok_small h5
  have b2 := lok_small h6
  refine ⟨b1.1, b2.1, fun x hx => ?_⟩
  have ok : ∀ l : List Int, l.all okN = true → ∀ x ∈ l, -1 ≤ x ∧ x ≤ 99999 := fun l hl x hx => by
    have := List.all_eq_true.1 hl x hx
    unfold okN at this
    simpa using this
  unfold allN at hx
  rcases List.mem_append.1 hx with hx | hx
  · exact ok _ h0 x hx
  rcases List.mem_append.1 hx with hx | hx
  · rcases List.mem_cons.1 hx with rfl | hx
    · omega
    · exact ok _ b1.2 x hx
  · rcases List.mem_cons.1 hx with rfl | hx
    · omega
    · exact ok _ b2.2 x hx
theorem spec_pack (a0 a1 a2 a3 a4 a5 a6 a7 a8 a9 a10 a11 a12 a13 a14 a15 a16 a17 a18 a19 a20 a21 a22 a23 : Int) (P : List Pc) (L : List La) : T (fun k => spec_WordPack.f k a0 a1 a2 a3 a4 a5 a6 a7 a8 a9 a10 a11 a12 a13 a14 a15 a16 a17 a18 a19 a20 a21 a22 a23 P L) (· = packB a0 a1 a2 a3 a4 a5 a6 a7 a8 a9 a10 a11 a12 a13 a14 a15 a16 a17 a18 a19 a20 a21 a22 a23 P L) := by
  simp only [spec_WordPack.f]
  refine T.bind_eq (spec_word a0 a1 a2 a3 a4 a5 a6 a7 a8 a9 a10 a11 a12 a13 a14 a15 a16 a17 a18 a19 a20 a21 a22 a23 P L) ?_
  unfold packB
  refine T.ite (fun h => ?_) (fun h => by rw [if_neg h]; exact T.ret rfl)
  rw [if_pos h]
  obtain ⟨g1, g2, g3⟩ := wordB_good h
  have hlen := allN_len a0 a1 a2 a3 a4 a5 a6 a7 a8 a9 a10 a11 a12 a13 a14 a15 a16 a17 a18 a19 a20 a21 a22 a23 P L
  refine T.bind_eq (all_numbers a0 a1 a2 a3 a4 a5 a6 a7 a8 a9 a10 a11 a12 a13 a14 a15 a16 a17 a18 a19 a20 a21 a22 a23 P L (by omega) (by omega)) ?_
  exact T.bind_eq (spec_bytes _ (by omega) g3) (T.ret rfl)
theorem impl_pack (a0 a1 a2 a3 a4 a5 a6 a7 a8 a9 a10 a11 a12 a13 a14 a15 a16 a17 a18 a19 a20 a21 a22 a23 : Int) (P : List Pc) (L : List La) (hP : P.length ≤ 1048576) (hL : L.length ≤ 1048576) (h1 : -9223372036854775808 ≤ a1 ∧ a1 ≤ 9223372036854775807) (h2 : -9223372036854775808 ≤ a2 ∧ a2 ≤ 9223372036854775807) : T (fun k => impl_WordPack.f k a0 a1 a2 a3 a4 a5 a6 a7 a8 a9 a10 a11 a12 a13 a14 a15 a16 a17 a18 a19 a20 a21 a22 a23 P L) (· = packB a0 a1 a2 a3 a4 a5 a6 a7 a8 a9 a10 a11 a12 a13 a14 a15 a16 a17 a18 a19 a20 a21 a22 a23 P L) := by
  simp only [impl_WordPack.f]
  refine T.bind_eq (impl_word a0 a1 a2 a3 a4 a5 a6 a7 a8 a9 a10 a11 a12 a13 a14 a15 a16 a17 a18 a19 a20 a21 a22 a23 P L hP hL h1 h2) ?_
  unfold packB
  refine T.ite (fun h => ?_) (fun h => by rw [if_neg h]; exact T.ret rfl)
  rw [if_pos h]
  obtain ⟨g1, g2, g3⟩ := wordB_good h
  have hlen := allN_len a0 a1 a2 a3 a4 a5 a6 a7 a8 a9 a10 a11 a12 a13 a14 a15 a16 a17 a18 a19 a20 a21 a22 a23 P L
  have hb := encL_len (allN a0 a1 a2 a3 a4 a5 a6 a7 a8 a9 a10 a11 a12 a13 a14 a15 a16 a17 a18 a19 a20 a21 a22 a23 P L)
  refine T.bind_eq (word_numbers a0 a1 a2 a3 a4 a5 a6 a7 a8 a9 a10 a11 a12 a13 a14 a15 a16 a17 a18 a19 a20 a21 a22 a23 P L hP hL) ?_
  refine T.bind_eq (impl_bytes _ (by omega) g3) ?_
  simp only [impl_copied_byte.f]
  rw [if_pos (by omega)]
  exact T.ret rfl
theorem packB_len (a0 a1 a2 a3 a4 a5 a6 a7 a8 a9 a10 a11 a12 a13 a14 a15 a16 a17 a18 a19 a20 a21 a22 a23 : Int) (P : List Pc) (L : List La) : (packB a0 a1 a2 a3 a4 a5 a6 a7 a8 a9 a10 a11 a12 a13 a14 a15 a16 a17 a18 a19 a20 a21 a22 a23 P L).length ≤ 3 * (26 + 4 * P.length + 2 * L.length) := by
  unfold packB
  split
  · have := encL_len (allN a0 a1 a2 a3 a4 a5 a6 a7 a8 a9 a10 a11 a12 a13 a14 a15 a16 a17 a18 a19 a20 a21 a22 a23 P L)
    have := allN_len a0 a1 a2 a3 a4 a5 a6 a7 a8 a9 a10 a11 a12 a13 a14 a15 a16 a17 a18 a19 a20 a21 a22 a23 P L
    omega
  · simp
end Go.Proofs.YtoieojmfkkidnaaX
