/-
  What the log of a disk with transactions says, for the program and the reference alike.
  Conditions: lists of at most two millions of elements.
-/
import Derived.Test.YthjocaegapchaaaXSec2
import Derived.Test.YthjocaegapchaaaPx3
namespace Go.Proofs.YthjocaegapchaaaX
open Go.RowKit Go.Proofs.Ythjocaegapchaaa.P Go.Proofs.YthjocaegapchaaaW.PrintWords Go.Proofs.YthjocaegapchaaaW.PrintLast Go.Proofs.YthjocaegapchaaaW.PrintMore
set_option linter.unusedVariables false
set_option linter.unusedSimpArgs false

theorem empty_iff (a : ByteArray) : a.toList = ([] : List UInt8) ↔ a.size = 0 := by
  rw [ByteArray.toList_eq]
  constructor
  · intro h
    have h1 : a.data.toList.length = 0 := by rw [h]; rfl
    rw [Array.length_toList] at h1
    exact h1
  · intro h
    exact List.eq_nil_of_length_eq_zero (by rw [Array.length_toList]; exact h)
theorem bt_range (s : ByteArray) (i : Int) : 0 ≤ bt s i ∧ bt s i ≤ 255 := by
  unfold bt
  split
  · next h =>
    have := (s[i.toNat]'h).toNat_lt
    omega
  · omega
theorem wrap_bt (s : ByteArray) (i : Int) : wrap64 (bt s i) = bt s i := by
  have := bt_range s i
  exact wrap64_id (by omega) (by omega)
abbrev Cm := S81
theorem rdCm (l : List Cm) (i : Nat) (h : i < l.length) : rd_T81 l (i : Int) = l[i] := getD_nat l i h _
def cm (x : Sw) : Cm := ⟨x.f0, x.f1⟩
/-- The entries of a log. -/
def parse : Bs → Option (List Sw)
  | [] => some []
  | s :: r => if s.size = 0 ∨ bt s 0 ≥ 250 then none else (parse r).map fun L => ⟨bt s 0, s.extract 1 s.size⟩ :: L
def logL (all : Bs) : Option (List Sw) :=
  if (all.getD 0 ByteArray.empty).size = 0 then some []
  else if (all.getD 0 ByteArray.empty).size = 1 ∧ bt (all.getD 0 ByteArray.empty) 0 ≤ 250 then parse ((all.drop 1).take (bt (all.getD 0 ByteArray.empty) 0).toNat)
  else none
noncomputable def logB (K : Bs) (W : List Sw) : Option (List Sw) := if sok K W = true ∧ K.length = 501 then logL (wr K W) else none
theorem parse_good : ∀ (l : Bs) (L : List Sw), parse l = some L → L.length = l.length ∧ ∀ x ∈ L, 0 ≤ x.f0 ∧ x.f0 < 250
  | [], L, h => by simp only [parse, Option.some.injEq] at h; subst h; simp
  | s :: r, L, h => by
    simp only [parse] at h
    split at h
    · cases h
    · next hs =>
      cases hr : parse r with
      | none => rw [hr] at h; cases h
      | some M =>
        rw [hr] at h
        simp only [Option.map_some, Option.some.injEq] at h
        subst h
        obtain ⟨h1, h2⟩ := parse_good r M hr
        have := bt_range s 0
        refine ⟨by simp [h1], fun x hx => ?_⟩
        rcases List.mem_cons.1 hx with rfl | hx
        · exact ⟨by show 0 ≤ bt s 0; omega, by show bt s 0 < 250; omega⟩
        · exact h2 x hx
theorem logL_good {all : Bs} {L : List Sw} (h : logL all = some L) : L.length ≤ 250 ∧ ∀ x ∈ L, 0 ≤ x.f0 ∧ x.f0 < 250 := by
  unfold logL at h
  split at h
  · simp only [Option.some.injEq] at h; subst h; simp
  · split at h
    · next h1 =>
      obtain ⟨h2, h3⟩ := parse_good _ _ h
      refine ⟨?_, h3⟩
      rw [h2, List.length_take]
      omega
    · cases h
theorem logB_good {K : Bs} {W : List Sw} {L : List Sw} (h : logB K W = some L) : sok K W = true ∧ K.length = 501 ∧ logL (wr K W) = some L ∧ L.length ≤ 250 ∧ ∀ x ∈ L, 0 ≤ x.f0 ∧ x.f0 < 250 := by
  unfold logB at h
  split at h
  · next h1 =>
    have := logL_good h
    exact ⟨h1.1, h1.2, h, this.1, this.2⟩
  · cases h
def SpecLog (o : Option (List Sw)) (acc : List Sw) (r : List Sw × Bool) : Prop := match o with | some L => r = (acc ++ L, true) | none => r.2 = false
theorem parse_cons (s : ByteArray) (r : Bs) (acc : List Sw) (q : List Sw × Bool) (h : ¬ (s.size = 0 ∨ bt s 0 ≥ 250)) :
    SpecLog (parse r) (acc ++ [⟨bt s 0, s.extract 1 s.size⟩]) q → SpecLog (parse (s :: r)) acc q := by
  unfold SpecLog
  simp only [parse, if_neg h]
  cases parse r with
  | none => exact id
  | some L => intro h; simpa using h
theorem spec_logged_loop (all : Bs) (n : Nat) (hn : n ≤ 250) (hall : all.length = 501) : ∀ (d i : Nat) (acc : List Sw), n - i = d → i ≤ n → acc.length ≤ i →
    T (fun k => spec_l2Logged.l0 k all acc (n : Int) (i : Int)) (SpecLog (parse ((all.drop (1 + i)).take (n - i))) acc) := by
  intro d
  induction d with
  | zero =>
    intro i acc hd hi ha
    refine T.succ ?_
    simp only [spec_l2Logged.l0]
    refine T.neg (by omega) (T.ret ?_)
    rw [hd, List.take_zero]
    simp [parse, SpecLog]
  | succ d ih =>
    intro i acc hd hi ha
    have hlt : i < n := by omega
    have e : wrap64 (1 + (i : Int)) = ((1 + i : Nat) : Int) := by rw [wrap64_id (by omega) (by omega)]; omega
    have h1 : 1 + i < all.length := by omega
    refine T.succ ?_
    simp only [spec_l2Logged.l0, e, rdB all (1 + i) h1, wrap_bt]
    refine T.pos (by omega) (T.pos (by omega) (T.pos (by omega) ?_))
    rw [hd, List.drop_eq_getElem_cons h1, List.take_succ_cons]
    refine T.ite (fun hz => T.ret ?_) (fun hz => T.pos (by omega) ?_)
    · unfold SpecLog; simp only [parse]; rw [if_pos (by omega)]; trivial
    refine T.ite (fun hb => T.ret ?_) (fun hb => T.pos (by omega) (T.pos (by omega) ?_))
    · unfold SpecLog; simp only [parse]; rw [if_pos (by omega)]; trivial
    rw [wrap_succ hlt (by omega)]
    have := ih (i + 1) (acc ++ [⟨bt all[1 + i] 0, all[1 + i].extract 1 all[1 + i].size⟩]) (by omega) (by omega) (by simp; omega)
    rw [show n - (i + 1) = d by omega, show 1 + (i + 1) = 1 + i + 1 by omega] at this
    exact this.mono (fun r hr => parse_cons _ _ _ _ (by omega) hr)
theorem spec_logged (all : Bs) (hall : all.length = 501) : T (fun k => spec_l2Logged.f k all) (SpecLog (logL all) []) := by
  have e0 : rdOf ByteArray.empty all 0 = all.getD 0 ByteArray.empty := rfl
  simp only [spec_l2Logged.f, Option.bind_some, e0, empty_iff, wrap_bt]
  refine T.pos (by omega) ?_
  unfold logL
  have hb := bt_range (all.getD 0 ByteArray.empty) 0
  generalize all.getD 0 ByteArray.empty = s at *
  refine T.ite (fun h => ?_) (fun h => ?_)
  · rw [if_pos h]; exact T.ret rfl
  rw [if_neg h]
  refine T.pos (by omega) ?_
  refine T.ite (fun h1 => ?_) (fun h1 => ?_)
  · by_cases h2 : bt s 0 > 250
    · rw [decide_eq_true h2, if_neg (by omega)]
      refine T.succ ?_
      simp only [spec_l2Logged.j0, if_true]
      exact T.ret rfl
    · rw [decide_eq_false h2, if_pos (by omega)]
      refine T.succ ?_
      simp only [spec_l2Logged.j0]
      refine T.neg (by simp) ?_
      have := spec_logged_loop all (bt s 0).toNat (by omega) hall _ 0 [] rfl (Nat.zero_le _) (Nat.le_refl _)
      rw [show (((bt s 0).toNat : Nat) : Int) = bt s 0 by omega] at this
      simpa using this
  · rw [if_neg (by omega)]
    refine T.succ ?_
    simp only [spec_l2Logged.j0, if_true]
    exact T.ret rfl
def ImplLog (o : Option (List Sw)) (acc : List Cm) (r : List Cm × Bool) : Prop := match o with | some L => r = (acc ++ L.map cm, true) | none => r = ([], false)
theorem parse_cons_i (s : ByteArray) (r : Bs) (acc : List Cm) (q : List Cm × Bool) (h : ¬ (s.size = 0 ∨ bt s 0 ≥ 250)) :
    ImplLog (parse r) (acc ++ [⟨bt s 0, s.extract 1 s.size⟩]) q → ImplLog (parse (s :: r)) acc q := by
  unfold ImplLog
  simp only [parse, if_neg h]
  cases parse r with
  | none => exact id
  | some L => intro h; simpa [cm] using h
theorem impl_log_loop (l : Bs) (hl : l.length ≤ 1000) : ∀ (d i : Nat) (acc : List Cm), l.length - i = d → i ≤ l.length → acc.length ≤ i →
    T (fun k => impl_walLog.l0 k acc l (l.length : Int) (i : Int)) (ImplLog (parse (l.drop i)) acc) := by
  intro d
  induction d with
  | zero =>
    intro i acc hd hi ha
    refine T.succ ?_
    simp only [impl_walLog.l0]
    refine T.neg (by omega) (T.ret ?_)
    rw [List.drop_of_length_le (by omega)]
    simp [parse, ImplLog]
  | succ d ih =>
    intro i acc hd hi ha
    have hlt : i < l.length := by omega
    refine T.succ ?_
    simp only [impl_walLog.l0, rdB l i hlt, wrap_bt, empty_iff]
    refine T.pos (by omega) (T.pos (by omega) (T.pos (by omega) ?_))
    rw [List.drop_eq_getElem_cons hlt]
    refine T.ite (fun hz => T.ret ?_) (fun hz => T.pos (by omega) ?_)
    · unfold ImplLog; simp only [parse]; rw [if_pos (by omega)]; trivial
    refine T.ite (fun hb => T.ret ?_) (fun hb => T.pos (by omega) (T.pos (by omega) ?_))
    · unfold ImplLog; simp only [parse]; rw [if_pos (by omega)]; trivial
    rw [wrap_succ hlt (by omega)]
    exact (ih (i + 1) _ (by omega) (by omega) (by simp; omega)).mono (fun r hr => parse_cons_i _ _ _ _ (by omega) hr)
theorem impl_log (K : Bs) (W : List Sw) (hK : K.length ≤ 1048577) (hW : W.length ≤ 1048577) : T (fun k => impl_walLog.f k K W) (ImplLog (logB K W) []) := by
  have bad : ¬ (sok K W = true ∧ K.length = 501) → T (fun k => impl_walLog.j0 k true K W) (ImplLog (logB K W) []) := fun h => by
    refine T.succ ?_
    simp only [impl_walLog.j0, if_true]
    refine T.ret ?_
    unfold logB
    rw [if_neg h]; rfl
  simp only [impl_walLog.f]
  refine T.bind_eq (impl_sok K W (by omega) (by omega)) ?_
  refine T.ite (fun h => ?_) (fun h => bad (fun h1 => h h1.1))
  by_cases hl : K.length = 501
  · rw [show ((K.length : Int) != 501) = false by simp [hl]]
    refine T.succ ?_
    simp only [impl_walLog.j0]
    refine T.neg (by simp) ?_
    refine T.bind_eq (impl_flush K W hK hW) ?_
    have e : flushB K W = (wr K W, []) := by unfold flushB; rw [if_pos h]
    rw [e]
    have hw : (wr K W).length = 501 := by rw [wr_length]; exact hl
    unfold logB
    rw [if_pos ⟨h, hl⟩]
    simp only
    generalize wr K W = all at hw
    have e0 : rdOf ByteArray.empty all 0 = all.getD 0 ByteArray.empty := rfl
    simp only [e0, empty_iff, wrap_bt]
    refine T.pos (by omega) ?_
    unfold logL
    have hb := bt_range (all.getD 0 ByteArray.empty) 0
    have bad2 : (logL all = none) → T (fun k => impl_walLog.j1 k all true) (ImplLog (logL all) []) := fun h => by
      refine T.succ ?_
      simp only [impl_walLog.j1, if_true]
      rw [h]
      exact T.ret rfl
    unfold logL at bad2
    have ej : ∀ k b, impl_walLog.j1 (k + 1) all b = _ := fun k b => by rw [impl_walLog.j1]
    simp only [e0, wrap_bt] at ej
    generalize all.getD 0 ByteArray.empty = s at *
    refine T.ite (fun h => ?_) (fun h => ?_)
    · rw [if_pos h]; exact T.ret rfl
    rw [if_neg h] at bad2 ⊢
    refine T.ite (fun h1 => T.pos (by omega) ?_) (fun h1 => ?_)
    · by_cases h2 : bt s 0 > 250
      · rw [decide_eq_true h2]
        rw [if_neg (by omega)] at bad2 ⊢
        exact bad2 rfl
      · rw [decide_eq_false h2, if_pos (by omega)]
        refine T.succ ?_
        simp only [ej]
        rw [wrap64_id (x := 1 + bt s 0) (by omega) (by omega)]
        refine T.neg (by simp) (T.pos (by omega) (T.pos (by omega) (T.pos (by omega) (T.pos (by omega) ?_))))
        simp only [Option.bind_some]
        have es : (all.take (1 + bt s 0).toNat).drop 1 = (all.drop 1).take (bt s 0).toNat := by
          rw [List.drop_take]
          congr 1
          omega
        rw [es]
        have hl2 : ((all.drop 1).take (bt s 0).toNat).length ≤ 1000 := by rw [List.length_take]; omega
        simpa using impl_log_loop _ hl2 _ 0 [] rfl (Nat.zero_le _) (Nat.le_refl _)
    · rw [if_neg (by omega)] at bad2 ⊢
      exact bad2 rfl
  · rw [show ((K.length : Int) != 501) = true by simp; omega]
    exact bad (fun h1 => hl h1.2)
theorem spec_form (K : Bs) (W : List Sw) : T (fun k => spec_l2Form.f k K W) (· = (sok K W && ((K.length : Int) == 501))) := by
  simp only [spec_l2Form.f]
  refine T.bind_eq (spec_sok K W) ?_
  refine T.ite (fun h => T.ret (by rw [h]; rfl)) (fun h => T.ret ?_)
  rw [Bool.eq_false_iff.2 h]; rfl
end Go.Proofs.YthjocaegapchaaaX
