-- printed by pprint.py (this session's program over the kit's printer) out of the translation. Lean checks it.
import Derived.Test.YtncohokalilnbaaProg
import Derived.Below
import Derived.Deep.Draws
import Derived.Deep.AppendLies
import Derived.Maps.AppendAt
import Derived.OwnWalk
import Derived.Laws.BytesArg
import Derived.Laws.MakeOwn
import Derived.Laws.OwnMore
import Derived.Deep.OwnRows
import Derived.Tactics
import Derived.Lib.ConvBytes
import Derived.Laws.Slices
import Derived.WalkKit
import Derived.KernelRfl
import Derived.RowKit3
import Derived.Deep.LoopGhost
import Derived.Deep.QuietTactic
import Derived.BigQuiet
import Derived.WideLaws
import Derived.Deep.DeepCutAuto
import Derived.Deep.CutBlock
import Derived.Deep.RegionHeld3
import Derived.Laws.Rows
import Derived.Lib.AppendStr
import Derived.ArgAppend
import Derived.Laws.IdiomCopy
import Derived.OrdersHeld
import Derived.Laws.BitsLemmas
import Derived.RowKit
import Derived.Test.YtncohokalilnbaaXCopy
import Derived.Test.YtncohokalilnbaaVWGuardInvWordsMore
namespace Go.Proofs.Ytncohokalilnbaa.P
open Go.RowKit Go.Proofs.YtncohokalilnbaaX Go.Proofs.YtncohokalilnbaaW.PrintWords Go.Proofs.YtncohokalilnbaaW.PrintLast Go.Proofs.YtncohokalilnbaaW.PrintMore
attribute [local go_sem] max2_int min2_int max_two min_two max_three min_three max_four min_four   -- for this text's walks alone
set_option linter.unusedVariables false
set_option linter.unusedSimpArgs false



def errW : Option Int → Value
  | none => .nilIface
  | some c => .iface 0 (.int .i64 c)
theorem errW_none : errW none = .nilIface := rfl
theorem errW_some (c : Int) : errW (some c) = .iface 0 (.int .i64 c) := rfl

theorem info3 : (Try.prog.info? 3).map (fun i => (i.zero, i.size, i.bytes)) = some (some (.int .i64 0), 1, 8) := by kernel_rfl
theorem info53 : (Try.prog.info? 53).map (fun i => (i.zero, i.size, i.bytes)) = some (some (.agg #[(.int .i64 0), (.int .i64 0), (.int .i64 0), (.int .i64 0), (.int .i64 0), (.int .i64 0), (.int .i64 0), (.int .i64 0), (.int .i64 0), (.int .i64 0), (.int .i64 0), (.int .i64 0)]), 12, 96) := by kernel_rfl
theorem info84 : (Try.prog.info? 84).map (fun i => (i.zero, i.size, i.bytes)) = some (some (.agg #[(.int .i64 0), (.slice none 0 0)]), 2, 32) := by kernel_rfl
theorem info88 : (Try.prog.info? 88).map (fun i => (i.zero, i.size, i.bytes)) = some (some (.agg #[(.int .i64 0), (.int .i64 0), (.int .i64 0), (.int .i64 0), (.int .i64 0), (.int .i64 0), (.int .i64 0), (.int .i64 0), (.int .i64 0), (.int .i64 0), (.int .i64 0), (.int .i64 0), (.int .i64 0), (.int .i64 0), (.int .i64 0), (.int .i64 0), (.int .i64 0), (.int .i64 0), (.int .i64 0), (.int .i64 0), (.int .i64 0), (.int .i64 0), (.int .i64 0), (.int .i64 0), (.int .i64 0), (.slice none 0 0)]), 26, 224) := by kernel_rfl
theorem info93 : (Try.prog.info? 93).map (fun i => (i.zero, i.size, i.bytes)) = some (some (.agg #[(.int .i64 0), (.int .i64 0), (.int .i64 0), (.int .i64 0), (.int .i64 0), (.int .i64 0), (.int .i64 0), (.int .i64 0), (.int .i64 0), (.int .i64 0), (.int .i64 0), (.int .i64 0), (.int .i64 0), (.int .i64 0), (.int .i64 0), (.int .i64 0), (.int .i64 0), (.int .i64 0), (.int .i64 0), (.int .i64 0), (.int .i64 0), (.int .i64 0), (.int .i64 0), (.int .i64 0), (.slice none 0 0), (.slice none 0 0)]), 26, 240) := by kernel_rfl
theorem info100 : (Try.prog.info? 100).map (fun i => (i.zero, i.size, i.bytes)) = some (some (.agg #[(.int .i64 0), (.int .i64 0)]), 2, 16) := by kernel_rfl
theorem info164 : (Try.prog.info? 164).map (fun i => (i.zero, i.size, i.bytes)) = some (some (.agg #[(.int .i64 0), (.int .i64 0), (.int .i64 0), (.int .i64 0)]), 4, 32) := by kernel_rfl
theorem info166 : (Try.prog.info? 166).map (fun i => (i.zero, i.size, i.bytes)) = some (some (.agg #[(.int .i64 0), (.int .i64 0)]), 2, 16) := by kernel_rfl
theorem y164 : ZV 164 #[.int .i64 0,.int .i64 0,.int .i64 0,.int .i64 0] := trivial
theorem y28 : ZV 28 #[.slice none 0 0,.slice none 0 0,.slice none 0 0,.slice none 0 0,.slice none 0 0] := trivial
theorem y44 : ZV 44 #[.int .i64 0,.int .i64 0,.int .i64 0,.int .i64 0,.int .i64 0,.int .i64 0,.int .i64 0,.int .i64 0,.int .i64 0,.int .i64 0] := trivial
theorem y53 : ZV 53 #[.int .i64 0,.int .i64 0,.int .i64 0,.int .i64 0,.int .i64 0,.int .i64 0,.int .i64 0,.int .i64 0,.int .i64 0,.int .i64 0,.int .i64 0,.int .i64 0] := trivial
theorem y88 : ZV 88 #[.int .i64 0,.int .i64 0,.int .i64 0,.int .i64 0,.int .i64 0,.int .i64 0,.int .i64 0,.int .i64 0,.int .i64 0,.int .i64 0,.int .i64 0,.int .i64 0,.int .i64 0,.int .i64 0,.int .i64 0,.int .i64 0,.int .i64 0,.int .i64 0,.int .i64 0,.int .i64 0,.int .i64 0,.int .i64 0,.int .i64 0,.int .i64 0,.int .i64 0,.slice none 0 0] := trivial
theorem y93 : ZV 93 #[.int .i64 0,.int .i64 0,.int .i64 0,.int .i64 0,.int .i64 0,.int .i64 0,.int .i64 0,.int .i64 0,.int .i64 0,.int .i64 0,.int .i64 0,.int .i64 0,.int .i64 0,.int .i64 0,.int .i64 0,.int .i64 0,.int .i64 0,.int .i64 0,.int .i64 0,.int .i64 0,.int .i64 0,.int .i64 0,.int .i64 0,.int .i64 0,.slice none 0 0,.slice none 0 0] := trivial
-- the values' own types
abbrev N_2 : List Nat := [1,2]
abbrev N_4 : List Nat := [1,2,3,4]
abbrev N_8 : List Nat := [1,2,3,4,5,6,7,8]
abbrev N_10 : List Nat := [1,2,3,4,5,6,7,8,9,10]
abbrev N_25 : List Nat := [1,2,3,4,5,6,7,8,9,10,11,12,13,14,15,16,17,18,19,20,21,22,23,24,25]
/-! #### struct type 44 -/
structure S44 where
  f0 : Int
  f1 : Int
  f2 : Int
  f3 : Int
  f4 : Int
  f5 : Int
  f6 : Int
  f7 : Int
  f8 : Int
  f9 : Int
def z44 : S44 := ⟨(0 : Int), (0 : Int), (0 : Int), (0 : Int), (0 : Int), (0 : Int), (0 : Int), (0 : Int), (0 : Int), (0 : Int)⟩
def k44 : Kd S44 := Kd.iso (Kd.pair (Kd.int .i64) (Kd.pair (Kd.int .i64) (Kd.pair (Kd.int .i64) (Kd.pair (Kd.int .i64) (Kd.pair (Kd.int .i64) (Kd.pair (Kd.int .i64) (Kd.pair (Kd.int .i64) (Kd.pair (Kd.int .i64) (Kd.pair (Kd.int .i64) (Kd.int .i64)))))))))) (fun x : S44 => (x.f0, x.f1, x.f2, x.f3, x.f4, x.f5, x.f6, x.f7, x.f8, x.f9))
theorem k44_open {w : World} {x : S44} {cs : List Value} (h : k44.K w x cs) : cs = [.int .i64 x.f0,.int .i64 x.f1,.int .i64 x.f2,.int .i64 x.f3,.int .i64 x.f4,.int .i64 x.f5,.int .i64 x.f6,.int .i64 x.f7,.int .i64 x.f8,.int .i64 x.f9] := by
  obtain ⟨_, _, rfl, rfl, ⟨_, _, rfl, rfl, ⟨_, _, rfl, rfl, ⟨_, _, rfl, rfl, ⟨_, _, rfl, rfl, ⟨_, _, rfl, rfl, ⟨_, _, rfl, rfl, ⟨_, _, rfl, rfl, ⟨_, _, rfl, rfl, rfl⟩⟩⟩⟩⟩⟩⟩⟩⟩ := h
  exact rfl
theorem k44_openM {w : World} {base : Nat} {ok : Nat → Prop} {x : S44} {cs : List Value} (h : k44.M w base ok x cs) : cs = [.int .i64 x.f0,.int .i64 x.f1,.int .i64 x.f2,.int .i64 x.f3,.int .i64 x.f4,.int .i64 x.f5,.int .i64 x.f6,.int .i64 x.f7,.int .i64 x.f8,.int .i64 x.f9] := by
  obtain ⟨_, _, rfl, rfl, ⟨_, _, rfl, rfl, ⟨_, _, rfl, rfl, ⟨_, _, rfl, rfl, ⟨_, _, rfl, rfl, ⟨_, _, rfl, rfl, ⟨_, _, rfl, rfl, ⟨_, _, rfl, rfl, ⟨_, _, rfl, rfl, rfl⟩⟩⟩⟩⟩⟩⟩⟩⟩ := h
  exact rfl
abbrev d44 (x : S44) : List Value := [.int .i64 x.f0,.int .i64 x.f1,.int .i64 x.f2,.int .i64 x.f3,.int .i64 x.f4,.int .i64 x.f5,.int .i64 x.f6,.int .i64 x.f7,.int .i64 x.f8,.int .i64 x.f9]
theorem k44_mk (w : World) (x : S44)  : k44.K w x (d44 x) := ⟨[_],_,rfl,rfl,⟨[_],_,rfl,rfl,⟨[_],_,rfl,rfl,⟨[_],_,rfl,rfl,⟨[_],_,rfl,rfl,⟨[_],_,rfl,rfl,⟨[_],_,rfl,rfl,⟨[_],_,rfl,rfl,⟨[_],_,rfl,rfl,rfl⟩⟩⟩⟩⟩⟩⟩⟩⟩
theorem k44_mkM (w : World) (base : Nat) (ok : Nat → Prop) (x : S44)  : k44.M w base ok x (d44 x) := ⟨[_],_,rfl,rfl,⟨[_],_,rfl,rfl,⟨[_],_,rfl,rfl,⟨[_],_,rfl,rfl,⟨[_],_,rfl,rfl,⟨[_],_,rfl,rfl,⟨[_],_,rfl,rfl,⟨[_],_,rfl,rfl,⟨[_],_,rfl,rfl,rfl⟩⟩⟩⟩⟩⟩⟩⟩⟩
def rd_T44 (xs : List S44) (i : Int) : S44 := xs.getD i.toNat z44
theorem at_T44 {w : World} {A : Option Addr} {n : Nat} {xs : List S44} (h : Kd.C k44 w A n xs) (i : Int) (h0 : 0 ≤ i) (h1 : i < n) : ∃ ad , A = some ad ∧ w.cell? (ad.add (i.toNat * 10)) = some (.int .i64 (rd_T44 xs i).f0) ∧ CS w (ad.add (i.toNat * 10)) N_8 (d44 (rd_T44 xs i)).tail (w.cell? ⟨(ad.add (i.toNat * 10)).block, (ad.add (i.toNat * 10)).off + 9, none⟩ = some (.int .i64 (rd_T44 xs i).f9)) := by
  obtain ⟨ad, c, e, _, hK, hc0⟩ := Kd.C_get h z44 i h0 h1
  have hc : ∀ j u, c[j]? = some u → w.cell? (ad.add (i.toNat * 10 + j)) = some u := hc0
  obtain rfl := k44_open hK
  exact ⟨ad, e, hc 0 _ rfl, CS_mk hc rfl (by rw [← add_field _ _ 9 (by omega)]; exact hc 9 _ rfl)⟩
theorem at_R44 {w : World} {A : Option Addr} {n : Nat} {xs : List S44} (h : Kd.C k44 w A n xs) (i : Int) (h0 : 0 ≤ i) (h1 : i < n) : ∃ ad , A = some ad ∧ RS w (ad.add (i.toNat * 10)) (d44 (rd_T44 xs i)) := by
  obtain ⟨ad, c, e, _, hK, hc0⟩ := Kd.C_get h z44 i h0 h1
  have hc : ∀ j u, c[j]? = some u → w.cell? (ad.add (i.toNat * 10 + j)) = some u := hc0
  obtain rfl := k44_open hK
  exact ⟨ad, e, rI hc⟩

/-! #### struct type 53 -/
structure S53 where
  f0 : Int
  f1 : Int
  f2 : S44
def z53 : S53 := ⟨(0 : Int), (0 : Int), z44⟩
def k53 : Kd S53 := Kd.iso (Kd.pair (Kd.int .i64) (Kd.pair (Kd.int .i64) k44)) (fun x : S53 => (x.f0, x.f1, x.f2))
theorem k53_open {w : World} {x : S53} {cs : List Value} (h : k53.K w x cs) : cs = [.int .i64 x.f0,.int .i64 x.f1,.int .i64 x.f2.f0,.int .i64 x.f2.f1,.int .i64 x.f2.f2,.int .i64 x.f2.f3,.int .i64 x.f2.f4,.int .i64 x.f2.f5,.int .i64 x.f2.f6,.int .i64 x.f2.f7,.int .i64 x.f2.f8,.int .i64 x.f2.f9] := by
  obtain ⟨_, _, rfl, rfl, ⟨_, _, rfl, rfl, s2⟩⟩ := h
  obtain rfl := k44_open s2
  exact rfl
theorem k53_openM {w : World} {base : Nat} {ok : Nat → Prop} {x : S53} {cs : List Value} (h : k53.M w base ok x cs) : cs = [.int .i64 x.f0,.int .i64 x.f1,.int .i64 x.f2.f0,.int .i64 x.f2.f1,.int .i64 x.f2.f2,.int .i64 x.f2.f3,.int .i64 x.f2.f4,.int .i64 x.f2.f5,.int .i64 x.f2.f6,.int .i64 x.f2.f7,.int .i64 x.f2.f8,.int .i64 x.f2.f9] := by
  obtain ⟨_, _, rfl, rfl, ⟨_, _, rfl, rfl, s2⟩⟩ := h
  obtain rfl := k44_openM s2
  exact rfl
abbrev d53 (x : S53) : List Value := [.int .i64 x.f0,.int .i64 x.f1,.int .i64 x.f2.f0,.int .i64 x.f2.f1,.int .i64 x.f2.f2,.int .i64 x.f2.f3,.int .i64 x.f2.f4,.int .i64 x.f2.f5,.int .i64 x.f2.f6,.int .i64 x.f2.f7,.int .i64 x.f2.f8,.int .i64 x.f2.f9]
theorem k53_mk (w : World) (x : S53)  : k53.K w x (d53 x) := ⟨[_],_,rfl,rfl,⟨[_],_,rfl,rfl,(k44_mk w x.f2 )⟩⟩
theorem k53_mkM (w : World) (base : Nat) (ok : Nat → Prop) (x : S53)  : k53.M w base ok x (d53 x) := ⟨[_],_,rfl,rfl,⟨[_],_,rfl,rfl,(k44_mkM w base ok x.f2 )⟩⟩
def rd_T53 (xs : List S53) (i : Int) : S53 := xs.getD i.toNat z53
theorem at_T53 {w : World} {A : Option Addr} {n : Nat} {xs : List S53} (h : Kd.C k53 w A n xs) (i : Int) (h0 : 0 ≤ i) (h1 : i < n) : ∃ ad , A = some ad ∧ w.cell? (ad.add (i.toNat * 12)) = some (.int .i64 (rd_T53 xs i).f0) ∧ CS w (ad.add (i.toNat * 12)) N_10 (d53 (rd_T53 xs i)).tail (w.cell? ⟨(ad.add (i.toNat * 12)).block, (ad.add (i.toNat * 12)).off + 11, none⟩ = some (.int .i64 (rd_T53 xs i).f2.f9)) := by
  obtain ⟨ad, c, e, _, hK, hc0⟩ := Kd.C_get h z53 i h0 h1
  have hc : ∀ j u, c[j]? = some u → w.cell? (ad.add (i.toNat * 12 + j)) = some u := hc0
  obtain rfl := k53_open hK
  exact ⟨ad, e, hc 0 _ rfl, CS_mk hc rfl (by rw [← add_field _ _ 11 (by omega)]; exact hc 11 _ rfl)⟩
theorem at_R53 {w : World} {A : Option Addr} {n : Nat} {xs : List S53} (h : Kd.C k53 w A n xs) (i : Int) (h0 : 0 ≤ i) (h1 : i < n) : ∃ ad , A = some ad ∧ RS w (ad.add (i.toNat * 12)) (d53 (rd_T53 xs i)) := by
  obtain ⟨ad, c, e, _, hK, hc0⟩ := Kd.C_get h z53 i h0 h1
  have hc : ∀ j u, c[j]? = some u → w.cell? (ad.add (i.toNat * 12 + j)) = some u := hc0
  obtain rfl := k53_open hK
  exact ⟨ad, e, rI hc⟩

def rd_L3 (xs : List (List S53)) (i : Int) : (List S53) := xs.getD i.toNat ([] : List S53)
theorem at_L3 {w : World} {A : Option Addr} {n : Nat} {xs : List (List S53)} (h : Kd.C (Kd.slice 53 k53) w A n xs) (i : Int) (h0 : 0 ≤ i) (h1 : i < n) : ∃ ad A0 c0, A = some ad ∧ w.cell? (ad.add i.toNat) = some (.slice A0 (rd_L3 xs i).length c0) ∧ (rd_L3 xs i).length ≤ c0 ∧ k53.C w A0 (rd_L3 xs i).length (rd_L3 xs i) := by
  obtain ⟨ad, c, e, _, hK, hc0⟩ := Kd.C_get h ([] : List S53) i h0 h1
  have hc : ∀ j u, c[j]? = some u → w.cell? (ad.add (i.toNat * 1 + j)) = some u := hc0
  obtain ⟨A0, c0, rfl, l0, g0⟩ := hK
  exact ⟨ad, A0, c0, e, by have hq := hc 0 _ rfl; rwa [Nat.mul_one, Nat.add_zero] at hq, l0, g0⟩

/-! #### struct type 84 -/
structure S84 where
  f0 : Int
  f1 : (List S53)
def z84 : S84 := ⟨(0 : Int), ([] : List S53)⟩
def k84 : Kd S84 := Kd.iso (Kd.pair (Kd.int .i64) (Kd.slice 53 k53)) (fun x : S84 => (x.f0, x.f1))
theorem k84_open {w : World} {x : S84} {cs : List Value} (h : k84.K w x cs) : ∃ A1 c1, cs = [.int .i64 x.f0,.slice A1 x.f1.length c1] ∧ x.f1.length ≤ c1 ∧ k53.C w A1 x.f1.length x.f1 := by
  obtain ⟨_, _, rfl, rfl, ⟨A1, c1, rfl, l1, g1⟩⟩ := h
  exact ⟨A1, c1, rfl, l1, g1⟩
theorem k84_openM {w : World} {base : Nat} {ok : Nat → Prop} {x : S84} {cs : List Value} (h : k84.M w base ok x cs) : ∃ v1, cs = [.int .i64 x.f0,v1] ∧ k53.R 53 w base ok v1 x.f1 := by
  obtain ⟨_, _, rfl, rfl, ⟨v1, rfl, g1⟩⟩ := h
  exact ⟨v1, rfl, g1⟩
abbrev d84 (x : S84) (v1 : Value) : List Value := [.int .i64 x.f0,v1]
theorem k84_mk (w : World) (x : S84) {A1 : Option Addr} {c1 : Nat} (l1 : x.f1.length ≤ c1) (g1 : k53.C w A1 x.f1.length x.f1) : k84.K w x (d84 x (.slice A1 x.f1.length c1)) := ⟨[_],_,rfl,rfl,⟨A1, c1, rfl, l1, g1⟩⟩
theorem k84_mkM (w : World) (base : Nat) (ok : Nat → Prop) (x : S84) {v1 : Value} (g1 : k53.R 53 w base ok v1 x.f1) : k84.M w base ok x (d84 x v1) := ⟨[_],_,rfl,rfl,⟨v1, rfl, g1⟩⟩
def rd_T84 (xs : List S84) (i : Int) : S84 := xs.getD i.toNat z84
theorem at_T84 {w : World} {A : Option Addr} {n : Nat} {xs : List S84} (h : Kd.C k84 w A n xs) (i : Int) (h0 : 0 ≤ i) (h1 : i < n) : ∃ ad A1 c1, A = some ad ∧ w.cell? (ad.add (i.toNat * 2)) = some (.int .i64 (rd_T84 xs i).f0) ∧ w.cell? ⟨(ad.add (i.toNat * 2)).block, (ad.add (i.toNat * 2)).off + 1, none⟩ = some (.slice A1 (rd_T84 xs i).f1.length c1) ∧ (rd_T84 xs i).f1.length ≤ c1 ∧ k53.C w A1 (rd_T84 xs i).f1.length (rd_T84 xs i).f1 := by
  obtain ⟨ad, c, e, _, hK, hc0⟩ := Kd.C_get h z84 i h0 h1
  have hc : ∀ j u, c[j]? = some u → w.cell? (ad.add (i.toNat * 2 + j)) = some u := hc0
  obtain ⟨A1, c1, rfl, l1, g1⟩ := k84_open hK
  exact ⟨ad, A1, c1, e, hc 0 _ rfl, by rw [← add_field _ _ 1 (by omega)]; exact hc 1 _ rfl, l1, g1⟩
theorem at_R84 {w : World} {A : Option Addr} {n : Nat} {xs : List S84} (h : Kd.C k84 w A n xs) (i : Int) (h0 : 0 ≤ i) (h1 : i < n) : ∃ ad A1 c1, A = some ad ∧ RS w (ad.add (i.toNat * 2)) (d84 (rd_T84 xs i) (.slice A1 (rd_T84 xs i).f1.length c1)) ∧ (rd_T84 xs i).f1.length ≤ c1 ∧ k53.C w A1 (rd_T84 xs i).f1.length (rd_T84 xs i).f1 := by
  obtain ⟨ad, c, e, _, hK, hc0⟩ := Kd.C_get h z84 i h0 h1
  have hc : ∀ j u, c[j]? = some u → w.cell? (ad.add (i.toNat * 2 + j)) = some u := hc0
  obtain ⟨A1, c1, rfl, l1, g1⟩ := k84_open hK
  exact ⟨ad, A1, c1, e, rI hc, l1, g1⟩

def rd_L5 (xs : List (List Int)) (i : Int) : (List Int) := xs.getD i.toNat ([] : List Int)
theorem at_L5 {w : World} {A : Option Addr} {n : Nat} {xs : List (List Int)} (h : Kd.C (Kd.slice 3 (Kd.int .i64)) w A n xs) (i : Int) (h0 : 0 ≤ i) (h1 : i < n) : ∃ ad A0 c0, A = some ad ∧ w.cell? (ad.add i.toNat) = some (.slice A0 (rd_L5 xs i).length c0) ∧ (rd_L5 xs i).length ≤ c0 ∧ (Kd.int .i64).C w A0 (rd_L5 xs i).length (rd_L5 xs i) := by
  obtain ⟨ad, c, e, _, hK, hc0⟩ := Kd.C_get h ([] : List Int) i h0 h1
  have hc : ∀ j u, c[j]? = some u → w.cell? (ad.add (i.toNat * 1 + j)) = some u := hc0
  obtain ⟨A0, c0, rfl, l0, g0⟩ := hK
  exact ⟨ad, A0, c0, e, by have hq := hc 0 _ rfl; rwa [Nat.mul_one, Nat.add_zero] at hq, l0, g0⟩

/-! #### struct type 88 -/
structure S88 where
  f0 : Int
  f1 : Int
  f2 : Int
  f3 : S44
  f4 : S53
  f5 : (List Int)
def z88 : S88 := ⟨(0 : Int), (0 : Int), (0 : Int), z44, z53, ([] : List Int)⟩
def k88 : Kd S88 := Kd.iso (Kd.pair (Kd.int .i64) (Kd.pair (Kd.int .i64) (Kd.pair (Kd.int .i64) (Kd.pair k44 (Kd.pair k53 (Kd.slice 3 (Kd.int .i64))))))) (fun x : S88 => (x.f0, x.f1, x.f2, x.f3, x.f4, x.f5))
theorem k88_open {w : World} {x : S88} {cs : List Value} (h : k88.K w x cs) : ∃ A25 c25, cs = [.int .i64 x.f0,.int .i64 x.f1,.int .i64 x.f2,.int .i64 x.f3.f0,.int .i64 x.f3.f1,.int .i64 x.f3.f2,.int .i64 x.f3.f3,.int .i64 x.f3.f4,.int .i64 x.f3.f5,.int .i64 x.f3.f6,.int .i64 x.f3.f7,.int .i64 x.f3.f8,.int .i64 x.f3.f9,.int .i64 x.f4.f0,.int .i64 x.f4.f1,.int .i64 x.f4.f2.f0,.int .i64 x.f4.f2.f1,.int .i64 x.f4.f2.f2,.int .i64 x.f4.f2.f3,.int .i64 x.f4.f2.f4,.int .i64 x.f4.f2.f5,.int .i64 x.f4.f2.f6,.int .i64 x.f4.f2.f7,.int .i64 x.f4.f2.f8,.int .i64 x.f4.f2.f9,.slice A25 x.f5.length c25] ∧ x.f5.length ≤ c25 ∧ (Kd.int .i64).C w A25 x.f5.length x.f5 := by
  obtain ⟨_, _, rfl, rfl, ⟨_, _, rfl, rfl, ⟨_, _, rfl, rfl, ⟨_, _, rfl, s3, ⟨_, _, rfl, s13, ⟨A25, c25, rfl, l25, g25⟩⟩⟩⟩⟩⟩ := h
  obtain rfl := k44_open s3
  obtain rfl := k53_open s13
  exact ⟨A25, c25, rfl, l25, g25⟩
theorem k88_openM {w : World} {base : Nat} {ok : Nat → Prop} {x : S88} {cs : List Value} (h : k88.M w base ok x cs) : ∃ v25, cs = [.int .i64 x.f0,.int .i64 x.f1,.int .i64 x.f2,.int .i64 x.f3.f0,.int .i64 x.f3.f1,.int .i64 x.f3.f2,.int .i64 x.f3.f3,.int .i64 x.f3.f4,.int .i64 x.f3.f5,.int .i64 x.f3.f6,.int .i64 x.f3.f7,.int .i64 x.f3.f8,.int .i64 x.f3.f9,.int .i64 x.f4.f0,.int .i64 x.f4.f1,.int .i64 x.f4.f2.f0,.int .i64 x.f4.f2.f1,.int .i64 x.f4.f2.f2,.int .i64 x.f4.f2.f3,.int .i64 x.f4.f2.f4,.int .i64 x.f4.f2.f5,.int .i64 x.f4.f2.f6,.int .i64 x.f4.f2.f7,.int .i64 x.f4.f2.f8,.int .i64 x.f4.f2.f9,v25] ∧ (Kd.int .i64).R 3 w base ok v25 x.f5 := by
  obtain ⟨_, _, rfl, rfl, ⟨_, _, rfl, rfl, ⟨_, _, rfl, rfl, ⟨_, _, rfl, s3, ⟨_, _, rfl, s13, ⟨v25, rfl, g25⟩⟩⟩⟩⟩⟩ := h
  obtain rfl := k44_openM s3
  obtain rfl := k53_openM s13
  exact ⟨v25, rfl, g25⟩
abbrev d88 (x : S88) (v25 : Value) : List Value := [.int .i64 x.f0,.int .i64 x.f1,.int .i64 x.f2,.int .i64 x.f3.f0,.int .i64 x.f3.f1,.int .i64 x.f3.f2,.int .i64 x.f3.f3,.int .i64 x.f3.f4,.int .i64 x.f3.f5,.int .i64 x.f3.f6,.int .i64 x.f3.f7,.int .i64 x.f3.f8,.int .i64 x.f3.f9,.int .i64 x.f4.f0,.int .i64 x.f4.f1,.int .i64 x.f4.f2.f0,.int .i64 x.f4.f2.f1,.int .i64 x.f4.f2.f2,.int .i64 x.f4.f2.f3,.int .i64 x.f4.f2.f4,.int .i64 x.f4.f2.f5,.int .i64 x.f4.f2.f6,.int .i64 x.f4.f2.f7,.int .i64 x.f4.f2.f8,.int .i64 x.f4.f2.f9,v25]
theorem k88_mk (w : World) (x : S88) {A25 : Option Addr} {c25 : Nat} (l25 : x.f5.length ≤ c25) (g25 : (Kd.int .i64).C w A25 x.f5.length x.f5) : k88.K w x (d88 x (.slice A25 x.f5.length c25)) := ⟨[_],_,rfl,rfl,⟨[_],_,rfl,rfl,⟨[_],_,rfl,rfl,⟨(d44 _),_,rfl,(k44_mk w x.f3 ),⟨(d53 _),_,rfl,(k53_mk w x.f4 ),⟨A25, c25, rfl, l25, g25⟩⟩⟩⟩⟩⟩
theorem k88_mkM (w : World) (base : Nat) (ok : Nat → Prop) (x : S88) {v25 : Value} (g25 : (Kd.int .i64).R 3 w base ok v25 x.f5) : k88.M w base ok x (d88 x v25) := ⟨[_],_,rfl,rfl,⟨[_],_,rfl,rfl,⟨[_],_,rfl,rfl,⟨(d44 _),_,rfl,(k44_mkM w base ok x.f3 ),⟨(d53 _),_,rfl,(k53_mkM w base ok x.f4 ),⟨v25, rfl, g25⟩⟩⟩⟩⟩⟩
def rd_T88 (xs : List S88) (i : Int) : S88 := xs.getD i.toNat z88
theorem at_T88 {w : World} {A : Option Addr} {n : Nat} {xs : List S88} (h : Kd.C k88 w A n xs) (i : Int) (h0 : 0 ≤ i) (h1 : i < n) : ∃ ad A25 c25, A = some ad ∧ w.cell? (ad.add (i.toNat * 26)) = some (.int .i64 (rd_T88 xs i).f0) ∧ CS w (ad.add (i.toNat * 26)) N_25 (d88 (rd_T88 xs i) (.slice A25 (rd_T88 xs i).f5.length c25)).tail ((rd_T88 xs i).f5.length ≤ c25 ∧ (Kd.int .i64).C w A25 (rd_T88 xs i).f5.length (rd_T88 xs i).f5) := by
  obtain ⟨ad, c, e, _, hK, hc0⟩ := Kd.C_get h z88 i h0 h1
  have hc : ∀ j u, c[j]? = some u → w.cell? (ad.add (i.toNat * 26 + j)) = some u := hc0
  obtain ⟨A25, c25, rfl, l25, g25⟩ := k88_open hK
  exact ⟨ad, A25, c25, e, hc 0 _ rfl, CS_mk hc rfl ⟨l25, g25⟩⟩
theorem at_R88 {w : World} {A : Option Addr} {n : Nat} {xs : List S88} (h : Kd.C k88 w A n xs) (i : Int) (h0 : 0 ≤ i) (h1 : i < n) : ∃ ad A25 c25, A = some ad ∧ RS w (ad.add (i.toNat * 26)) (d88 (rd_T88 xs i) (.slice A25 (rd_T88 xs i).f5.length c25)) ∧ (rd_T88 xs i).f5.length ≤ c25 ∧ (Kd.int .i64).C w A25 (rd_T88 xs i).f5.length (rd_T88 xs i).f5 := by
  obtain ⟨ad, c, e, _, hK, hc0⟩ := Kd.C_get h z88 i h0 h1
  have hc : ∀ j u, c[j]? = some u → w.cell? (ad.add (i.toNat * 26 + j)) = some u := hc0
  obtain ⟨A25, c25, rfl, l25, g25⟩ := k88_open hK
  exact ⟨ad, A25, c25, e, rI hc, l25, g25⟩

/-! #### struct type 164 -/
structure S164 where
  f0 : Int
  f1 : Int
  f2 : Int
  f3 : Int
def z164 : S164 := ⟨(0 : Int), (0 : Int), (0 : Int), (0 : Int)⟩
def k164 : Kd S164 := Kd.iso (Kd.pair (Kd.int .i64) (Kd.pair (Kd.int .i64) (Kd.pair (Kd.int .i64) (Kd.int .i64)))) (fun x : S164 => (x.f0, x.f1, x.f2, x.f3))
theorem k164_open {w : World} {x : S164} {cs : List Value} (h : k164.K w x cs) : cs = [.int .i64 x.f0,.int .i64 x.f1,.int .i64 x.f2,.int .i64 x.f3] := by
  obtain ⟨_, _, rfl, rfl, ⟨_, _, rfl, rfl, ⟨_, _, rfl, rfl, rfl⟩⟩⟩ := h
  exact rfl
theorem k164_openM {w : World} {base : Nat} {ok : Nat → Prop} {x : S164} {cs : List Value} (h : k164.M w base ok x cs) : cs = [.int .i64 x.f0,.int .i64 x.f1,.int .i64 x.f2,.int .i64 x.f3] := by
  obtain ⟨_, _, rfl, rfl, ⟨_, _, rfl, rfl, ⟨_, _, rfl, rfl, rfl⟩⟩⟩ := h
  exact rfl
abbrev d164 (x : S164) : List Value := [.int .i64 x.f0,.int .i64 x.f1,.int .i64 x.f2,.int .i64 x.f3]
theorem k164_mk (w : World) (x : S164)  : k164.K w x (d164 x) := ⟨[_],_,rfl,rfl,⟨[_],_,rfl,rfl,⟨[_],_,rfl,rfl,rfl⟩⟩⟩
theorem k164_mkM (w : World) (base : Nat) (ok : Nat → Prop) (x : S164)  : k164.M w base ok x (d164 x) := ⟨[_],_,rfl,rfl,⟨[_],_,rfl,rfl,⟨[_],_,rfl,rfl,rfl⟩⟩⟩
def rd_T164 (xs : List S164) (i : Int) : S164 := xs.getD i.toNat z164
theorem at_T164 {w : World} {A : Option Addr} {n : Nat} {xs : List S164} (h : Kd.C k164 w A n xs) (i : Int) (h0 : 0 ≤ i) (h1 : i < n) : ∃ ad , A = some ad ∧ w.cell? (ad.add (i.toNat * 4)) = some (.int .i64 (rd_T164 xs i).f0) ∧ CS w (ad.add (i.toNat * 4)) N_2 (d164 (rd_T164 xs i)).tail (w.cell? ⟨(ad.add (i.toNat * 4)).block, (ad.add (i.toNat * 4)).off + 3, none⟩ = some (.int .i64 (rd_T164 xs i).f3)) := by
  obtain ⟨ad, c, e, _, hK, hc0⟩ := Kd.C_get h z164 i h0 h1
  have hc : ∀ j u, c[j]? = some u → w.cell? (ad.add (i.toNat * 4 + j)) = some u := hc0
  obtain rfl := k164_open hK
  exact ⟨ad, e, hc 0 _ rfl, CS_mk hc rfl (by rw [← add_field _ _ 3 (by omega)]; exact hc 3 _ rfl)⟩
theorem at_R164 {w : World} {A : Option Addr} {n : Nat} {xs : List S164} (h : Kd.C k164 w A n xs) (i : Int) (h0 : 0 ≤ i) (h1 : i < n) : ∃ ad , A = some ad ∧ RS w (ad.add (i.toNat * 4)) (d164 (rd_T164 xs i)) := by
  obtain ⟨ad, c, e, _, hK, hc0⟩ := Kd.C_get h z164 i h0 h1
  have hc : ∀ j u, c[j]? = some u → w.cell? (ad.add (i.toNat * 4 + j)) = some u := hc0
  obtain rfl := k164_open hK
  exact ⟨ad, e, rI hc⟩

/-! #### struct type 166 -/
structure S166 where
  f0 : Int
  f1 : Int
def z166 : S166 := ⟨(0 : Int), (0 : Int)⟩
def k166 : Kd S166 := Kd.iso (Kd.pair (Kd.int .i64) (Kd.int .i64)) (fun x : S166 => (x.f0, x.f1))
theorem k166_open {w : World} {x : S166} {cs : List Value} (h : k166.K w x cs) : cs = [.int .i64 x.f0,.int .i64 x.f1] := by
  obtain ⟨_, _, rfl, rfl, rfl⟩ := h
  exact rfl
theorem k166_openM {w : World} {base : Nat} {ok : Nat → Prop} {x : S166} {cs : List Value} (h : k166.M w base ok x cs) : cs = [.int .i64 x.f0,.int .i64 x.f1] := by
  obtain ⟨_, _, rfl, rfl, rfl⟩ := h
  exact rfl
abbrev d166 (x : S166) : List Value := [.int .i64 x.f0,.int .i64 x.f1]
theorem k166_mk (w : World) (x : S166)  : k166.K w x (d166 x) := ⟨[_],_,rfl,rfl,rfl⟩
theorem k166_mkM (w : World) (base : Nat) (ok : Nat → Prop) (x : S166)  : k166.M w base ok x (d166 x) := ⟨[_],_,rfl,rfl,rfl⟩
def rd_T166 (xs : List S166) (i : Int) : S166 := xs.getD i.toNat z166
theorem at_T166 {w : World} {A : Option Addr} {n : Nat} {xs : List S166} (h : Kd.C k166 w A n xs) (i : Int) (h0 : 0 ≤ i) (h1 : i < n) : ∃ ad , A = some ad ∧ w.cell? (ad.add (i.toNat * 2)) = some (.int .i64 (rd_T166 xs i).f0) ∧ w.cell? ⟨(ad.add (i.toNat * 2)).block, (ad.add (i.toNat * 2)).off + 1, none⟩ = some (.int .i64 (rd_T166 xs i).f1) := by
  obtain ⟨ad, c, e, _, hK, hc0⟩ := Kd.C_get h z166 i h0 h1
  have hc : ∀ j u, c[j]? = some u → w.cell? (ad.add (i.toNat * 2 + j)) = some u := hc0
  obtain rfl := k166_open hK
  exact ⟨ad, e, hc 0 _ rfl, by rw [← add_field _ _ 1 (by omega)]; exact hc 1 _ rfl⟩
theorem at_R166 {w : World} {A : Option Addr} {n : Nat} {xs : List S166} (h : Kd.C k166 w A n xs) (i : Int) (h0 : 0 ≤ i) (h1 : i < n) : ∃ ad , A = some ad ∧ RS w (ad.add (i.toNat * 2)) (d166 (rd_T166 xs i)) := by
  obtain ⟨ad, c, e, _, hK, hc0⟩ := Kd.C_get h z166 i h0 h1
  have hc : ∀ j u, c[j]? = some u → w.cell? (ad.add (i.toNat * 2 + j)) = some u := hc0
  obtain rfl := k166_open hK
  exact ⟨ad, e, rI hc⟩

def rd_L9 (xs : List (List S164)) (i : Int) : (List S164) := xs.getD i.toNat ([] : List S164)
theorem at_L9 {w : World} {A : Option Addr} {n : Nat} {xs : List (List S164)} (h : Kd.C (Kd.slice 164 k164) w A n xs) (i : Int) (h0 : 0 ≤ i) (h1 : i < n) : ∃ ad A0 c0, A = some ad ∧ w.cell? (ad.add i.toNat) = some (.slice A0 (rd_L9 xs i).length c0) ∧ (rd_L9 xs i).length ≤ c0 ∧ k164.C w A0 (rd_L9 xs i).length (rd_L9 xs i) := by
  obtain ⟨ad, c, e, _, hK, hc0⟩ := Kd.C_get h ([] : List S164) i h0 h1
  have hc : ∀ j u, c[j]? = some u → w.cell? (ad.add (i.toNat * 1 + j)) = some u := hc0
  obtain ⟨A0, c0, rfl, l0, g0⟩ := hK
  exact ⟨ad, A0, c0, e, by have hq := hc 0 _ rfl; rwa [Nat.mul_one, Nat.add_zero] at hq, l0, g0⟩

def rd_L10 (xs : List (List S166)) (i : Int) : (List S166) := xs.getD i.toNat ([] : List S166)
theorem at_L10 {w : World} {A : Option Addr} {n : Nat} {xs : List (List S166)} (h : Kd.C (Kd.slice 166 k166) w A n xs) (i : Int) (h0 : 0 ≤ i) (h1 : i < n) : ∃ ad A0 c0, A = some ad ∧ w.cell? (ad.add i.toNat) = some (.slice A0 (rd_L10 xs i).length c0) ∧ (rd_L10 xs i).length ≤ c0 ∧ k166.C w A0 (rd_L10 xs i).length (rd_L10 xs i) := by
  obtain ⟨ad, c, e, _, hK, hc0⟩ := Kd.C_get h ([] : List S166) i h0 h1
  have hc : ∀ j u, c[j]? = some u → w.cell? (ad.add (i.toNat * 1 + j)) = some u := hc0
  obtain ⟨A0, c0, rfl, l0, g0⟩ := hK
  exact ⟨ad, A0, c0, e, by have hq := hc 0 _ rfl; rwa [Nat.mul_one, Nat.add_zero] at hq, l0, g0⟩

/-! #### struct type 93 -/
structure S93 where
  f0 : Int
  f1 : Int
  f2 : Int
  f3 : Int
  f4 : Int
  f5 : Int
  f6 : S44
  f7 : Int
  f8 : Int
  f9 : Int
  f10 : Int
  f11 : Int
  f12 : Int
  f13 : Int
  f14 : Int
  f15 : (List S164)
  f16 : (List S166)
def z93 : S93 := ⟨(0 : Int), (0 : Int), (0 : Int), (0 : Int), (0 : Int), (0 : Int), z44, (0 : Int), (0 : Int), (0 : Int), (0 : Int), (0 : Int), (0 : Int), (0 : Int), (0 : Int), ([] : List S164), ([] : List S166)⟩
def k93 : Kd S93 := Kd.iso (Kd.pair (Kd.int .i64) (Kd.pair (Kd.int .i64) (Kd.pair (Kd.int .i64) (Kd.pair (Kd.int .i64) (Kd.pair (Kd.int .i64) (Kd.pair (Kd.int .i64) (Kd.pair k44 (Kd.pair (Kd.int .i64) (Kd.pair (Kd.int .i64) (Kd.pair (Kd.int .i64) (Kd.pair (Kd.int .i64) (Kd.pair (Kd.int .i64) (Kd.pair (Kd.int .i64) (Kd.pair (Kd.int .i64) (Kd.pair (Kd.int .i64) (Kd.pair (Kd.slice 164 k164) (Kd.slice 166 k166))))))))))))))))) (fun x : S93 => (x.f0, x.f1, x.f2, x.f3, x.f4, x.f5, x.f6, x.f7, x.f8, x.f9, x.f10, x.f11, x.f12, x.f13, x.f14, x.f15, x.f16))
theorem k93_open {w : World} {x : S93} {cs : List Value} (h : k93.K w x cs) : ∃ A24 c24 A25 c25, cs = [.int .i64 x.f0,.int .i64 x.f1,.int .i64 x.f2,.int .i64 x.f3,.int .i64 x.f4,.int .i64 x.f5,.int .i64 x.f6.f0,.int .i64 x.f6.f1,.int .i64 x.f6.f2,.int .i64 x.f6.f3,.int .i64 x.f6.f4,.int .i64 x.f6.f5,.int .i64 x.f6.f6,.int .i64 x.f6.f7,.int .i64 x.f6.f8,.int .i64 x.f6.f9,.int .i64 x.f7,.int .i64 x.f8,.int .i64 x.f9,.int .i64 x.f10,.int .i64 x.f11,.int .i64 x.f12,.int .i64 x.f13,.int .i64 x.f14,.slice A24 x.f15.length c24,.slice A25 x.f16.length c25] ∧ x.f15.length ≤ c24 ∧ k164.C w A24 x.f15.length x.f15 ∧ x.f16.length ≤ c25 ∧ k166.C w A25 x.f16.length x.f16 := by
  obtain ⟨_, _, rfl, rfl, ⟨_, _, rfl, rfl, ⟨_, _, rfl, rfl, ⟨_, _, rfl, rfl, ⟨_, _, rfl, rfl, ⟨_, _, rfl, rfl, ⟨_, _, rfl, s6, ⟨_, _, rfl, rfl, ⟨_, _, rfl, rfl, ⟨_, _, rfl, rfl, ⟨_, _, rfl, rfl, ⟨_, _, rfl, rfl, ⟨_, _, rfl, rfl, ⟨_, _, rfl, rfl, ⟨_, _, rfl, rfl, ⟨_, _, rfl, ⟨A24, c24, rfl, l24, g24⟩, ⟨A25, c25, rfl, l25, g25⟩⟩⟩⟩⟩⟩⟩⟩⟩⟩⟩⟩⟩⟩⟩⟩⟩ := h
  obtain rfl := k44_open s6
  exact ⟨A24, c24, A25, c25, rfl, l24, g24, l25, g25⟩
theorem k93_openM {w : World} {base : Nat} {ok : Nat → Prop} {x : S93} {cs : List Value} (h : k93.M w base ok x cs) : ∃ v24 v25, cs = [.int .i64 x.f0,.int .i64 x.f1,.int .i64 x.f2,.int .i64 x.f3,.int .i64 x.f4,.int .i64 x.f5,.int .i64 x.f6.f0,.int .i64 x.f6.f1,.int .i64 x.f6.f2,.int .i64 x.f6.f3,.int .i64 x.f6.f4,.int .i64 x.f6.f5,.int .i64 x.f6.f6,.int .i64 x.f6.f7,.int .i64 x.f6.f8,.int .i64 x.f6.f9,.int .i64 x.f7,.int .i64 x.f8,.int .i64 x.f9,.int .i64 x.f10,.int .i64 x.f11,.int .i64 x.f12,.int .i64 x.f13,.int .i64 x.f14,v24,v25] ∧ k164.R 164 w base ok v24 x.f15 ∧ k166.R 166 w base ok v25 x.f16 := by
  obtain ⟨_, _, rfl, rfl, ⟨_, _, rfl, rfl, ⟨_, _, rfl, rfl, ⟨_, _, rfl, rfl, ⟨_, _, rfl, rfl, ⟨_, _, rfl, rfl, ⟨_, _, rfl, s6, ⟨_, _, rfl, rfl, ⟨_, _, rfl, rfl, ⟨_, _, rfl, rfl, ⟨_, _, rfl, rfl, ⟨_, _, rfl, rfl, ⟨_, _, rfl, rfl, ⟨_, _, rfl, rfl, ⟨_, _, rfl, rfl, ⟨_, _, rfl, ⟨v24, rfl, g24⟩, ⟨v25, rfl, g25⟩⟩⟩⟩⟩⟩⟩⟩⟩⟩⟩⟩⟩⟩⟩⟩⟩ := h
  obtain rfl := k44_openM s6
  exact ⟨v24,v25, rfl, g24, g25⟩
abbrev d93 (x : S93) (v24 v25 : Value) : List Value := [.int .i64 x.f0,.int .i64 x.f1,.int .i64 x.f2,.int .i64 x.f3,.int .i64 x.f4,.int .i64 x.f5,.int .i64 x.f6.f0,.int .i64 x.f6.f1,.int .i64 x.f6.f2,.int .i64 x.f6.f3,.int .i64 x.f6.f4,.int .i64 x.f6.f5,.int .i64 x.f6.f6,.int .i64 x.f6.f7,.int .i64 x.f6.f8,.int .i64 x.f6.f9,.int .i64 x.f7,.int .i64 x.f8,.int .i64 x.f9,.int .i64 x.f10,.int .i64 x.f11,.int .i64 x.f12,.int .i64 x.f13,.int .i64 x.f14,v24,v25]
theorem k93_mk (w : World) (x : S93) {A24 : Option Addr} {c24 : Nat} (l24 : x.f15.length ≤ c24) (g24 : k164.C w A24 x.f15.length x.f15) {A25 : Option Addr} {c25 : Nat} (l25 : x.f16.length ≤ c25) (g25 : k166.C w A25 x.f16.length x.f16) : k93.K w x (d93 x (.slice A24 x.f15.length c24) (.slice A25 x.f16.length c25)) := ⟨[_],_,rfl,rfl,⟨[_],_,rfl,rfl,⟨[_],_,rfl,rfl,⟨[_],_,rfl,rfl,⟨[_],_,rfl,rfl,⟨[_],_,rfl,rfl,⟨(d44 _),_,rfl,(k44_mk w x.f6 ),⟨[_],_,rfl,rfl,⟨[_],_,rfl,rfl,⟨[_],_,rfl,rfl,⟨[_],_,rfl,rfl,⟨[_],_,rfl,rfl,⟨[_],_,rfl,rfl,⟨[_],_,rfl,rfl,⟨[_],_,rfl,rfl,⟨[_],_,rfl,⟨A24, c24, rfl, l24, g24⟩,⟨A25, c25, rfl, l25, g25⟩⟩⟩⟩⟩⟩⟩⟩⟩⟩⟩⟩⟩⟩⟩⟩⟩
theorem k93_mkM (w : World) (base : Nat) (ok : Nat → Prop) (x : S93) {v24 : Value} (g24 : k164.R 164 w base ok v24 x.f15) {v25 : Value} (g25 : k166.R 166 w base ok v25 x.f16) : k93.M w base ok x (d93 x v24 v25) := ⟨[_],_,rfl,rfl,⟨[_],_,rfl,rfl,⟨[_],_,rfl,rfl,⟨[_],_,rfl,rfl,⟨[_],_,rfl,rfl,⟨[_],_,rfl,rfl,⟨(d44 _),_,rfl,(k44_mkM w base ok x.f6 ),⟨[_],_,rfl,rfl,⟨[_],_,rfl,rfl,⟨[_],_,rfl,rfl,⟨[_],_,rfl,rfl,⟨[_],_,rfl,rfl,⟨[_],_,rfl,rfl,⟨[_],_,rfl,rfl,⟨[_],_,rfl,rfl,⟨[_],_,rfl,⟨v24, rfl, g24⟩,⟨v25, rfl, g25⟩⟩⟩⟩⟩⟩⟩⟩⟩⟩⟩⟩⟩⟩⟩⟩⟩
def rd_T93 (xs : List S93) (i : Int) : S93 := xs.getD i.toNat z93
theorem at_T93 {w : World} {A : Option Addr} {n : Nat} {xs : List S93} (h : Kd.C k93 w A n xs) (i : Int) (h0 : 0 ≤ i) (h1 : i < n) : ∃ ad A24 c24 A25 c25, A = some ad ∧ w.cell? (ad.add (i.toNat * 26)) = some (.int .i64 (rd_T93 xs i).f0) ∧ CS w (ad.add (i.toNat * 26)) N_25 (d93 (rd_T93 xs i) (.slice A24 (rd_T93 xs i).f15.length c24) (.slice A25 (rd_T93 xs i).f16.length c25)).tail ((rd_T93 xs i).f15.length ≤ c24 ∧ k164.C w A24 (rd_T93 xs i).f15.length (rd_T93 xs i).f15 ∧ (rd_T93 xs i).f16.length ≤ c25 ∧ k166.C w A25 (rd_T93 xs i).f16.length (rd_T93 xs i).f16) := by
  obtain ⟨ad, c, e, _, hK, hc0⟩ := Kd.C_get h z93 i h0 h1
  have hc : ∀ j u, c[j]? = some u → w.cell? (ad.add (i.toNat * 26 + j)) = some u := hc0
  obtain ⟨A24, c24, A25, c25, rfl, l24, g24, l25, g25⟩ := k93_open hK
  exact ⟨ad, A24, c24, A25, c25, e, hc 0 _ rfl, CS_mk hc rfl ⟨l24, g24, l25, g25⟩⟩
theorem at_R93 {w : World} {A : Option Addr} {n : Nat} {xs : List S93} (h : Kd.C k93 w A n xs) (i : Int) (h0 : 0 ≤ i) (h1 : i < n) : ∃ ad A24 c24 A25 c25, A = some ad ∧ RS w (ad.add (i.toNat * 26)) (d93 (rd_T93 xs i) (.slice A24 (rd_T93 xs i).f15.length c24) (.slice A25 (rd_T93 xs i).f16.length c25)) ∧ (rd_T93 xs i).f15.length ≤ c24 ∧ k164.C w A24 (rd_T93 xs i).f15.length (rd_T93 xs i).f15 ∧ (rd_T93 xs i).f16.length ≤ c25 ∧ k166.C w A25 (rd_T93 xs i).f16.length (rd_T93 xs i).f16 := by
  obtain ⟨ad, c, e, _, hK, hc0⟩ := Kd.C_get h z93 i h0 h1
  have hc : ∀ j u, c[j]? = some u → w.cell? (ad.add (i.toNat * 26 + j)) = some u := hc0
  obtain ⟨A24, c24, A25, c25, rfl, l24, g24, l25, g25⟩ := k93_open hK
  exact ⟨ad, A24, c24, A25, c25, e, rI hc, l24, g24, l25, g25⟩

/-! #### struct type 125 -/
structure S125 where
  f0 : Int
  f1 : Int
  f2 : Int
  f3 : Int
  f4 : Int
  f5 : Int
  f6 : Int
  f7 : Int
  f8 : Int
  f9 : Int
def z125 : S125 := ⟨(0 : Int), (0 : Int), (0 : Int), (0 : Int), (0 : Int), (0 : Int), (0 : Int), (0 : Int), (0 : Int), (0 : Int)⟩
def k125 : Kd S125 := Kd.iso (Kd.pair (Kd.int .i64) (Kd.pair (Kd.int .i64) (Kd.pair (Kd.int .i64) (Kd.pair (Kd.int .i64) (Kd.pair (Kd.int .i64) (Kd.pair (Kd.int .i64) (Kd.pair (Kd.int .i64) (Kd.pair (Kd.int .i64) (Kd.pair (Kd.int .i64) (Kd.int .i64)))))))))) (fun x : S125 => (x.f0, x.f1, x.f2, x.f3, x.f4, x.f5, x.f6, x.f7, x.f8, x.f9))
theorem k125_open {w : World} {x : S125} {cs : List Value} (h : k125.K w x cs) : cs = [.int .i64 x.f0,.int .i64 x.f1,.int .i64 x.f2,.int .i64 x.f3,.int .i64 x.f4,.int .i64 x.f5,.int .i64 x.f6,.int .i64 x.f7,.int .i64 x.f8,.int .i64 x.f9] := by
  obtain ⟨_, _, rfl, rfl, ⟨_, _, rfl, rfl, ⟨_, _, rfl, rfl, ⟨_, _, rfl, rfl, ⟨_, _, rfl, rfl, ⟨_, _, rfl, rfl, ⟨_, _, rfl, rfl, ⟨_, _, rfl, rfl, ⟨_, _, rfl, rfl, rfl⟩⟩⟩⟩⟩⟩⟩⟩⟩ := h
  exact rfl
theorem k125_openM {w : World} {base : Nat} {ok : Nat → Prop} {x : S125} {cs : List Value} (h : k125.M w base ok x cs) : cs = [.int .i64 x.f0,.int .i64 x.f1,.int .i64 x.f2,.int .i64 x.f3,.int .i64 x.f4,.int .i64 x.f5,.int .i64 x.f6,.int .i64 x.f7,.int .i64 x.f8,.int .i64 x.f9] := by
  obtain ⟨_, _, rfl, rfl, ⟨_, _, rfl, rfl, ⟨_, _, rfl, rfl, ⟨_, _, rfl, rfl, ⟨_, _, rfl, rfl, ⟨_, _, rfl, rfl, ⟨_, _, rfl, rfl, ⟨_, _, rfl, rfl, ⟨_, _, rfl, rfl, rfl⟩⟩⟩⟩⟩⟩⟩⟩⟩ := h
  exact rfl
abbrev d125 (x : S125) : List Value := [.int .i64 x.f0,.int .i64 x.f1,.int .i64 x.f2,.int .i64 x.f3,.int .i64 x.f4,.int .i64 x.f5,.int .i64 x.f6,.int .i64 x.f7,.int .i64 x.f8,.int .i64 x.f9]
theorem k125_mk (w : World) (x : S125)  : k125.K w x (d125 x) := ⟨[_],_,rfl,rfl,⟨[_],_,rfl,rfl,⟨[_],_,rfl,rfl,⟨[_],_,rfl,rfl,⟨[_],_,rfl,rfl,⟨[_],_,rfl,rfl,⟨[_],_,rfl,rfl,⟨[_],_,rfl,rfl,⟨[_],_,rfl,rfl,rfl⟩⟩⟩⟩⟩⟩⟩⟩⟩
theorem k125_mkM (w : World) (base : Nat) (ok : Nat → Prop) (x : S125)  : k125.M w base ok x (d125 x) := ⟨[_],_,rfl,rfl,⟨[_],_,rfl,rfl,⟨[_],_,rfl,rfl,⟨[_],_,rfl,rfl,⟨[_],_,rfl,rfl,⟨[_],_,rfl,rfl,⟨[_],_,rfl,rfl,⟨[_],_,rfl,rfl,⟨[_],_,rfl,rfl,rfl⟩⟩⟩⟩⟩⟩⟩⟩⟩
def rd_T125 (xs : List S125) (i : Int) : S125 := xs.getD i.toNat z125
theorem at_T125 {w : World} {A : Option Addr} {n : Nat} {xs : List S125} (h : Kd.C k125 w A n xs) (i : Int) (h0 : 0 ≤ i) (h1 : i < n) : ∃ ad , A = some ad ∧ w.cell? (ad.add (i.toNat * 10)) = some (.int .i64 (rd_T125 xs i).f0) ∧ CS w (ad.add (i.toNat * 10)) N_8 (d125 (rd_T125 xs i)).tail (w.cell? ⟨(ad.add (i.toNat * 10)).block, (ad.add (i.toNat * 10)).off + 9, none⟩ = some (.int .i64 (rd_T125 xs i).f9)) := by
  obtain ⟨ad, c, e, _, hK, hc0⟩ := Kd.C_get h z125 i h0 h1
  have hc : ∀ j u, c[j]? = some u → w.cell? (ad.add (i.toNat * 10 + j)) = some u := hc0
  obtain rfl := k125_open hK
  exact ⟨ad, e, hc 0 _ rfl, CS_mk hc rfl (by rw [← add_field _ _ 9 (by omega)]; exact hc 9 _ rfl)⟩
theorem at_R125 {w : World} {A : Option Addr} {n : Nat} {xs : List S125} (h : Kd.C k125 w A n xs) (i : Int) (h0 : 0 ≤ i) (h1 : i < n) : ∃ ad , A = some ad ∧ RS w (ad.add (i.toNat * 10)) (d125 (rd_T125 xs i)) := by
  obtain ⟨ad, c, e, _, hK, hc0⟩ := Kd.C_get h z125 i h0 h1
  have hc : ∀ j u, c[j]? = some u → w.cell? (ad.add (i.toNat * 10 + j)) = some u := hc0
  obtain rfl := k125_open hK
  exact ⟨ad, e, rI hc⟩

/-! #### struct type 127 -/
structure S127 where
  f0 : Int
  f1 : Int
  f2 : S125
def z127 : S127 := ⟨(0 : Int), (0 : Int), z125⟩
def k127 : Kd S127 := Kd.iso (Kd.pair (Kd.int .i64) (Kd.pair (Kd.int .i64) k125)) (fun x : S127 => (x.f0, x.f1, x.f2))
theorem k127_open {w : World} {x : S127} {cs : List Value} (h : k127.K w x cs) : cs = [.int .i64 x.f0,.int .i64 x.f1,.int .i64 x.f2.f0,.int .i64 x.f2.f1,.int .i64 x.f2.f2,.int .i64 x.f2.f3,.int .i64 x.f2.f4,.int .i64 x.f2.f5,.int .i64 x.f2.f6,.int .i64 x.f2.f7,.int .i64 x.f2.f8,.int .i64 x.f2.f9] := by
  obtain ⟨_, _, rfl, rfl, ⟨_, _, rfl, rfl, s2⟩⟩ := h
  obtain rfl := k125_open s2
  exact rfl
theorem k127_openM {w : World} {base : Nat} {ok : Nat → Prop} {x : S127} {cs : List Value} (h : k127.M w base ok x cs) : cs = [.int .i64 x.f0,.int .i64 x.f1,.int .i64 x.f2.f0,.int .i64 x.f2.f1,.int .i64 x.f2.f2,.int .i64 x.f2.f3,.int .i64 x.f2.f4,.int .i64 x.f2.f5,.int .i64 x.f2.f6,.int .i64 x.f2.f7,.int .i64 x.f2.f8,.int .i64 x.f2.f9] := by
  obtain ⟨_, _, rfl, rfl, ⟨_, _, rfl, rfl, s2⟩⟩ := h
  obtain rfl := k125_openM s2
  exact rfl
abbrev d127 (x : S127) : List Value := [.int .i64 x.f0,.int .i64 x.f1,.int .i64 x.f2.f0,.int .i64 x.f2.f1,.int .i64 x.f2.f2,.int .i64 x.f2.f3,.int .i64 x.f2.f4,.int .i64 x.f2.f5,.int .i64 x.f2.f6,.int .i64 x.f2.f7,.int .i64 x.f2.f8,.int .i64 x.f2.f9]
theorem k127_mk (w : World) (x : S127)  : k127.K w x (d127 x) := ⟨[_],_,rfl,rfl,⟨[_],_,rfl,rfl,(k125_mk w x.f2 )⟩⟩
theorem k127_mkM (w : World) (base : Nat) (ok : Nat → Prop) (x : S127)  : k127.M w base ok x (d127 x) := ⟨[_],_,rfl,rfl,⟨[_],_,rfl,rfl,(k125_mkM w base ok x.f2 )⟩⟩
def rd_T127 (xs : List S127) (i : Int) : S127 := xs.getD i.toNat z127
theorem at_T127 {w : World} {A : Option Addr} {n : Nat} {xs : List S127} (h : Kd.C k127 w A n xs) (i : Int) (h0 : 0 ≤ i) (h1 : i < n) : ∃ ad , A = some ad ∧ w.cell? (ad.add (i.toNat * 12)) = some (.int .i64 (rd_T127 xs i).f0) ∧ CS w (ad.add (i.toNat * 12)) N_10 (d127 (rd_T127 xs i)).tail (w.cell? ⟨(ad.add (i.toNat * 12)).block, (ad.add (i.toNat * 12)).off + 11, none⟩ = some (.int .i64 (rd_T127 xs i).f2.f9)) := by
  obtain ⟨ad, c, e, _, hK, hc0⟩ := Kd.C_get h z127 i h0 h1
  have hc : ∀ j u, c[j]? = some u → w.cell? (ad.add (i.toNat * 12 + j)) = some u := hc0
  obtain rfl := k127_open hK
  exact ⟨ad, e, hc 0 _ rfl, CS_mk hc rfl (by rw [← add_field _ _ 11 (by omega)]; exact hc 11 _ rfl)⟩
theorem at_R127 {w : World} {A : Option Addr} {n : Nat} {xs : List S127} (h : Kd.C k127 w A n xs) (i : Int) (h0 : 0 ≤ i) (h1 : i < n) : ∃ ad , A = some ad ∧ RS w (ad.add (i.toNat * 12)) (d127 (rd_T127 xs i)) := by
  obtain ⟨ad, c, e, _, hK, hc0⟩ := Kd.C_get h z127 i h0 h1
  have hc : ∀ j u, c[j]? = some u → w.cell? (ad.add (i.toNat * 12 + j)) = some u := hc0
  obtain rfl := k127_open hK
  exact ⟨ad, e, rI hc⟩

def rd_L14 (xs : List (List S127)) (i : Int) : (List S127) := xs.getD i.toNat ([] : List S127)
theorem at_L14 {w : World} {A : Option Addr} {n : Nat} {xs : List (List S127)} (h : Kd.C (Kd.slice 127 k127) w A n xs) (i : Int) (h0 : 0 ≤ i) (h1 : i < n) : ∃ ad A0 c0, A = some ad ∧ w.cell? (ad.add i.toNat) = some (.slice A0 (rd_L14 xs i).length c0) ∧ (rd_L14 xs i).length ≤ c0 ∧ k127.C w A0 (rd_L14 xs i).length (rd_L14 xs i) := by
  obtain ⟨ad, c, e, _, hK, hc0⟩ := Kd.C_get h ([] : List S127) i h0 h1
  have hc : ∀ j u, c[j]? = some u → w.cell? (ad.add (i.toNat * 1 + j)) = some u := hc0
  obtain ⟨A0, c0, rfl, l0, g0⟩ := hK
  exact ⟨ad, A0, c0, e, by have hq := hc 0 _ rfl; rwa [Nat.mul_one, Nat.add_zero] at hq, l0, g0⟩

/-! #### struct type 123 -/
structure S123 where
  f0 : Int
  f1 : (List S127)
def z123 : S123 := ⟨(0 : Int), ([] : List S127)⟩
def k123 : Kd S123 := Kd.iso (Kd.pair (Kd.int .i64) (Kd.slice 127 k127)) (fun x : S123 => (x.f0, x.f1))
theorem k123_open {w : World} {x : S123} {cs : List Value} (h : k123.K w x cs) : ∃ A1 c1, cs = [.int .i64 x.f0,.slice A1 x.f1.length c1] ∧ x.f1.length ≤ c1 ∧ k127.C w A1 x.f1.length x.f1 := by
  obtain ⟨_, _, rfl, rfl, ⟨A1, c1, rfl, l1, g1⟩⟩ := h
  exact ⟨A1, c1, rfl, l1, g1⟩
theorem k123_openM {w : World} {base : Nat} {ok : Nat → Prop} {x : S123} {cs : List Value} (h : k123.M w base ok x cs) : ∃ v1, cs = [.int .i64 x.f0,v1] ∧ k127.R 127 w base ok v1 x.f1 := by
  obtain ⟨_, _, rfl, rfl, ⟨v1, rfl, g1⟩⟩ := h
  exact ⟨v1, rfl, g1⟩
abbrev d123 (x : S123) (v1 : Value) : List Value := [.int .i64 x.f0,v1]
theorem k123_mk (w : World) (x : S123) {A1 : Option Addr} {c1 : Nat} (l1 : x.f1.length ≤ c1) (g1 : k127.C w A1 x.f1.length x.f1) : k123.K w x (d123 x (.slice A1 x.f1.length c1)) := ⟨[_],_,rfl,rfl,⟨A1, c1, rfl, l1, g1⟩⟩
theorem k123_mkM (w : World) (base : Nat) (ok : Nat → Prop) (x : S123) {v1 : Value} (g1 : k127.R 127 w base ok v1 x.f1) : k123.M w base ok x (d123 x v1) := ⟨[_],_,rfl,rfl,⟨v1, rfl, g1⟩⟩
def rd_T123 (xs : List S123) (i : Int) : S123 := xs.getD i.toNat z123
theorem at_T123 {w : World} {A : Option Addr} {n : Nat} {xs : List S123} (h : Kd.C k123 w A n xs) (i : Int) (h0 : 0 ≤ i) (h1 : i < n) : ∃ ad A1 c1, A = some ad ∧ w.cell? (ad.add (i.toNat * 2)) = some (.int .i64 (rd_T123 xs i).f0) ∧ w.cell? ⟨(ad.add (i.toNat * 2)).block, (ad.add (i.toNat * 2)).off + 1, none⟩ = some (.slice A1 (rd_T123 xs i).f1.length c1) ∧ (rd_T123 xs i).f1.length ≤ c1 ∧ k127.C w A1 (rd_T123 xs i).f1.length (rd_T123 xs i).f1 := by
  obtain ⟨ad, c, e, _, hK, hc0⟩ := Kd.C_get h z123 i h0 h1
  have hc : ∀ j u, c[j]? = some u → w.cell? (ad.add (i.toNat * 2 + j)) = some u := hc0
  obtain ⟨A1, c1, rfl, l1, g1⟩ := k123_open hK
  exact ⟨ad, A1, c1, e, hc 0 _ rfl, by rw [← add_field _ _ 1 (by omega)]; exact hc 1 _ rfl, l1, g1⟩
theorem at_R123 {w : World} {A : Option Addr} {n : Nat} {xs : List S123} (h : Kd.C k123 w A n xs) (i : Int) (h0 : 0 ≤ i) (h1 : i < n) : ∃ ad A1 c1, A = some ad ∧ RS w (ad.add (i.toNat * 2)) (d123 (rd_T123 xs i) (.slice A1 (rd_T123 xs i).f1.length c1)) ∧ (rd_T123 xs i).f1.length ≤ c1 ∧ k127.C w A1 (rd_T123 xs i).f1.length (rd_T123 xs i).f1 := by
  obtain ⟨ad, c, e, _, hK, hc0⟩ := Kd.C_get h z123 i h0 h1
  have hc : ∀ j u, c[j]? = some u → w.cell? (ad.add (i.toNat * 2 + j)) = some u := hc0
  obtain ⟨A1, c1, rfl, l1, g1⟩ := k123_open hK
  exact ⟨ad, A1, c1, e, rI hc, l1, g1⟩

/-! #### struct type 129 -/
structure S129 where
  f0 : Int
  f1 : Int
  f2 : Int
  f3 : S125
  f4 : S127
  f5 : (List Int)
def z129 : S129 := ⟨(0 : Int), (0 : Int), (0 : Int), z125, z127, ([] : List Int)⟩
def k129 : Kd S129 := Kd.iso (Kd.pair (Kd.int .i64) (Kd.pair (Kd.int .i64) (Kd.pair (Kd.int .i64) (Kd.pair k125 (Kd.pair k127 (Kd.slice 3 (Kd.int .i64))))))) (fun x : S129 => (x.f0, x.f1, x.f2, x.f3, x.f4, x.f5))
theorem k129_open {w : World} {x : S129} {cs : List Value} (h : k129.K w x cs) : ∃ A25 c25, cs = [.int .i64 x.f0,.int .i64 x.f1,.int .i64 x.f2,.int .i64 x.f3.f0,.int .i64 x.f3.f1,.int .i64 x.f3.f2,.int .i64 x.f3.f3,.int .i64 x.f3.f4,.int .i64 x.f3.f5,.int .i64 x.f3.f6,.int .i64 x.f3.f7,.int .i64 x.f3.f8,.int .i64 x.f3.f9,.int .i64 x.f4.f0,.int .i64 x.f4.f1,.int .i64 x.f4.f2.f0,.int .i64 x.f4.f2.f1,.int .i64 x.f4.f2.f2,.int .i64 x.f4.f2.f3,.int .i64 x.f4.f2.f4,.int .i64 x.f4.f2.f5,.int .i64 x.f4.f2.f6,.int .i64 x.f4.f2.f7,.int .i64 x.f4.f2.f8,.int .i64 x.f4.f2.f9,.slice A25 x.f5.length c25] ∧ x.f5.length ≤ c25 ∧ (Kd.int .i64).C w A25 x.f5.length x.f5 := by
  obtain ⟨_, _, rfl, rfl, ⟨_, _, rfl, rfl, ⟨_, _, rfl, rfl, ⟨_, _, rfl, s3, ⟨_, _, rfl, s13, ⟨A25, c25, rfl, l25, g25⟩⟩⟩⟩⟩⟩ := h
  obtain rfl := k125_open s3
  obtain rfl := k127_open s13
  exact ⟨A25, c25, rfl, l25, g25⟩
theorem k129_openM {w : World} {base : Nat} {ok : Nat → Prop} {x : S129} {cs : List Value} (h : k129.M w base ok x cs) : ∃ v25, cs = [.int .i64 x.f0,.int .i64 x.f1,.int .i64 x.f2,.int .i64 x.f3.f0,.int .i64 x.f3.f1,.int .i64 x.f3.f2,.int .i64 x.f3.f3,.int .i64 x.f3.f4,.int .i64 x.f3.f5,.int .i64 x.f3.f6,.int .i64 x.f3.f7,.int .i64 x.f3.f8,.int .i64 x.f3.f9,.int .i64 x.f4.f0,.int .i64 x.f4.f1,.int .i64 x.f4.f2.f0,.int .i64 x.f4.f2.f1,.int .i64 x.f4.f2.f2,.int .i64 x.f4.f2.f3,.int .i64 x.f4.f2.f4,.int .i64 x.f4.f2.f5,.int .i64 x.f4.f2.f6,.int .i64 x.f4.f2.f7,.int .i64 x.f4.f2.f8,.int .i64 x.f4.f2.f9,v25] ∧ (Kd.int .i64).R 3 w base ok v25 x.f5 := by
  obtain ⟨_, _, rfl, rfl, ⟨_, _, rfl, rfl, ⟨_, _, rfl, rfl, ⟨_, _, rfl, s3, ⟨_, _, rfl, s13, ⟨v25, rfl, g25⟩⟩⟩⟩⟩⟩ := h
  obtain rfl := k125_openM s3
  obtain rfl := k127_openM s13
  exact ⟨v25, rfl, g25⟩
abbrev d129 (x : S129) (v25 : Value) : List Value := [.int .i64 x.f0,.int .i64 x.f1,.int .i64 x.f2,.int .i64 x.f3.f0,.int .i64 x.f3.f1,.int .i64 x.f3.f2,.int .i64 x.f3.f3,.int .i64 x.f3.f4,.int .i64 x.f3.f5,.int .i64 x.f3.f6,.int .i64 x.f3.f7,.int .i64 x.f3.f8,.int .i64 x.f3.f9,.int .i64 x.f4.f0,.int .i64 x.f4.f1,.int .i64 x.f4.f2.f0,.int .i64 x.f4.f2.f1,.int .i64 x.f4.f2.f2,.int .i64 x.f4.f2.f3,.int .i64 x.f4.f2.f4,.int .i64 x.f4.f2.f5,.int .i64 x.f4.f2.f6,.int .i64 x.f4.f2.f7,.int .i64 x.f4.f2.f8,.int .i64 x.f4.f2.f9,v25]
theorem k129_mk (w : World) (x : S129) {A25 : Option Addr} {c25 : Nat} (l25 : x.f5.length ≤ c25) (g25 : (Kd.int .i64).C w A25 x.f5.length x.f5) : k129.K w x (d129 x (.slice A25 x.f5.length c25)) := ⟨[_],_,rfl,rfl,⟨[_],_,rfl,rfl,⟨[_],_,rfl,rfl,⟨(d125 _),_,rfl,(k125_mk w x.f3 ),⟨(d127 _),_,rfl,(k127_mk w x.f4 ),⟨A25, c25, rfl, l25, g25⟩⟩⟩⟩⟩⟩
theorem k129_mkM (w : World) (base : Nat) (ok : Nat → Prop) (x : S129) {v25 : Value} (g25 : (Kd.int .i64).R 3 w base ok v25 x.f5) : k129.M w base ok x (d129 x v25) := ⟨[_],_,rfl,rfl,⟨[_],_,rfl,rfl,⟨[_],_,rfl,rfl,⟨(d125 _),_,rfl,(k125_mkM w base ok x.f3 ),⟨(d127 _),_,rfl,(k127_mkM w base ok x.f4 ),⟨v25, rfl, g25⟩⟩⟩⟩⟩⟩
def rd_T129 (xs : List S129) (i : Int) : S129 := xs.getD i.toNat z129
theorem at_T129 {w : World} {A : Option Addr} {n : Nat} {xs : List S129} (h : Kd.C k129 w A n xs) (i : Int) (h0 : 0 ≤ i) (h1 : i < n) : ∃ ad A25 c25, A = some ad ∧ w.cell? (ad.add (i.toNat * 26)) = some (.int .i64 (rd_T129 xs i).f0) ∧ CS w (ad.add (i.toNat * 26)) N_25 (d129 (rd_T129 xs i) (.slice A25 (rd_T129 xs i).f5.length c25)).tail ((rd_T129 xs i).f5.length ≤ c25 ∧ (Kd.int .i64).C w A25 (rd_T129 xs i).f5.length (rd_T129 xs i).f5) := by
  obtain ⟨ad, c, e, _, hK, hc0⟩ := Kd.C_get h z129 i h0 h1
  have hc : ∀ j u, c[j]? = some u → w.cell? (ad.add (i.toNat * 26 + j)) = some u := hc0
  obtain ⟨A25, c25, rfl, l25, g25⟩ := k129_open hK
  exact ⟨ad, A25, c25, e, hc 0 _ rfl, CS_mk hc rfl ⟨l25, g25⟩⟩
theorem at_R129 {w : World} {A : Option Addr} {n : Nat} {xs : List S129} (h : Kd.C k129 w A n xs) (i : Int) (h0 : 0 ≤ i) (h1 : i < n) : ∃ ad A25 c25, A = some ad ∧ RS w (ad.add (i.toNat * 26)) (d129 (rd_T129 xs i) (.slice A25 (rd_T129 xs i).f5.length c25)) ∧ (rd_T129 xs i).f5.length ≤ c25 ∧ (Kd.int .i64).C w A25 (rd_T129 xs i).f5.length (rd_T129 xs i).f5 := by
  obtain ⟨ad, c, e, _, hK, hc0⟩ := Kd.C_get h z129 i h0 h1
  have hc : ∀ j u, c[j]? = some u → w.cell? (ad.add (i.toNat * 26 + j)) = some u := hc0
  obtain ⟨A25, c25, rfl, l25, g25⟩ := k129_open hK
  exact ⟨ad, A25, c25, e, rI hc, l25, g25⟩

/-! #### struct type 182 -/
structure S182 where
  f0 : Int
  f1 : Int
  f2 : Int
  f3 : Int
def z182 : S182 := ⟨(0 : Int), (0 : Int), (0 : Int), (0 : Int)⟩
def k182 : Kd S182 := Kd.iso (Kd.pair (Kd.int .i64) (Kd.pair (Kd.int .i64) (Kd.pair (Kd.int .i64) (Kd.int .i64)))) (fun x : S182 => (x.f0, x.f1, x.f2, x.f3))
theorem k182_open {w : World} {x : S182} {cs : List Value} (h : k182.K w x cs) : cs = [.int .i64 x.f0,.int .i64 x.f1,.int .i64 x.f2,.int .i64 x.f3] := by
  obtain ⟨_, _, rfl, rfl, ⟨_, _, rfl, rfl, ⟨_, _, rfl, rfl, rfl⟩⟩⟩ := h
  exact rfl
theorem k182_openM {w : World} {base : Nat} {ok : Nat → Prop} {x : S182} {cs : List Value} (h : k182.M w base ok x cs) : cs = [.int .i64 x.f0,.int .i64 x.f1,.int .i64 x.f2,.int .i64 x.f3] := by
  obtain ⟨_, _, rfl, rfl, ⟨_, _, rfl, rfl, ⟨_, _, rfl, rfl, rfl⟩⟩⟩ := h
  exact rfl
abbrev d182 (x : S182) : List Value := [.int .i64 x.f0,.int .i64 x.f1,.int .i64 x.f2,.int .i64 x.f3]
theorem k182_mk (w : World) (x : S182)  : k182.K w x (d182 x) := ⟨[_],_,rfl,rfl,⟨[_],_,rfl,rfl,⟨[_],_,rfl,rfl,rfl⟩⟩⟩
theorem k182_mkM (w : World) (base : Nat) (ok : Nat → Prop) (x : S182)  : k182.M w base ok x (d182 x) := ⟨[_],_,rfl,rfl,⟨[_],_,rfl,rfl,⟨[_],_,rfl,rfl,rfl⟩⟩⟩
def rd_T182 (xs : List S182) (i : Int) : S182 := xs.getD i.toNat z182
theorem at_T182 {w : World} {A : Option Addr} {n : Nat} {xs : List S182} (h : Kd.C k182 w A n xs) (i : Int) (h0 : 0 ≤ i) (h1 : i < n) : ∃ ad , A = some ad ∧ w.cell? (ad.add (i.toNat * 4)) = some (.int .i64 (rd_T182 xs i).f0) ∧ CS w (ad.add (i.toNat * 4)) N_2 (d182 (rd_T182 xs i)).tail (w.cell? ⟨(ad.add (i.toNat * 4)).block, (ad.add (i.toNat * 4)).off + 3, none⟩ = some (.int .i64 (rd_T182 xs i).f3)) := by
  obtain ⟨ad, c, e, _, hK, hc0⟩ := Kd.C_get h z182 i h0 h1
  have hc : ∀ j u, c[j]? = some u → w.cell? (ad.add (i.toNat * 4 + j)) = some u := hc0
  obtain rfl := k182_open hK
  exact ⟨ad, e, hc 0 _ rfl, CS_mk hc rfl (by rw [← add_field _ _ 3 (by omega)]; exact hc 3 _ rfl)⟩
theorem at_R182 {w : World} {A : Option Addr} {n : Nat} {xs : List S182} (h : Kd.C k182 w A n xs) (i : Int) (h0 : 0 ≤ i) (h1 : i < n) : ∃ ad , A = some ad ∧ RS w (ad.add (i.toNat * 4)) (d182 (rd_T182 xs i)) := by
  obtain ⟨ad, c, e, _, hK, hc0⟩ := Kd.C_get h z182 i h0 h1
  have hc : ∀ j u, c[j]? = some u → w.cell? (ad.add (i.toNat * 4 + j)) = some u := hc0
  obtain rfl := k182_open hK
  exact ⟨ad, e, rI hc⟩

/-! #### struct type 184 -/
structure S184 where
  f0 : Int
  f1 : Int
def z184 : S184 := ⟨(0 : Int), (0 : Int)⟩
def k184 : Kd S184 := Kd.iso (Kd.pair (Kd.int .i64) (Kd.int .i64)) (fun x : S184 => (x.f0, x.f1))
theorem k184_open {w : World} {x : S184} {cs : List Value} (h : k184.K w x cs) : cs = [.int .i64 x.f0,.int .i64 x.f1] := by
  obtain ⟨_, _, rfl, rfl, rfl⟩ := h
  exact rfl
theorem k184_openM {w : World} {base : Nat} {ok : Nat → Prop} {x : S184} {cs : List Value} (h : k184.M w base ok x cs) : cs = [.int .i64 x.f0,.int .i64 x.f1] := by
  obtain ⟨_, _, rfl, rfl, rfl⟩ := h
  exact rfl
abbrev d184 (x : S184) : List Value := [.int .i64 x.f0,.int .i64 x.f1]
theorem k184_mk (w : World) (x : S184)  : k184.K w x (d184 x) := ⟨[_],_,rfl,rfl,rfl⟩
theorem k184_mkM (w : World) (base : Nat) (ok : Nat → Prop) (x : S184)  : k184.M w base ok x (d184 x) := ⟨[_],_,rfl,rfl,rfl⟩
def rd_T184 (xs : List S184) (i : Int) : S184 := xs.getD i.toNat z184
theorem at_T184 {w : World} {A : Option Addr} {n : Nat} {xs : List S184} (h : Kd.C k184 w A n xs) (i : Int) (h0 : 0 ≤ i) (h1 : i < n) : ∃ ad , A = some ad ∧ w.cell? (ad.add (i.toNat * 2)) = some (.int .i64 (rd_T184 xs i).f0) ∧ w.cell? ⟨(ad.add (i.toNat * 2)).block, (ad.add (i.toNat * 2)).off + 1, none⟩ = some (.int .i64 (rd_T184 xs i).f1) := by
  obtain ⟨ad, c, e, _, hK, hc0⟩ := Kd.C_get h z184 i h0 h1
  have hc : ∀ j u, c[j]? = some u → w.cell? (ad.add (i.toNat * 2 + j)) = some u := hc0
  obtain rfl := k184_open hK
  exact ⟨ad, e, hc 0 _ rfl, by rw [← add_field _ _ 1 (by omega)]; exact hc 1 _ rfl⟩
theorem at_R184 {w : World} {A : Option Addr} {n : Nat} {xs : List S184} (h : Kd.C k184 w A n xs) (i : Int) (h0 : 0 ≤ i) (h1 : i < n) : ∃ ad , A = some ad ∧ RS w (ad.add (i.toNat * 2)) (d184 (rd_T184 xs i)) := by
  obtain ⟨ad, c, e, _, hK, hc0⟩ := Kd.C_get h z184 i h0 h1
  have hc : ∀ j u, c[j]? = some u → w.cell? (ad.add (i.toNat * 2 + j)) = some u := hc0
  obtain rfl := k184_open hK
  exact ⟨ad, e, rI hc⟩

def rd_L19 (xs : List (List S182)) (i : Int) : (List S182) := xs.getD i.toNat ([] : List S182)
theorem at_L19 {w : World} {A : Option Addr} {n : Nat} {xs : List (List S182)} (h : Kd.C (Kd.slice 182 k182) w A n xs) (i : Int) (h0 : 0 ≤ i) (h1 : i < n) : ∃ ad A0 c0, A = some ad ∧ w.cell? (ad.add i.toNat) = some (.slice A0 (rd_L19 xs i).length c0) ∧ (rd_L19 xs i).length ≤ c0 ∧ k182.C w A0 (rd_L19 xs i).length (rd_L19 xs i) := by
  obtain ⟨ad, c, e, _, hK, hc0⟩ := Kd.C_get h ([] : List S182) i h0 h1
  have hc : ∀ j u, c[j]? = some u → w.cell? (ad.add (i.toNat * 1 + j)) = some u := hc0
  obtain ⟨A0, c0, rfl, l0, g0⟩ := hK
  exact ⟨ad, A0, c0, e, by have hq := hc 0 _ rfl; rwa [Nat.mul_one, Nat.add_zero] at hq, l0, g0⟩

def rd_L20 (xs : List (List S184)) (i : Int) : (List S184) := xs.getD i.toNat ([] : List S184)
theorem at_L20 {w : World} {A : Option Addr} {n : Nat} {xs : List (List S184)} (h : Kd.C (Kd.slice 184 k184) w A n xs) (i : Int) (h0 : 0 ≤ i) (h1 : i < n) : ∃ ad A0 c0, A = some ad ∧ w.cell? (ad.add i.toNat) = some (.slice A0 (rd_L20 xs i).length c0) ∧ (rd_L20 xs i).length ≤ c0 ∧ k184.C w A0 (rd_L20 xs i).length (rd_L20 xs i) := by
  obtain ⟨ad, c, e, _, hK, hc0⟩ := Kd.C_get h ([] : List S184) i h0 h1
  have hc : ∀ j u, c[j]? = some u → w.cell? (ad.add (i.toNat * 1 + j)) = some u := hc0
  obtain ⟨A0, c0, rfl, l0, g0⟩ := hK
  exact ⟨ad, A0, c0, e, by have hq := hc 0 _ rfl; rwa [Nat.mul_one, Nat.add_zero] at hq, l0, g0⟩

/-! #### struct type 134 -/
structure S134 where
  f0 : Int
  f1 : Int
  f2 : Int
  f3 : Int
  f4 : Int
  f5 : Int
  f6 : S125
  f7 : Int
  f8 : Int
  f9 : Int
  f10 : Int
  f11 : Int
  f12 : Int
  f13 : Int
  f14 : Int
  f15 : (List S182)
  f16 : (List S184)
def z134 : S134 := ⟨(0 : Int), (0 : Int), (0 : Int), (0 : Int), (0 : Int), (0 : Int), z125, (0 : Int), (0 : Int), (0 : Int), (0 : Int), (0 : Int), (0 : Int), (0 : Int), (0 : Int), ([] : List S182), ([] : List S184)⟩
def k134 : Kd S134 := Kd.iso (Kd.pair (Kd.int .i64) (Kd.pair (Kd.int .i64) (Kd.pair (Kd.int .i64) (Kd.pair (Kd.int .i64) (Kd.pair (Kd.int .i64) (Kd.pair (Kd.int .i64) (Kd.pair k125 (Kd.pair (Kd.int .i64) (Kd.pair (Kd.int .i64) (Kd.pair (Kd.int .i64) (Kd.pair (Kd.int .i64) (Kd.pair (Kd.int .i64) (Kd.pair (Kd.int .i64) (Kd.pair (Kd.int .i64) (Kd.pair (Kd.int .i64) (Kd.pair (Kd.slice 182 k182) (Kd.slice 184 k184))))))))))))))))) (fun x : S134 => (x.f0, x.f1, x.f2, x.f3, x.f4, x.f5, x.f6, x.f7, x.f8, x.f9, x.f10, x.f11, x.f12, x.f13, x.f14, x.f15, x.f16))
theorem k134_open {w : World} {x : S134} {cs : List Value} (h : k134.K w x cs) : ∃ A24 c24 A25 c25, cs = [.int .i64 x.f0,.int .i64 x.f1,.int .i64 x.f2,.int .i64 x.f3,.int .i64 x.f4,.int .i64 x.f5,.int .i64 x.f6.f0,.int .i64 x.f6.f1,.int .i64 x.f6.f2,.int .i64 x.f6.f3,.int .i64 x.f6.f4,.int .i64 x.f6.f5,.int .i64 x.f6.f6,.int .i64 x.f6.f7,.int .i64 x.f6.f8,.int .i64 x.f6.f9,.int .i64 x.f7,.int .i64 x.f8,.int .i64 x.f9,.int .i64 x.f10,.int .i64 x.f11,.int .i64 x.f12,.int .i64 x.f13,.int .i64 x.f14,.slice A24 x.f15.length c24,.slice A25 x.f16.length c25] ∧ x.f15.length ≤ c24 ∧ k182.C w A24 x.f15.length x.f15 ∧ x.f16.length ≤ c25 ∧ k184.C w A25 x.f16.length x.f16 := by
  obtain ⟨_, _, rfl, rfl, ⟨_, _, rfl, rfl, ⟨_, _, rfl, rfl, ⟨_, _, rfl, rfl, ⟨_, _, rfl, rfl, ⟨_, _, rfl, rfl, ⟨_, _, rfl, s6, ⟨_, _, rfl, rfl, ⟨_, _, rfl, rfl, ⟨_, _, rfl, rfl, ⟨_, _, rfl, rfl, ⟨_, _, rfl, rfl, ⟨_, _, rfl, rfl, ⟨_, _, rfl, rfl, ⟨_, _, rfl, rfl, ⟨_, _, rfl, ⟨A24, c24, rfl, l24, g24⟩, ⟨A25, c25, rfl, l25, g25⟩⟩⟩⟩⟩⟩⟩⟩⟩⟩⟩⟩⟩⟩⟩⟩⟩ := h
  obtain rfl := k125_open s6
  exact ⟨A24, c24, A25, c25, rfl, l24, g24, l25, g25⟩
theorem k134_openM {w : World} {base : Nat} {ok : Nat → Prop} {x : S134} {cs : List Value} (h : k134.M w base ok x cs) : ∃ v24 v25, cs = [.int .i64 x.f0,.int .i64 x.f1,.int .i64 x.f2,.int .i64 x.f3,.int .i64 x.f4,.int .i64 x.f5,.int .i64 x.f6.f0,.int .i64 x.f6.f1,.int .i64 x.f6.f2,.int .i64 x.f6.f3,.int .i64 x.f6.f4,.int .i64 x.f6.f5,.int .i64 x.f6.f6,.int .i64 x.f6.f7,.int .i64 x.f6.f8,.int .i64 x.f6.f9,.int .i64 x.f7,.int .i64 x.f8,.int .i64 x.f9,.int .i64 x.f10,.int .i64 x.f11,.int .i64 x.f12,.int .i64 x.f13,.int .i64 x.f14,v24,v25] ∧ k182.R 182 w base ok v24 x.f15 ∧ k184.R 184 w base ok v25 x.f16 := by
  obtain ⟨_, _, rfl, rfl, ⟨_, _, rfl, rfl, ⟨_, _, rfl, rfl, ⟨_, _, rfl, rfl, ⟨_, _, rfl, rfl, ⟨_, _, rfl, rfl, ⟨_, _, rfl, s6, ⟨_, _, rfl, rfl, ⟨_, _, rfl, rfl, ⟨_, _, rfl, rfl, ⟨_, _, rfl, rfl, ⟨_, _, rfl, rfl, ⟨_, _, rfl, rfl, ⟨_, _, rfl, rfl, ⟨_, _, rfl, rfl, ⟨_, _, rfl, ⟨v24, rfl, g24⟩, ⟨v25, rfl, g25⟩⟩⟩⟩⟩⟩⟩⟩⟩⟩⟩⟩⟩⟩⟩⟩⟩ := h
  obtain rfl := k125_openM s6
  exact ⟨v24,v25, rfl, g24, g25⟩
abbrev d134 (x : S134) (v24 v25 : Value) : List Value := [.int .i64 x.f0,.int .i64 x.f1,.int .i64 x.f2,.int .i64 x.f3,.int .i64 x.f4,.int .i64 x.f5,.int .i64 x.f6.f0,.int .i64 x.f6.f1,.int .i64 x.f6.f2,.int .i64 x.f6.f3,.int .i64 x.f6.f4,.int .i64 x.f6.f5,.int .i64 x.f6.f6,.int .i64 x.f6.f7,.int .i64 x.f6.f8,.int .i64 x.f6.f9,.int .i64 x.f7,.int .i64 x.f8,.int .i64 x.f9,.int .i64 x.f10,.int .i64 x.f11,.int .i64 x.f12,.int .i64 x.f13,.int .i64 x.f14,v24,v25]
theorem k134_mk (w : World) (x : S134) {A24 : Option Addr} {c24 : Nat} (l24 : x.f15.length ≤ c24) (g24 : k182.C w A24 x.f15.length x.f15) {A25 : Option Addr} {c25 : Nat} (l25 : x.f16.length ≤ c25) (g25 : k184.C w A25 x.f16.length x.f16) : k134.K w x (d134 x (.slice A24 x.f15.length c24) (.slice A25 x.f16.length c25)) := ⟨[_],_,rfl,rfl,⟨[_],_,rfl,rfl,⟨[_],_,rfl,rfl,⟨[_],_,rfl,rfl,⟨[_],_,rfl,rfl,⟨[_],_,rfl,rfl,⟨(d125 _),_,rfl,(k125_mk w x.f6 ),⟨[_],_,rfl,rfl,⟨[_],_,rfl,rfl,⟨[_],_,rfl,rfl,⟨[_],_,rfl,rfl,⟨[_],_,rfl,rfl,⟨[_],_,rfl,rfl,⟨[_],_,rfl,rfl,⟨[_],_,rfl,rfl,⟨[_],_,rfl,⟨A24, c24, rfl, l24, g24⟩,⟨A25, c25, rfl, l25, g25⟩⟩⟩⟩⟩⟩⟩⟩⟩⟩⟩⟩⟩⟩⟩⟩⟩
theorem k134_mkM (w : World) (base : Nat) (ok : Nat → Prop) (x : S134) {v24 : Value} (g24 : k182.R 182 w base ok v24 x.f15) {v25 : Value} (g25 : k184.R 184 w base ok v25 x.f16) : k134.M w base ok x (d134 x v24 v25) := ⟨[_],_,rfl,rfl,⟨[_],_,rfl,rfl,⟨[_],_,rfl,rfl,⟨[_],_,rfl,rfl,⟨[_],_,rfl,rfl,⟨[_],_,rfl,rfl,⟨(d125 _),_,rfl,(k125_mkM w base ok x.f6 ),⟨[_],_,rfl,rfl,⟨[_],_,rfl,rfl,⟨[_],_,rfl,rfl,⟨[_],_,rfl,rfl,⟨[_],_,rfl,rfl,⟨[_],_,rfl,rfl,⟨[_],_,rfl,rfl,⟨[_],_,rfl,rfl,⟨[_],_,rfl,⟨v24, rfl, g24⟩,⟨v25, rfl, g25⟩⟩⟩⟩⟩⟩⟩⟩⟩⟩⟩⟩⟩⟩⟩⟩⟩
def rd_T134 (xs : List S134) (i : Int) : S134 := xs.getD i.toNat z134
theorem at_T134 {w : World} {A : Option Addr} {n : Nat} {xs : List S134} (h : Kd.C k134 w A n xs) (i : Int) (h0 : 0 ≤ i) (h1 : i < n) : ∃ ad A24 c24 A25 c25, A = some ad ∧ w.cell? (ad.add (i.toNat * 26)) = some (.int .i64 (rd_T134 xs i).f0) ∧ CS w (ad.add (i.toNat * 26)) N_25 (d134 (rd_T134 xs i) (.slice A24 (rd_T134 xs i).f15.length c24) (.slice A25 (rd_T134 xs i).f16.length c25)).tail ((rd_T134 xs i).f15.length ≤ c24 ∧ k182.C w A24 (rd_T134 xs i).f15.length (rd_T134 xs i).f15 ∧ (rd_T134 xs i).f16.length ≤ c25 ∧ k184.C w A25 (rd_T134 xs i).f16.length (rd_T134 xs i).f16) := by
  obtain ⟨ad, c, e, _, hK, hc0⟩ := Kd.C_get h z134 i h0 h1
  have hc : ∀ j u, c[j]? = some u → w.cell? (ad.add (i.toNat * 26 + j)) = some u := hc0
  obtain ⟨A24, c24, A25, c25, rfl, l24, g24, l25, g25⟩ := k134_open hK
  exact ⟨ad, A24, c24, A25, c25, e, hc 0 _ rfl, CS_mk hc rfl ⟨l24, g24, l25, g25⟩⟩
theorem at_R134 {w : World} {A : Option Addr} {n : Nat} {xs : List S134} (h : Kd.C k134 w A n xs) (i : Int) (h0 : 0 ≤ i) (h1 : i < n) : ∃ ad A24 c24 A25 c25, A = some ad ∧ RS w (ad.add (i.toNat * 26)) (d134 (rd_T134 xs i) (.slice A24 (rd_T134 xs i).f15.length c24) (.slice A25 (rd_T134 xs i).f16.length c25)) ∧ (rd_T134 xs i).f15.length ≤ c24 ∧ k182.C w A24 (rd_T134 xs i).f15.length (rd_T134 xs i).f15 ∧ (rd_T134 xs i).f16.length ≤ c25 ∧ k184.C w A25 (rd_T134 xs i).f16.length (rd_T134 xs i).f16 := by
  obtain ⟨ad, c, e, _, hK, hc0⟩ := Kd.C_get h z134 i h0 h1
  have hc : ∀ j u, c[j]? = some u → w.cell? (ad.add (i.toNat * 26 + j)) = some u := hc0
  obtain ⟨A24, c24, A25, c25, rfl, l24, g24, l25, g25⟩ := k134_open hK
  exact ⟨ad, A24, c24, A25, c25, e, rI hc, l24, g24, l25, g25⟩

/-! #### struct type 100 -/
structure S100 where
  f0 : Int
  f1 : Int
def z100 : S100 := ⟨(0 : Int), (0 : Int)⟩
def k100 : Kd S100 := Kd.iso (Kd.pair (Kd.int .i64) (Kd.int .i64)) (fun x : S100 => (x.f0, x.f1))
theorem k100_open {w : World} {x : S100} {cs : List Value} (h : k100.K w x cs) : cs = [.int .i64 x.f0,.int .i64 x.f1] := by
  obtain ⟨_, _, rfl, rfl, rfl⟩ := h
  exact rfl
theorem k100_openM {w : World} {base : Nat} {ok : Nat → Prop} {x : S100} {cs : List Value} (h : k100.M w base ok x cs) : cs = [.int .i64 x.f0,.int .i64 x.f1] := by
  obtain ⟨_, _, rfl, rfl, rfl⟩ := h
  exact rfl
abbrev d100 (x : S100) : List Value := [.int .i64 x.f0,.int .i64 x.f1]
theorem k100_mk (w : World) (x : S100)  : k100.K w x (d100 x) := ⟨[_],_,rfl,rfl,rfl⟩
theorem k100_mkM (w : World) (base : Nat) (ok : Nat → Prop) (x : S100)  : k100.M w base ok x (d100 x) := ⟨[_],_,rfl,rfl,rfl⟩
def rd_T100 (xs : List S100) (i : Int) : S100 := xs.getD i.toNat z100
theorem at_T100 {w : World} {A : Option Addr} {n : Nat} {xs : List S100} (h : Kd.C k100 w A n xs) (i : Int) (h0 : 0 ≤ i) (h1 : i < n) : ∃ ad , A = some ad ∧ w.cell? (ad.add (i.toNat * 2)) = some (.int .i64 (rd_T100 xs i).f0) ∧ w.cell? ⟨(ad.add (i.toNat * 2)).block, (ad.add (i.toNat * 2)).off + 1, none⟩ = some (.int .i64 (rd_T100 xs i).f1) := by
  obtain ⟨ad, c, e, _, hK, hc0⟩ := Kd.C_get h z100 i h0 h1
  have hc : ∀ j u, c[j]? = some u → w.cell? (ad.add (i.toNat * 2 + j)) = some u := hc0
  obtain rfl := k100_open hK
  exact ⟨ad, e, hc 0 _ rfl, by rw [← add_field _ _ 1 (by omega)]; exact hc 1 _ rfl⟩
theorem at_R100 {w : World} {A : Option Addr} {n : Nat} {xs : List S100} (h : Kd.C k100 w A n xs) (i : Int) (h0 : 0 ≤ i) (h1 : i < n) : ∃ ad , A = some ad ∧ RS w (ad.add (i.toNat * 2)) (d100 (rd_T100 xs i)) := by
  obtain ⟨ad, c, e, _, hK, hc0⟩ := Kd.C_get h z100 i h0 h1
  have hc : ∀ j u, c[j]? = some u → w.cell? (ad.add (i.toNat * 2 + j)) = some u := hc0
  obtain rfl := k100_open hK
  exact ⟨ad, e, rI hc⟩

def rd_L23 (xs : List (List S123)) (i : Int) : (List S123) := xs.getD i.toNat ([] : List S123)
theorem at_L23 {w : World} {A : Option Addr} {n : Nat} {xs : List (List S123)} (h : Kd.C (Kd.slice 123 k123) w A n xs) (i : Int) (h0 : 0 ≤ i) (h1 : i < n) : ∃ ad A0 c0, A = some ad ∧ w.cell? (ad.add i.toNat) = some (.slice A0 (rd_L23 xs i).length c0) ∧ (rd_L23 xs i).length ≤ c0 ∧ k123.C w A0 (rd_L23 xs i).length (rd_L23 xs i) := by
  obtain ⟨ad, c, e, _, hK, hc0⟩ := Kd.C_get h ([] : List S123) i h0 h1
  have hc : ∀ j u, c[j]? = some u → w.cell? (ad.add (i.toNat * 1 + j)) = some u := hc0
  obtain ⟨A0, c0, rfl, l0, g0⟩ := hK
  exact ⟨ad, A0, c0, e, by have hq := hc 0 _ rfl; rwa [Nat.mul_one, Nat.add_zero] at hq, l0, g0⟩

def rd_L24 (xs : List (List S129)) (i : Int) : (List S129) := xs.getD i.toNat ([] : List S129)
theorem at_L24 {w : World} {A : Option Addr} {n : Nat} {xs : List (List S129)} (h : Kd.C (Kd.slice 129 k129) w A n xs) (i : Int) (h0 : 0 ≤ i) (h1 : i < n) : ∃ ad A0 c0, A = some ad ∧ w.cell? (ad.add i.toNat) = some (.slice A0 (rd_L24 xs i).length c0) ∧ (rd_L24 xs i).length ≤ c0 ∧ k129.C w A0 (rd_L24 xs i).length (rd_L24 xs i) := by
  obtain ⟨ad, c, e, _, hK, hc0⟩ := Kd.C_get h ([] : List S129) i h0 h1
  have hc : ∀ j u, c[j]? = some u → w.cell? (ad.add (i.toNat * 1 + j)) = some u := hc0
  obtain ⟨A0, c0, rfl, l0, g0⟩ := hK
  exact ⟨ad, A0, c0, e, by have hq := hc 0 _ rfl; rwa [Nat.mul_one, Nat.add_zero] at hq, l0, g0⟩

def rd_L25 (xs : List (List S134)) (i : Int) : (List S134) := xs.getD i.toNat ([] : List S134)
theorem at_L25 {w : World} {A : Option Addr} {n : Nat} {xs : List (List S134)} (h : Kd.C (Kd.slice 134 k134) w A n xs) (i : Int) (h0 : 0 ≤ i) (h1 : i < n) : ∃ ad A0 c0, A = some ad ∧ w.cell? (ad.add i.toNat) = some (.slice A0 (rd_L25 xs i).length c0) ∧ (rd_L25 xs i).length ≤ c0 ∧ k134.C w A0 (rd_L25 xs i).length (rd_L25 xs i) := by
  obtain ⟨ad, c, e, _, hK, hc0⟩ := Kd.C_get h ([] : List S134) i h0 h1
  have hc : ∀ j u, c[j]? = some u → w.cell? (ad.add (i.toNat * 1 + j)) = some u := hc0
  obtain ⟨A0, c0, rfl, l0, g0⟩ := hK
  exact ⟨ad, A0, c0, e, by have hq := hc 0 _ rfl; rwa [Nat.mul_one, Nat.add_zero] at hq, l0, g0⟩

/-! #### struct type 38 -/
structure S38 where
  f0 : (List S123)
  f1 : (List Int)
  f2 : (List S129)
  f3 : (List S134)
  f4 : (List S127)
def z38 : S38 := ⟨([] : List S123), ([] : List Int), ([] : List S129), ([] : List S134), ([] : List S127)⟩
def k38 : Kd S38 := Kd.iso (Kd.pair (Kd.slice 123 k123) (Kd.pair (Kd.slice 3 (Kd.int .i64)) (Kd.pair (Kd.slice 129 k129) (Kd.pair (Kd.slice 134 k134) (Kd.slice 127 k127))))) (fun x : S38 => (x.f0, x.f1, x.f2, x.f3, x.f4))
theorem k38_open {w : World} {x : S38} {cs : List Value} (h : k38.K w x cs) : ∃ A0 c0 A1 c1 A2 c2 A3 c3 A4 c4, cs = [.slice A0 x.f0.length c0,.slice A1 x.f1.length c1,.slice A2 x.f2.length c2,.slice A3 x.f3.length c3,.slice A4 x.f4.length c4] ∧ x.f0.length ≤ c0 ∧ k123.C w A0 x.f0.length x.f0 ∧ x.f1.length ≤ c1 ∧ (Kd.int .i64).C w A1 x.f1.length x.f1 ∧ x.f2.length ≤ c2 ∧ k129.C w A2 x.f2.length x.f2 ∧ x.f3.length ≤ c3 ∧ k134.C w A3 x.f3.length x.f3 ∧ x.f4.length ≤ c4 ∧ k127.C w A4 x.f4.length x.f4 := by
  obtain ⟨_, _, rfl, ⟨A0, c0, rfl, l0, g0⟩, ⟨_, _, rfl, ⟨A1, c1, rfl, l1, g1⟩, ⟨_, _, rfl, ⟨A2, c2, rfl, l2, g2⟩, ⟨_, _, rfl, ⟨A3, c3, rfl, l3, g3⟩, ⟨A4, c4, rfl, l4, g4⟩⟩⟩⟩⟩ := h
  exact ⟨A0, c0, A1, c1, A2, c2, A3, c3, A4, c4, rfl, l0, g0, l1, g1, l2, g2, l3, g3, l4, g4⟩
theorem k38_openM {w : World} {base : Nat} {ok : Nat → Prop} {x : S38} {cs : List Value} (h : k38.M w base ok x cs) : ∃ v0 v1 v2 v3 v4, cs = [v0,v1,v2,v3,v4] ∧ k123.R 123 w base ok v0 x.f0 ∧ (Kd.int .i64).R 3 w base ok v1 x.f1 ∧ k129.R 129 w base ok v2 x.f2 ∧ k134.R 134 w base ok v3 x.f3 ∧ k127.R 127 w base ok v4 x.f4 := by
  obtain ⟨_, _, rfl, ⟨v0, rfl, g0⟩, ⟨_, _, rfl, ⟨v1, rfl, g1⟩, ⟨_, _, rfl, ⟨v2, rfl, g2⟩, ⟨_, _, rfl, ⟨v3, rfl, g3⟩, ⟨v4, rfl, g4⟩⟩⟩⟩⟩ := h
  exact ⟨v0,v1,v2,v3,v4, rfl, g0, g1, g2, g3, g4⟩
abbrev d38 (x : S38) (v0 v1 v2 v3 v4 : Value) : List Value := [v0,v1,v2,v3,v4]
theorem k38_mk (w : World) (x : S38) {A0 : Option Addr} {c0 : Nat} (l0 : x.f0.length ≤ c0) (g0 : k123.C w A0 x.f0.length x.f0) {A1 : Option Addr} {c1 : Nat} (l1 : x.f1.length ≤ c1) (g1 : (Kd.int .i64).C w A1 x.f1.length x.f1) {A2 : Option Addr} {c2 : Nat} (l2 : x.f2.length ≤ c2) (g2 : k129.C w A2 x.f2.length x.f2) {A3 : Option Addr} {c3 : Nat} (l3 : x.f3.length ≤ c3) (g3 : k134.C w A3 x.f3.length x.f3) {A4 : Option Addr} {c4 : Nat} (l4 : x.f4.length ≤ c4) (g4 : k127.C w A4 x.f4.length x.f4) : k38.K w x (d38 x (.slice A0 x.f0.length c0) (.slice A1 x.f1.length c1) (.slice A2 x.f2.length c2) (.slice A3 x.f3.length c3) (.slice A4 x.f4.length c4)) := ⟨[_],_,rfl,⟨A0, c0, rfl, l0, g0⟩,⟨[_],_,rfl,⟨A1, c1, rfl, l1, g1⟩,⟨[_],_,rfl,⟨A2, c2, rfl, l2, g2⟩,⟨[_],_,rfl,⟨A3, c3, rfl, l3, g3⟩,⟨A4, c4, rfl, l4, g4⟩⟩⟩⟩⟩
theorem k38_mkM (w : World) (base : Nat) (ok : Nat → Prop) (x : S38) {v0 : Value} (g0 : k123.R 123 w base ok v0 x.f0) {v1 : Value} (g1 : (Kd.int .i64).R 3 w base ok v1 x.f1) {v2 : Value} (g2 : k129.R 129 w base ok v2 x.f2) {v3 : Value} (g3 : k134.R 134 w base ok v3 x.f3) {v4 : Value} (g4 : k127.R 127 w base ok v4 x.f4) : k38.M w base ok x (d38 x v0 v1 v2 v3 v4) := ⟨[_],_,rfl,⟨v0, rfl, g0⟩,⟨[_],_,rfl,⟨v1, rfl, g1⟩,⟨[_],_,rfl,⟨v2, rfl, g2⟩,⟨[_],_,rfl,⟨v3, rfl, g3⟩,⟨v4, rfl, g4⟩⟩⟩⟩⟩
def rd_T38 (xs : List S38) (i : Int) : S38 := xs.getD i.toNat z38
theorem at_T38 {w : World} {A : Option Addr} {n : Nat} {xs : List S38} (h : Kd.C k38 w A n xs) (i : Int) (h0 : 0 ≤ i) (h1 : i < n) : ∃ ad A0 c0 A1 c1 A2 c2 A3 c3 A4 c4, A = some ad ∧ w.cell? (ad.add (i.toNat * 5)) = some (.slice A0 (rd_T38 xs i).f0.length c0) ∧ CS w (ad.add (i.toNat * 5)) N_4 (d38 (rd_T38 xs i) (.slice A0 (rd_T38 xs i).f0.length c0) (.slice A1 (rd_T38 xs i).f1.length c1) (.slice A2 (rd_T38 xs i).f2.length c2) (.slice A3 (rd_T38 xs i).f3.length c3) (.slice A4 (rd_T38 xs i).f4.length c4)).tail ((rd_T38 xs i).f0.length ≤ c0 ∧ k123.C w A0 (rd_T38 xs i).f0.length (rd_T38 xs i).f0 ∧ (rd_T38 xs i).f1.length ≤ c1 ∧ (Kd.int .i64).C w A1 (rd_T38 xs i).f1.length (rd_T38 xs i).f1 ∧ (rd_T38 xs i).f2.length ≤ c2 ∧ k129.C w A2 (rd_T38 xs i).f2.length (rd_T38 xs i).f2 ∧ (rd_T38 xs i).f3.length ≤ c3 ∧ k134.C w A3 (rd_T38 xs i).f3.length (rd_T38 xs i).f3 ∧ (rd_T38 xs i).f4.length ≤ c4 ∧ k127.C w A4 (rd_T38 xs i).f4.length (rd_T38 xs i).f4) := by
  obtain ⟨ad, c, e, _, hK, hc0⟩ := Kd.C_get h z38 i h0 h1
  have hc : ∀ j u, c[j]? = some u → w.cell? (ad.add (i.toNat * 5 + j)) = some u := hc0
  obtain ⟨A0, c0, A1, c1, A2, c2, A3, c3, A4, c4, rfl, l0, g0, l1, g1, l2, g2, l3, g3, l4, g4⟩ := k38_open hK
  exact ⟨ad, A0, c0, A1, c1, A2, c2, A3, c3, A4, c4, e, hc 0 _ rfl, CS_mk hc rfl ⟨l0, g0, l1, g1, l2, g2, l3, g3, l4, g4⟩⟩
theorem at_R38 {w : World} {A : Option Addr} {n : Nat} {xs : List S38} (h : Kd.C k38 w A n xs) (i : Int) (h0 : 0 ≤ i) (h1 : i < n) : ∃ ad A0 c0 A1 c1 A2 c2 A3 c3 A4 c4, A = some ad ∧ RS w (ad.add (i.toNat * 5)) (d38 (rd_T38 xs i) (.slice A0 (rd_T38 xs i).f0.length c0) (.slice A1 (rd_T38 xs i).f1.length c1) (.slice A2 (rd_T38 xs i).f2.length c2) (.slice A3 (rd_T38 xs i).f3.length c3) (.slice A4 (rd_T38 xs i).f4.length c4)) ∧ (rd_T38 xs i).f0.length ≤ c0 ∧ k123.C w A0 (rd_T38 xs i).f0.length (rd_T38 xs i).f0 ∧ (rd_T38 xs i).f1.length ≤ c1 ∧ (Kd.int .i64).C w A1 (rd_T38 xs i).f1.length (rd_T38 xs i).f1 ∧ (rd_T38 xs i).f2.length ≤ c2 ∧ k129.C w A2 (rd_T38 xs i).f2.length (rd_T38 xs i).f2 ∧ (rd_T38 xs i).f3.length ≤ c3 ∧ k134.C w A3 (rd_T38 xs i).f3.length (rd_T38 xs i).f3 ∧ (rd_T38 xs i).f4.length ≤ c4 ∧ k127.C w A4 (rd_T38 xs i).f4.length (rd_T38 xs i).f4 := by
  obtain ⟨ad, c, e, _, hK, hc0⟩ := Kd.C_get h z38 i h0 h1
  have hc : ∀ j u, c[j]? = some u → w.cell? (ad.add (i.toNat * 5 + j)) = some u := hc0
  obtain ⟨A0, c0, A1, c1, A2, c2, A3, c3, A4, c4, rfl, l0, g0, l1, g1, l2, g2, l3, g3, l4, g4⟩ := k38_open hK
  exact ⟨ad, A0, c0, A1, c1, A2, c2, A3, c3, A4, c4, e, rI hc, l0, g0, l1, g1, l2, g2, l3, g3, l4, g4⟩


def wf125 (x : S125) : Prop := (Lit.int .i64 x.f0).wf = true ∧ (Lit.int .i64 x.f1).wf = true ∧ (Lit.int .i64 x.f2).wf = true ∧ (Lit.int .i64 x.f3).wf = true ∧ (Lit.int .i64 x.f4).wf = true ∧ (Lit.int .i64 x.f5).wf = true ∧ (Lit.int .i64 x.f6).wf = true ∧ (Lit.int .i64 x.f7).wf = true ∧ (Lit.int .i64 x.f8).wf = true ∧ (Lit.int .i64 x.f9).wf = true
def wf127 (x : S127) : Prop := (Lit.int .i64 x.f0).wf = true ∧ (Lit.int .i64 x.f1).wf = true ∧ wf125 x.f2
def wf123 (x : S123) : Prop := (Lit.int .i64 x.f0).wf = true ∧ (x.f1.length ≤ maxLen ∧ ∀ z_ ∈ x.f1, wf127 z_)
def wf129 (x : S129) : Prop := (Lit.int .i64 x.f0).wf = true ∧ (Lit.int .i64 x.f1).wf = true ∧ (Lit.int .i64 x.f2).wf = true ∧ wf125 x.f3 ∧ wf127 x.f4 ∧ (x.f5.length ≤ maxLen ∧ ∀ z_ ∈ x.f5, (Lit.int .i64 z_).wf = true)
def wf182 (x : S182) : Prop := (Lit.int .i64 x.f0).wf = true ∧ (Lit.int .i64 x.f1).wf = true ∧ (Lit.int .i64 x.f2).wf = true ∧ (Lit.int .i64 x.f3).wf = true
def wf184 (x : S184) : Prop := (Lit.int .i64 x.f0).wf = true ∧ (Lit.int .i64 x.f1).wf = true
def wf134 (x : S134) : Prop := (Lit.int .i64 x.f0).wf = true ∧ (Lit.int .i64 x.f1).wf = true ∧ (Lit.int .i64 x.f2).wf = true ∧ (Lit.int .i64 x.f3).wf = true ∧ (Lit.int .i64 x.f4).wf = true ∧ (Lit.int .i64 x.f5).wf = true ∧ wf125 x.f6 ∧ (Lit.int .i64 x.f7).wf = true ∧ (Lit.int .i64 x.f8).wf = true ∧ (Lit.int .i64 x.f9).wf = true ∧ (Lit.int .i64 x.f10).wf = true ∧ (Lit.int .i64 x.f11).wf = true ∧ (Lit.int .i64 x.f12).wf = true ∧ (Lit.int .i64 x.f13).wf = true ∧ (Lit.int .i64 x.f14).wf = true ∧ (x.f15.length ≤ maxLen ∧ ∀ z_ ∈ x.f15, wf182 z_) ∧ (x.f16.length ≤ maxLen ∧ ∀ z_ ∈ x.f16, wf184 z_)
def wf38 (x : S38) : Prop := (x.f0.length ≤ maxLen ∧ ∀ z_ ∈ x.f0, wf123 z_) ∧ (x.f1.length ≤ maxLen ∧ ∀ z_ ∈ x.f1, (Lit.int .i64 z_).wf = true) ∧ (x.f2.length ≤ maxLen ∧ ∀ z_ ∈ x.f2, wf129 z_) ∧ (x.f3.length ≤ maxLen ∧ ∀ z_ ∈ x.f3, wf134 z_) ∧ (x.f4.length ≤ maxLen ∧ ∀ z_ ∈ x.f4, wf127 z_)

end Go.Proofs.Ytncohokalilnbaa.P
