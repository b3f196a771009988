-- printed by pprint.py (this session's program over the kit's printer) out of the translation. Lean checks it.
import Derived.Test.YtncohokalilnbaaProg
import Derived.Below
import Derived.Deep.Draws
import Derived.Deep.AppendLies
import Derived.Maps.AppendAt
import Derived.OwnWalk
import Derived.Laws.BytesArg
import Derived.Laws.MakeOwn
import Derived.Laws.OwnMore
import Derived.Deep.OwnRows
import Derived.Tactics
import Derived.Lib.ConvBytes
import Derived.Laws.Slices
import Derived.WalkKit
import Derived.KernelRfl
import Derived.RowKit3
import Derived.Deep.LoopGhost
import Derived.Deep.QuietTactic
import Derived.BigQuiet
import Derived.WideLaws
import Derived.Deep.DeepCutAuto
import Derived.Deep.CutBlock
import Derived.Deep.RegionHeld3
import Derived.Laws.Rows
import Derived.Lib.AppendStr
import Derived.ArgAppend
import Derived.Laws.IdiomCopy
import Derived.OrdersHeld
import Derived.Laws.BitsLemmas
import Derived.RowKit
import Derived.Test.YtncohokalilnbaaXCopy
import Derived.Test.YtncohokalilnbaaXNil
import Derived.Test.YtncohokalilnbaaVWGuardInvWordsMore
namespace Go.Proofs.Ytncohokalilnbaa.P
open Go.RowKit Go.Proofs.YtncohokalilnbaaX Go.Proofs.YtncohokalilnbaaW.PrintWords Go.Proofs.YtncohokalilnbaaW.PrintLast Go.Proofs.YtncohokalilnbaaW.PrintMore
attribute [local go_sem] max2_int min2_int max_two min_two max_three min_three max_four min_four   -- for this text's walks alone
set_option linter.unusedVariables false
set_option linter.unusedSimpArgs false



def errW : Option Int → Value
  | none => .nilIface
  | some c => .iface 0 (.int .i64 c)
theorem errW_none : errW none = .nilIface := rfl
theorem errW_some (c : Int) : errW (some c) = .iface 0 (.int .i64 c) := rfl

theorem info3 : (Try.prog.info? 3).map (fun i => (i.zero, i.size, i.bytes)) = some (some (.int .i64 0), 1, 8) := by kernel_rfl
theorem info84 : (Try.prog.info? 84).map (fun i => (i.zero, i.size, i.bytes)) = some (some (.agg #[(.int .i64 0), (.slice none 0 0)]), 2, 32) := by kernel_rfl
theorem info88 : (Try.prog.info? 88).map (fun i => (i.zero, i.size, i.bytes)) = some (some (.agg #[(.int .i64 0), (.int .i64 0), (.int .i64 0), (.int .i64 0), (.int .i64 0), (.int .i64 0), (.int .i64 0), (.int .i64 0), (.int .i64 0), (.int .i64 0), (.int .i64 0), (.int .i64 0), (.int .i64 0), (.int .i64 0), (.int .i64 0), (.int .i64 0), (.int .i64 0), (.int .i64 0), (.int .i64 0), (.int .i64 0), (.int .i64 0), (.int .i64 0), (.int .i64 0), (.int .i64 0), (.int .i64 0), (.slice none 0 0)]), 26, 224) := by kernel_rfl
theorem y28 : ZV 28 #[.slice none 0 0,.slice none 0 0,.slice none 0 0,.slice none 0 0,.slice none 0 0] := trivial
-- the values' own types
abbrev N_2 : List Nat := [1,2]
abbrev N_8 : List Nat := [1,2,3,4,5,6,7,8]
abbrev N_10 : List Nat := [1,2,3,4,5,6,7,8,9,10]
abbrev N_24 : List Nat := [1,2,3,4,5,6,7,8,9,10,11,12,13,14,15,16,17,18,19,20,21,22,23,24]
/-! #### struct type 84 -/
structure S84 where
  f0 : Int
  f1 : Unit
def z84 : S84 := ⟨(0 : Int), ()⟩
def k84 : Kd S84 := Kd.iso (Kd.pair (Kd.int .i64) kdNil) (fun x : S84 => (x.f0, x.f1))
theorem k84_open {w : World} {x : S84} {cs : List Value} (h : k84.K w x cs) : cs = [.int .i64 x.f0,.slice none 0 0] := by
  obtain ⟨_, _, rfl, rfl, rfl⟩ := h
  exact rfl
theorem k84_openM {w : World} {base : Nat} {ok : Nat → Prop} {x : S84} {cs : List Value} (h : k84.M w base ok x cs) : cs = [.int .i64 x.f0,.slice none 0 0] := by
  obtain ⟨_, _, rfl, rfl, rfl⟩ := h
  exact rfl
abbrev d84 (x : S84) (v1 : Value) : List Value := [.int .i64 x.f0,v1]
theorem k84_mk (w : World) (x : S84)  : k84.K w x (d84 x (.slice none 0 0)) := ⟨[_],_,rfl,rfl,rfl⟩
theorem k84_mkM (w : World) (base : Nat) (ok : Nat → Prop) (x : S84)  : k84.M w base ok x (d84 x (.slice none 0 0)) := ⟨[_],_,rfl,rfl,rfl⟩
def rd_T84 (xs : List S84) (i : Int) : S84 := xs.getD i.toNat z84
theorem at_T84 {w : World} {A : Option Addr} {n : Nat} {xs : List S84} (h : Kd.C k84 w A n xs) (i : Int) (h0 : 0 ≤ i) (h1 : i < n) : ∃ ad , A = some ad ∧ w.cell? (ad.add (i.toNat * 2)) = some (.int .i64 (rd_T84 xs i).f0) ∧ w.cell? ⟨(ad.add (i.toNat * 2)).block, (ad.add (i.toNat * 2)).off + 1, none⟩ = some (.slice none 0 0) := by
  obtain ⟨ad, c, e, _, hK, hc0⟩ := Kd.C_get h z84 i h0 h1
  have hc : ∀ j u, c[j]? = some u → w.cell? (ad.add (i.toNat * 2 + j)) = some u := hc0
  obtain rfl := k84_open hK
  exact ⟨ad, e, hc 0 _ rfl, by rw [← add_field _ _ 1 (by omega)]; exact hc 1 _ rfl⟩
theorem at_R84 {w : World} {A : Option Addr} {n : Nat} {xs : List S84} (h : Kd.C k84 w A n xs) (i : Int) (h0 : 0 ≤ i) (h1 : i < n) : ∃ ad , A = some ad ∧ RS w (ad.add (i.toNat * 2)) (d84 (rd_T84 xs i) (.slice none 0 0)) := by
  obtain ⟨ad, c, e, _, hK, hc0⟩ := Kd.C_get h z84 i h0 h1
  have hc : ∀ j u, c[j]? = some u → w.cell? (ad.add (i.toNat * 2 + j)) = some u := hc0
  obtain rfl := k84_open hK
  exact ⟨ad, e, rI hc⟩

/-! #### struct type 44 -/
structure S44 where
  f0 : Int
  f1 : Int
  f2 : Int
  f3 : Int
  f4 : Int
  f5 : Int
  f6 : Int
  f7 : Int
  f8 : Int
  f9 : Int
def z44 : S44 := ⟨(0 : Int), (0 : Int), (0 : Int), (0 : Int), (0 : Int), (0 : Int), (0 : Int), (0 : Int), (0 : Int), (0 : Int)⟩
def k44 : Kd S44 := Kd.iso (Kd.pair (Kd.int .i64) (Kd.pair (Kd.int .i64) (Kd.pair (Kd.int .i64) (Kd.pair (Kd.int .i64) (Kd.pair (Kd.int .i64) (Kd.pair (Kd.int .i64) (Kd.pair (Kd.int .i64) (Kd.pair (Kd.int .i64) (Kd.pair (Kd.int .i64) (Kd.int .i64)))))))))) (fun x : S44 => (x.f0, x.f1, x.f2, x.f3, x.f4, x.f5, x.f6, x.f7, x.f8, x.f9))
theorem k44_open {w : World} {x : S44} {cs : List Value} (h : k44.K w x cs) : cs = [.int .i64 x.f0,.int .i64 x.f1,.int .i64 x.f2,.int .i64 x.f3,.int .i64 x.f4,.int .i64 x.f5,.int .i64 x.f6,.int .i64 x.f7,.int .i64 x.f8,.int .i64 x.f9] := by
  obtain ⟨_, _, rfl, rfl, ⟨_, _, rfl, rfl, ⟨_, _, rfl, rfl, ⟨_, _, rfl, rfl, ⟨_, _, rfl, rfl, ⟨_, _, rfl, rfl, ⟨_, _, rfl, rfl, ⟨_, _, rfl, rfl, ⟨_, _, rfl, rfl, rfl⟩⟩⟩⟩⟩⟩⟩⟩⟩ := h
  exact rfl
theorem k44_openM {w : World} {base : Nat} {ok : Nat → Prop} {x : S44} {cs : List Value} (h : k44.M w base ok x cs) : cs = [.int .i64 x.f0,.int .i64 x.f1,.int .i64 x.f2,.int .i64 x.f3,.int .i64 x.f4,.int .i64 x.f5,.int .i64 x.f6,.int .i64 x.f7,.int .i64 x.f8,.int .i64 x.f9] := by
  obtain ⟨_, _, rfl, rfl, ⟨_, _, rfl, rfl, ⟨_, _, rfl, rfl, ⟨_, _, rfl, rfl, ⟨_, _, rfl, rfl, ⟨_, _, rfl, rfl, ⟨_, _, rfl, rfl, ⟨_, _, rfl, rfl, ⟨_, _, rfl, rfl, rfl⟩⟩⟩⟩⟩⟩⟩⟩⟩ := h
  exact rfl
abbrev d44 (x : S44) : List Value := [.int .i64 x.f0,.int .i64 x.f1,.int .i64 x.f2,.int .i64 x.f3,.int .i64 x.f4,.int .i64 x.f5,.int .i64 x.f6,.int .i64 x.f7,.int .i64 x.f8,.int .i64 x.f9]
theorem k44_mk (w : World) (x : S44)  : k44.K w x (d44 x) := ⟨[_],_,rfl,rfl,⟨[_],_,rfl,rfl,⟨[_],_,rfl,rfl,⟨[_],_,rfl,rfl,⟨[_],_,rfl,rfl,⟨[_],_,rfl,rfl,⟨[_],_,rfl,rfl,⟨[_],_,rfl,rfl,⟨[_],_,rfl,rfl,rfl⟩⟩⟩⟩⟩⟩⟩⟩⟩
theorem k44_mkM (w : World) (base : Nat) (ok : Nat → Prop) (x : S44)  : k44.M w base ok x (d44 x) := ⟨[_],_,rfl,rfl,⟨[_],_,rfl,rfl,⟨[_],_,rfl,rfl,⟨[_],_,rfl,rfl,⟨[_],_,rfl,rfl,⟨[_],_,rfl,rfl,⟨[_],_,rfl,rfl,⟨[_],_,rfl,rfl,⟨[_],_,rfl,rfl,rfl⟩⟩⟩⟩⟩⟩⟩⟩⟩
def rd_T44 (xs : List S44) (i : Int) : S44 := xs.getD i.toNat z44
theorem at_T44 {w : World} {A : Option Addr} {n : Nat} {xs : List S44} (h : Kd.C k44 w A n xs) (i : Int) (h0 : 0 ≤ i) (h1 : i < n) : ∃ ad , A = some ad ∧ w.cell? (ad.add (i.toNat * 10)) = some (.int .i64 (rd_T44 xs i).f0) ∧ CS w (ad.add (i.toNat * 10)) N_8 (d44 (rd_T44 xs i)).tail (w.cell? ⟨(ad.add (i.toNat * 10)).block, (ad.add (i.toNat * 10)).off + 9, none⟩ = some (.int .i64 (rd_T44 xs i).f9)) := by
  obtain ⟨ad, c, e, _, hK, hc0⟩ := Kd.C_get h z44 i h0 h1
  have hc : ∀ j u, c[j]? = some u → w.cell? (ad.add (i.toNat * 10 + j)) = some u := hc0
  obtain rfl := k44_open hK
  exact ⟨ad, e, hc 0 _ rfl, CS_mk hc rfl (by rw [← add_field _ _ 9 (by omega)]; exact hc 9 _ rfl)⟩
theorem at_R44 {w : World} {A : Option Addr} {n : Nat} {xs : List S44} (h : Kd.C k44 w A n xs) (i : Int) (h0 : 0 ≤ i) (h1 : i < n) : ∃ ad , A = some ad ∧ RS w (ad.add (i.toNat * 10)) (d44 (rd_T44 xs i)) := by
  obtain ⟨ad, c, e, _, hK, hc0⟩ := Kd.C_get h z44 i h0 h1
  have hc : ∀ j u, c[j]? = some u → w.cell? (ad.add (i.toNat * 10 + j)) = some u := hc0
  obtain rfl := k44_open hK
  exact ⟨ad, e, rI hc⟩

/-! #### struct type 53 -/
structure S53 where
  f0 : Int
  f1 : Int
  f2 : S44
def z53 : S53 := ⟨(0 : Int), (0 : Int), z44⟩
def k53 : Kd S53 := Kd.iso (Kd.pair (Kd.int .i64) (Kd.pair (Kd.int .i64) k44)) (fun x : S53 => (x.f0, x.f1, x.f2))
theorem k53_open {w : World} {x : S53} {cs : List Value} (h : k53.K w x cs) : cs = [.int .i64 x.f0,.int .i64 x.f1,.int .i64 x.f2.f0,.int .i64 x.f2.f1,.int .i64 x.f2.f2,.int .i64 x.f2.f3,.int .i64 x.f2.f4,.int .i64 x.f2.f5,.int .i64 x.f2.f6,.int .i64 x.f2.f7,.int .i64 x.f2.f8,.int .i64 x.f2.f9] := by
  obtain ⟨_, _, rfl, rfl, ⟨_, _, rfl, rfl, s2⟩⟩ := h
  obtain rfl := k44_open s2
  exact rfl
theorem k53_openM {w : World} {base : Nat} {ok : Nat → Prop} {x : S53} {cs : List Value} (h : k53.M w base ok x cs) : cs = [.int .i64 x.f0,.int .i64 x.f1,.int .i64 x.f2.f0,.int .i64 x.f2.f1,.int .i64 x.f2.f2,.int .i64 x.f2.f3,.int .i64 x.f2.f4,.int .i64 x.f2.f5,.int .i64 x.f2.f6,.int .i64 x.f2.f7,.int .i64 x.f2.f8,.int .i64 x.f2.f9] := by
  obtain ⟨_, _, rfl, rfl, ⟨_, _, rfl, rfl, s2⟩⟩ := h
  obtain rfl := k44_openM s2
  exact rfl
abbrev d53 (x : S53) : List Value := [.int .i64 x.f0,.int .i64 x.f1,.int .i64 x.f2.f0,.int .i64 x.f2.f1,.int .i64 x.f2.f2,.int .i64 x.f2.f3,.int .i64 x.f2.f4,.int .i64 x.f2.f5,.int .i64 x.f2.f6,.int .i64 x.f2.f7,.int .i64 x.f2.f8,.int .i64 x.f2.f9]
theorem k53_mk (w : World) (x : S53)  : k53.K w x (d53 x) := ⟨[_],_,rfl,rfl,⟨[_],_,rfl,rfl,(k44_mk w x.f2 )⟩⟩
theorem k53_mkM (w : World) (base : Nat) (ok : Nat → Prop) (x : S53)  : k53.M w base ok x (d53 x) := ⟨[_],_,rfl,rfl,⟨[_],_,rfl,rfl,(k44_mkM w base ok x.f2 )⟩⟩
def rd_T53 (xs : List S53) (i : Int) : S53 := xs.getD i.toNat z53
theorem at_T53 {w : World} {A : Option Addr} {n : Nat} {xs : List S53} (h : Kd.C k53 w A n xs) (i : Int) (h0 : 0 ≤ i) (h1 : i < n) : ∃ ad , A = some ad ∧ w.cell? (ad.add (i.toNat * 12)) = some (.int .i64 (rd_T53 xs i).f0) ∧ CS w (ad.add (i.toNat * 12)) N_10 (d53 (rd_T53 xs i)).tail (w.cell? ⟨(ad.add (i.toNat * 12)).block, (ad.add (i.toNat * 12)).off + 11, none⟩ = some (.int .i64 (rd_T53 xs i).f2.f9)) := by
  obtain ⟨ad, c, e, _, hK, hc0⟩ := Kd.C_get h z53 i h0 h1
  have hc : ∀ j u, c[j]? = some u → w.cell? (ad.add (i.toNat * 12 + j)) = some u := hc0
  obtain rfl := k53_open hK
  exact ⟨ad, e, hc 0 _ rfl, CS_mk hc rfl (by rw [← add_field _ _ 11 (by omega)]; exact hc 11 _ rfl)⟩
theorem at_R53 {w : World} {A : Option Addr} {n : Nat} {xs : List S53} (h : Kd.C k53 w A n xs) (i : Int) (h0 : 0 ≤ i) (h1 : i < n) : ∃ ad , A = some ad ∧ RS w (ad.add (i.toNat * 12)) (d53 (rd_T53 xs i)) := by
  obtain ⟨ad, c, e, _, hK, hc0⟩ := Kd.C_get h z53 i h0 h1
  have hc : ∀ j u, c[j]? = some u → w.cell? (ad.add (i.toNat * 12 + j)) = some u := hc0
  obtain rfl := k53_open hK
  exact ⟨ad, e, rI hc⟩

/-! #### struct type 88 -/
structure S88 where
  f0 : Int
  f1 : Int
  f2 : Int
  f3 : S44
  f4 : S53
  f5 : Unit
def z88 : S88 := ⟨(0 : Int), (0 : Int), (0 : Int), z44, z53, ()⟩
def k88 : Kd S88 := Kd.iso (Kd.pair (Kd.int .i64) (Kd.pair (Kd.int .i64) (Kd.pair (Kd.int .i64) (Kd.pair k44 (Kd.pair k53 kdNil))))) (fun x : S88 => (x.f0, x.f1, x.f2, x.f3, x.f4, x.f5))
theorem k88_open {w : World} {x : S88} {cs : List Value} (h : k88.K w x cs) : cs = [.int .i64 x.f0,.int .i64 x.f1,.int .i64 x.f2,.int .i64 x.f3.f0,.int .i64 x.f3.f1,.int .i64 x.f3.f2,.int .i64 x.f3.f3,.int .i64 x.f3.f4,.int .i64 x.f3.f5,.int .i64 x.f3.f6,.int .i64 x.f3.f7,.int .i64 x.f3.f8,.int .i64 x.f3.f9,.int .i64 x.f4.f0,.int .i64 x.f4.f1,.int .i64 x.f4.f2.f0,.int .i64 x.f4.f2.f1,.int .i64 x.f4.f2.f2,.int .i64 x.f4.f2.f3,.int .i64 x.f4.f2.f4,.int .i64 x.f4.f2.f5,.int .i64 x.f4.f2.f6,.int .i64 x.f4.f2.f7,.int .i64 x.f4.f2.f8,.int .i64 x.f4.f2.f9,.slice none 0 0] := by
  obtain ⟨_, _, rfl, rfl, ⟨_, _, rfl, rfl, ⟨_, _, rfl, rfl, ⟨_, _, rfl, s3, ⟨_, _, rfl, s13, rfl⟩⟩⟩⟩⟩ := h
  obtain rfl := k44_open s3
  obtain rfl := k53_open s13
  exact rfl
theorem k88_openM {w : World} {base : Nat} {ok : Nat → Prop} {x : S88} {cs : List Value} (h : k88.M w base ok x cs) : cs = [.int .i64 x.f0,.int .i64 x.f1,.int .i64 x.f2,.int .i64 x.f3.f0,.int .i64 x.f3.f1,.int .i64 x.f3.f2,.int .i64 x.f3.f3,.int .i64 x.f3.f4,.int .i64 x.f3.f5,.int .i64 x.f3.f6,.int .i64 x.f3.f7,.int .i64 x.f3.f8,.int .i64 x.f3.f9,.int .i64 x.f4.f0,.int .i64 x.f4.f1,.int .i64 x.f4.f2.f0,.int .i64 x.f4.f2.f1,.int .i64 x.f4.f2.f2,.int .i64 x.f4.f2.f3,.int .i64 x.f4.f2.f4,.int .i64 x.f4.f2.f5,.int .i64 x.f4.f2.f6,.int .i64 x.f4.f2.f7,.int .i64 x.f4.f2.f8,.int .i64 x.f4.f2.f9,.slice none 0 0] := by
  obtain ⟨_, _, rfl, rfl, ⟨_, _, rfl, rfl, ⟨_, _, rfl, rfl, ⟨_, _, rfl, s3, ⟨_, _, rfl, s13, rfl⟩⟩⟩⟩⟩ := h
  obtain rfl := k44_openM s3
  obtain rfl := k53_openM s13
  exact rfl
abbrev d88 (x : S88) (v25 : Value) : List Value := [.int .i64 x.f0,.int .i64 x.f1,.int .i64 x.f2,.int .i64 x.f3.f0,.int .i64 x.f3.f1,.int .i64 x.f3.f2,.int .i64 x.f3.f3,.int .i64 x.f3.f4,.int .i64 x.f3.f5,.int .i64 x.f3.f6,.int .i64 x.f3.f7,.int .i64 x.f3.f8,.int .i64 x.f3.f9,.int .i64 x.f4.f0,.int .i64 x.f4.f1,.int .i64 x.f4.f2.f0,.int .i64 x.f4.f2.f1,.int .i64 x.f4.f2.f2,.int .i64 x.f4.f2.f3,.int .i64 x.f4.f2.f4,.int .i64 x.f4.f2.f5,.int .i64 x.f4.f2.f6,.int .i64 x.f4.f2.f7,.int .i64 x.f4.f2.f8,.int .i64 x.f4.f2.f9,v25]
theorem k88_mk (w : World) (x : S88)  : k88.K w x (d88 x (.slice none 0 0)) := ⟨[_],_,rfl,rfl,⟨[_],_,rfl,rfl,⟨[_],_,rfl,rfl,⟨(d44 _),_,rfl,(k44_mk w x.f3 ),⟨(d53 _),_,rfl,(k53_mk w x.f4 ),rfl⟩⟩⟩⟩⟩
theorem k88_mkM (w : World) (base : Nat) (ok : Nat → Prop) (x : S88)  : k88.M w base ok x (d88 x (.slice none 0 0)) := ⟨[_],_,rfl,rfl,⟨[_],_,rfl,rfl,⟨[_],_,rfl,rfl,⟨(d44 _),_,rfl,(k44_mkM w base ok x.f3 ),⟨(d53 _),_,rfl,(k53_mkM w base ok x.f4 ),rfl⟩⟩⟩⟩⟩
def rd_T88 (xs : List S88) (i : Int) : S88 := xs.getD i.toNat z88
theorem at_T88 {w : World} {A : Option Addr} {n : Nat} {xs : List S88} (h : Kd.C k88 w A n xs) (i : Int) (h0 : 0 ≤ i) (h1 : i < n) : ∃ ad , A = some ad ∧ w.cell? (ad.add (i.toNat * 26)) = some (.int .i64 (rd_T88 xs i).f0) ∧ CS w (ad.add (i.toNat * 26)) N_24 (d88 (rd_T88 xs i) (.slice none 0 0)).tail (w.cell? ⟨(ad.add (i.toNat * 26)).block, (ad.add (i.toNat * 26)).off + 25, none⟩ = some (.slice none 0 0)) := by
  obtain ⟨ad, c, e, _, hK, hc0⟩ := Kd.C_get h z88 i h0 h1
  have hc : ∀ j u, c[j]? = some u → w.cell? (ad.add (i.toNat * 26 + j)) = some u := hc0
  obtain rfl := k88_open hK
  exact ⟨ad, e, hc 0 _ rfl, CS_mk hc rfl (by rw [← add_field _ _ 25 (by omega)]; exact hc 25 _ rfl)⟩
theorem at_R88 {w : World} {A : Option Addr} {n : Nat} {xs : List S88} (h : Kd.C k88 w A n xs) (i : Int) (h0 : 0 ≤ i) (h1 : i < n) : ∃ ad , A = some ad ∧ RS w (ad.add (i.toNat * 26)) (d88 (rd_T88 xs i) (.slice none 0 0)) := by
  obtain ⟨ad, c, e, _, hK, hc0⟩ := Kd.C_get h z88 i h0 h1
  have hc : ∀ j u, c[j]? = some u → w.cell? (ad.add (i.toNat * 26 + j)) = some u := hc0
  obtain rfl := k88_open hK
  exact ⟨ad, e, rI hc⟩

/-! #### struct type 164 -/
structure S164 where
  f0 : Int
  f1 : Int
  f2 : Int
  f3 : Int
def z164 : S164 := ⟨(0 : Int), (0 : Int), (0 : Int), (0 : Int)⟩
def k164 : Kd S164 := Kd.iso (Kd.pair (Kd.int .i64) (Kd.pair (Kd.int .i64) (Kd.pair (Kd.int .i64) (Kd.int .i64)))) (fun x : S164 => (x.f0, x.f1, x.f2, x.f3))
theorem k164_open {w : World} {x : S164} {cs : List Value} (h : k164.K w x cs) : cs = [.int .i64 x.f0,.int .i64 x.f1,.int .i64 x.f2,.int .i64 x.f3] := by
  obtain ⟨_, _, rfl, rfl, ⟨_, _, rfl, rfl, ⟨_, _, rfl, rfl, rfl⟩⟩⟩ := h
  exact rfl
theorem k164_openM {w : World} {base : Nat} {ok : Nat → Prop} {x : S164} {cs : List Value} (h : k164.M w base ok x cs) : cs = [.int .i64 x.f0,.int .i64 x.f1,.int .i64 x.f2,.int .i64 x.f3] := by
  obtain ⟨_, _, rfl, rfl, ⟨_, _, rfl, rfl, ⟨_, _, rfl, rfl, rfl⟩⟩⟩ := h
  exact rfl
abbrev d164 (x : S164) : List Value := [.int .i64 x.f0,.int .i64 x.f1,.int .i64 x.f2,.int .i64 x.f3]
theorem k164_mk (w : World) (x : S164)  : k164.K w x (d164 x) := ⟨[_],_,rfl,rfl,⟨[_],_,rfl,rfl,⟨[_],_,rfl,rfl,rfl⟩⟩⟩
theorem k164_mkM (w : World) (base : Nat) (ok : Nat → Prop) (x : S164)  : k164.M w base ok x (d164 x) := ⟨[_],_,rfl,rfl,⟨[_],_,rfl,rfl,⟨[_],_,rfl,rfl,rfl⟩⟩⟩
def rd_T164 (xs : List S164) (i : Int) : S164 := xs.getD i.toNat z164
theorem at_T164 {w : World} {A : Option Addr} {n : Nat} {xs : List S164} (h : Kd.C k164 w A n xs) (i : Int) (h0 : 0 ≤ i) (h1 : i < n) : ∃ ad , A = some ad ∧ w.cell? (ad.add (i.toNat * 4)) = some (.int .i64 (rd_T164 xs i).f0) ∧ CS w (ad.add (i.toNat * 4)) N_2 (d164 (rd_T164 xs i)).tail (w.cell? ⟨(ad.add (i.toNat * 4)).block, (ad.add (i.toNat * 4)).off + 3, none⟩ = some (.int .i64 (rd_T164 xs i).f3)) := by
  obtain ⟨ad, c, e, _, hK, hc0⟩ := Kd.C_get h z164 i h0 h1
  have hc : ∀ j u, c[j]? = some u → w.cell? (ad.add (i.toNat * 4 + j)) = some u := hc0
  obtain rfl := k164_open hK
  exact ⟨ad, e, hc 0 _ rfl, CS_mk hc rfl (by rw [← add_field _ _ 3 (by omega)]; exact hc 3 _ rfl)⟩
theorem at_R164 {w : World} {A : Option Addr} {n : Nat} {xs : List S164} (h : Kd.C k164 w A n xs) (i : Int) (h0 : 0 ≤ i) (h1 : i < n) : ∃ ad , A = some ad ∧ RS w (ad.add (i.toNat * 4)) (d164 (rd_T164 xs i)) := by
  obtain ⟨ad, c, e, _, hK, hc0⟩ := Kd.C_get h z164 i h0 h1
  have hc : ∀ j u, c[j]? = some u → w.cell? (ad.add (i.toNat * 4 + j)) = some u := hc0
  obtain rfl := k164_open hK
  exact ⟨ad, e, rI hc⟩

/-! #### struct type 166 -/
structure S166 where
  f0 : Int
  f1 : Int
def z166 : S166 := ⟨(0 : Int), (0 : Int)⟩
def k166 : Kd S166 := Kd.iso (Kd.pair (Kd.int .i64) (Kd.int .i64)) (fun x : S166 => (x.f0, x.f1))
theorem k166_open {w : World} {x : S166} {cs : List Value} (h : k166.K w x cs) : cs = [.int .i64 x.f0,.int .i64 x.f1] := by
  obtain ⟨_, _, rfl, rfl, rfl⟩ := h
  exact rfl
theorem k166_openM {w : World} {base : Nat} {ok : Nat → Prop} {x : S166} {cs : List Value} (h : k166.M w base ok x cs) : cs = [.int .i64 x.f0,.int .i64 x.f1] := by
  obtain ⟨_, _, rfl, rfl, rfl⟩ := h
  exact rfl
abbrev d166 (x : S166) : List Value := [.int .i64 x.f0,.int .i64 x.f1]
theorem k166_mk (w : World) (x : S166)  : k166.K w x (d166 x) := ⟨[_],_,rfl,rfl,rfl⟩
theorem k166_mkM (w : World) (base : Nat) (ok : Nat → Prop) (x : S166)  : k166.M w base ok x (d166 x) := ⟨[_],_,rfl,rfl,rfl⟩
def rd_T166 (xs : List S166) (i : Int) : S166 := xs.getD i.toNat z166
theorem at_T166 {w : World} {A : Option Addr} {n : Nat} {xs : List S166} (h : Kd.C k166 w A n xs) (i : Int) (h0 : 0 ≤ i) (h1 : i < n) : ∃ ad , A = some ad ∧ w.cell? (ad.add (i.toNat * 2)) = some (.int .i64 (rd_T166 xs i).f0) ∧ w.cell? ⟨(ad.add (i.toNat * 2)).block, (ad.add (i.toNat * 2)).off + 1, none⟩ = some (.int .i64 (rd_T166 xs i).f1) := by
  obtain ⟨ad, c, e, _, hK, hc0⟩ := Kd.C_get h z166 i h0 h1
  have hc : ∀ j u, c[j]? = some u → w.cell? (ad.add (i.toNat * 2 + j)) = some u := hc0
  obtain rfl := k166_open hK
  exact ⟨ad, e, hc 0 _ rfl, by rw [← add_field _ _ 1 (by omega)]; exact hc 1 _ rfl⟩
theorem at_R166 {w : World} {A : Option Addr} {n : Nat} {xs : List S166} (h : Kd.C k166 w A n xs) (i : Int) (h0 : 0 ≤ i) (h1 : i < n) : ∃ ad , A = some ad ∧ RS w (ad.add (i.toNat * 2)) (d166 (rd_T166 xs i)) := by
  obtain ⟨ad, c, e, _, hK, hc0⟩ := Kd.C_get h z166 i h0 h1
  have hc : ∀ j u, c[j]? = some u → w.cell? (ad.add (i.toNat * 2 + j)) = some u := hc0
  obtain rfl := k166_open hK
  exact ⟨ad, e, rI hc⟩

/-! #### struct type 93 -/
structure S93 where
  f0 : Int
  f1 : Int
  f2 : Int
  f3 : Int
  f4 : Int
  f5 : Int
  f6 : S44
  f7 : Int
  f8 : Int
  f9 : Int
  f10 : Int
  f11 : Int
  f12 : Int
  f13 : Int
  f14 : Int
  f15 : Unit
  f16 : Unit
def z93 : S93 := ⟨(0 : Int), (0 : Int), (0 : Int), (0 : Int), (0 : Int), (0 : Int), z44, (0 : Int), (0 : Int), (0 : Int), (0 : Int), (0 : Int), (0 : Int), (0 : Int), (0 : Int), (), ()⟩
def k93 : Kd S93 := Kd.iso (Kd.pair (Kd.int .i64) (Kd.pair (Kd.int .i64) (Kd.pair (Kd.int .i64) (Kd.pair (Kd.int .i64) (Kd.pair (Kd.int .i64) (Kd.pair (Kd.int .i64) (Kd.pair k44 (Kd.pair (Kd.int .i64) (Kd.pair (Kd.int .i64) (Kd.pair (Kd.int .i64) (Kd.pair (Kd.int .i64) (Kd.pair (Kd.int .i64) (Kd.pair (Kd.int .i64) (Kd.pair (Kd.int .i64) (Kd.pair (Kd.int .i64) (Kd.pair kdNil kdNil)))))))))))))))) (fun x : S93 => (x.f0, x.f1, x.f2, x.f3, x.f4, x.f5, x.f6, x.f7, x.f8, x.f9, x.f10, x.f11, x.f12, x.f13, x.f14, x.f15, x.f16))
theorem k93_open {w : World} {x : S93} {cs : List Value} (h : k93.K w x cs) : cs = [.int .i64 x.f0,.int .i64 x.f1,.int .i64 x.f2,.int .i64 x.f3,.int .i64 x.f4,.int .i64 x.f5,.int .i64 x.f6.f0,.int .i64 x.f6.f1,.int .i64 x.f6.f2,.int .i64 x.f6.f3,.int .i64 x.f6.f4,.int .i64 x.f6.f5,.int .i64 x.f6.f6,.int .i64 x.f6.f7,.int .i64 x.f6.f8,.int .i64 x.f6.f9,.int .i64 x.f7,.int .i64 x.f8,.int .i64 x.f9,.int .i64 x.f10,.int .i64 x.f11,.int .i64 x.f12,.int .i64 x.f13,.int .i64 x.f14,.slice none 0 0,.slice none 0 0] := by
  obtain ⟨_, _, rfl, rfl, ⟨_, _, rfl, rfl, ⟨_, _, rfl, rfl, ⟨_, _, rfl, rfl, ⟨_, _, rfl, rfl, ⟨_, _, rfl, rfl, ⟨_, _, rfl, s6, ⟨_, _, rfl, rfl, ⟨_, _, rfl, rfl, ⟨_, _, rfl, rfl, ⟨_, _, rfl, rfl, ⟨_, _, rfl, rfl, ⟨_, _, rfl, rfl, ⟨_, _, rfl, rfl, ⟨_, _, rfl, rfl, ⟨_, _, rfl, rfl, rfl⟩⟩⟩⟩⟩⟩⟩⟩⟩⟩⟩⟩⟩⟩⟩⟩ := h
  obtain rfl := k44_open s6
  exact rfl
theorem k93_openM {w : World} {base : Nat} {ok : Nat → Prop} {x : S93} {cs : List Value} (h : k93.M w base ok x cs) : cs = [.int .i64 x.f0,.int .i64 x.f1,.int .i64 x.f2,.int .i64 x.f3,.int .i64 x.f4,.int .i64 x.f5,.int .i64 x.f6.f0,.int .i64 x.f6.f1,.int .i64 x.f6.f2,.int .i64 x.f6.f3,.int .i64 x.f6.f4,.int .i64 x.f6.f5,.int .i64 x.f6.f6,.int .i64 x.f6.f7,.int .i64 x.f6.f8,.int .i64 x.f6.f9,.int .i64 x.f7,.int .i64 x.f8,.int .i64 x.f9,.int .i64 x.f10,.int .i64 x.f11,.int .i64 x.f12,.int .i64 x.f13,.int .i64 x.f14,.slice none 0 0,.slice none 0 0] := by
  obtain ⟨_, _, rfl, rfl, ⟨_, _, rfl, rfl, ⟨_, _, rfl, rfl, ⟨_, _, rfl, rfl, ⟨_, _, rfl, rfl, ⟨_, _, rfl, rfl, ⟨_, _, rfl, s6, ⟨_, _, rfl, rfl, ⟨_, _, rfl, rfl, ⟨_, _, rfl, rfl, ⟨_, _, rfl, rfl, ⟨_, _, rfl, rfl, ⟨_, _, rfl, rfl, ⟨_, _, rfl, rfl, ⟨_, _, rfl, rfl, ⟨_, _, rfl, rfl, rfl⟩⟩⟩⟩⟩⟩⟩⟩⟩⟩⟩⟩⟩⟩⟩⟩ := h
  obtain rfl := k44_openM s6
  exact rfl
abbrev d93 (x : S93) (v24 v25 : Value) : List Value := [.int .i64 x.f0,.int .i64 x.f1,.int .i64 x.f2,.int .i64 x.f3,.int .i64 x.f4,.int .i64 x.f5,.int .i64 x.f6.f0,.int .i64 x.f6.f1,.int .i64 x.f6.f2,.int .i64 x.f6.f3,.int .i64 x.f6.f4,.int .i64 x.f6.f5,.int .i64 x.f6.f6,.int .i64 x.f6.f7,.int .i64 x.f6.f8,.int .i64 x.f6.f9,.int .i64 x.f7,.int .i64 x.f8,.int .i64 x.f9,.int .i64 x.f10,.int .i64 x.f11,.int .i64 x.f12,.int .i64 x.f13,.int .i64 x.f14,v24,v25]
theorem k93_mk (w : World) (x : S93)  : k93.K w x (d93 x (.slice none 0 0) (.slice none 0 0)) := ⟨[_],_,rfl,rfl,⟨[_],_,rfl,rfl,⟨[_],_,rfl,rfl,⟨[_],_,rfl,rfl,⟨[_],_,rfl,rfl,⟨[_],_,rfl,rfl,⟨(d44 _),_,rfl,(k44_mk w x.f6 ),⟨[_],_,rfl,rfl,⟨[_],_,rfl,rfl,⟨[_],_,rfl,rfl,⟨[_],_,rfl,rfl,⟨[_],_,rfl,rfl,⟨[_],_,rfl,rfl,⟨[_],_,rfl,rfl,⟨[_],_,rfl,rfl,⟨[_],_,rfl,rfl,rfl⟩⟩⟩⟩⟩⟩⟩⟩⟩⟩⟩⟩⟩⟩⟩⟩
theorem k93_mkM (w : World) (base : Nat) (ok : Nat → Prop) (x : S93)  : k93.M w base ok x (d93 x (.slice none 0 0) (.slice none 0 0)) := ⟨[_],_,rfl,rfl,⟨[_],_,rfl,rfl,⟨[_],_,rfl,rfl,⟨[_],_,rfl,rfl,⟨[_],_,rfl,rfl,⟨[_],_,rfl,rfl,⟨(d44 _),_,rfl,(k44_mkM w base ok x.f6 ),⟨[_],_,rfl,rfl,⟨[_],_,rfl,rfl,⟨[_],_,rfl,rfl,⟨[_],_,rfl,rfl,⟨[_],_,rfl,rfl,⟨[_],_,rfl,rfl,⟨[_],_,rfl,rfl,⟨[_],_,rfl,rfl,⟨[_],_,rfl,rfl,rfl⟩⟩⟩⟩⟩⟩⟩⟩⟩⟩⟩⟩⟩⟩⟩⟩
def rd_T93 (xs : List S93) (i : Int) : S93 := xs.getD i.toNat z93
theorem at_T93 {w : World} {A : Option Addr} {n : Nat} {xs : List S93} (h : Kd.C k93 w A n xs) (i : Int) (h0 : 0 ≤ i) (h1 : i < n) : ∃ ad , A = some ad ∧ w.cell? (ad.add (i.toNat * 26)) = some (.int .i64 (rd_T93 xs i).f0) ∧ CS w (ad.add (i.toNat * 26)) N_24 (d93 (rd_T93 xs i) (.slice none 0 0) (.slice none 0 0)).tail (w.cell? ⟨(ad.add (i.toNat * 26)).block, (ad.add (i.toNat * 26)).off + 25, none⟩ = some (.slice none 0 0)) := by
  obtain ⟨ad, c, e, _, hK, hc0⟩ := Kd.C_get h z93 i h0 h1
  have hc : ∀ j u, c[j]? = some u → w.cell? (ad.add (i.toNat * 26 + j)) = some u := hc0
  obtain rfl := k93_open hK
  exact ⟨ad, e, hc 0 _ rfl, CS_mk hc rfl (by rw [← add_field _ _ 25 (by omega)]; exact hc 25 _ rfl)⟩
theorem at_R93 {w : World} {A : Option Addr} {n : Nat} {xs : List S93} (h : Kd.C k93 w A n xs) (i : Int) (h0 : 0 ≤ i) (h1 : i < n) : ∃ ad , A = some ad ∧ RS w (ad.add (i.toNat * 26)) (d93 (rd_T93 xs i) (.slice none 0 0) (.slice none 0 0)) := by
  obtain ⟨ad, c, e, _, hK, hc0⟩ := Kd.C_get h z93 i h0 h1
  have hc : ∀ j u, c[j]? = some u → w.cell? (ad.add (i.toNat * 26 + j)) = some u := hc0
  obtain rfl := k93_open hK
  exact ⟨ad, e, rI hc⟩

def put53 (x : S53) (j : Nat) (u : Int) : S53 := match j with
 | 0=>(⟨u,x.f1,(⟨x.f2.f0,x.f2.f1,x.f2.f2,x.f2.f3,x.f2.f4,x.f2.f5,x.f2.f6,x.f2.f7,x.f2.f8,x.f2.f9⟩:S44)⟩:S53)
 | 1=>(⟨x.f0,u,(⟨x.f2.f0,x.f2.f1,x.f2.f2,x.f2.f3,x.f2.f4,x.f2.f5,x.f2.f6,x.f2.f7,x.f2.f8,x.f2.f9⟩:S44)⟩:S53)
 | 2=>(⟨x.f0,x.f1,(⟨u,x.f2.f1,x.f2.f2,x.f2.f3,x.f2.f4,x.f2.f5,x.f2.f6,x.f2.f7,x.f2.f8,x.f2.f9⟩:S44)⟩:S53)
 | 3=>(⟨x.f0,x.f1,(⟨x.f2.f0,u,x.f2.f2,x.f2.f3,x.f2.f4,x.f2.f5,x.f2.f6,x.f2.f7,x.f2.f8,x.f2.f9⟩:S44)⟩:S53)
 | 4=>(⟨x.f0,x.f1,(⟨x.f2.f0,x.f2.f1,u,x.f2.f3,x.f2.f4,x.f2.f5,x.f2.f6,x.f2.f7,x.f2.f8,x.f2.f9⟩:S44)⟩:S53)
 | 5=>(⟨x.f0,x.f1,(⟨x.f2.f0,x.f2.f1,x.f2.f2,u,x.f2.f4,x.f2.f5,x.f2.f6,x.f2.f7,x.f2.f8,x.f2.f9⟩:S44)⟩:S53)
 | 6=>(⟨x.f0,x.f1,(⟨x.f2.f0,x.f2.f1,x.f2.f2,x.f2.f3,u,x.f2.f5,x.f2.f6,x.f2.f7,x.f2.f8,x.f2.f9⟩:S44)⟩:S53)
 | 7=>(⟨x.f0,x.f1,(⟨x.f2.f0,x.f2.f1,x.f2.f2,x.f2.f3,x.f2.f4,u,x.f2.f6,x.f2.f7,x.f2.f8,x.f2.f9⟩:S44)⟩:S53)
 | 8=>(⟨x.f0,x.f1,(⟨x.f2.f0,x.f2.f1,x.f2.f2,x.f2.f3,x.f2.f4,x.f2.f5,u,x.f2.f7,x.f2.f8,x.f2.f9⟩:S44)⟩:S53)
 | 9=>(⟨x.f0,x.f1,(⟨x.f2.f0,x.f2.f1,x.f2.f2,x.f2.f3,x.f2.f4,x.f2.f5,x.f2.f6,u,x.f2.f8,x.f2.f9⟩:S44)⟩:S53)
 | 10=>(⟨x.f0,x.f1,(⟨x.f2.f0,x.f2.f1,x.f2.f2,x.f2.f3,x.f2.f4,x.f2.f5,x.f2.f6,x.f2.f7,u,x.f2.f9⟩:S44)⟩:S53)
 | 11=>(⟨x.f0,x.f1,(⟨x.f2.f0,x.f2.f1,x.f2.f2,x.f2.f3,x.f2.f4,x.f2.f5,x.f2.f6,x.f2.f7,x.f2.f8,u⟩:S44)⟩:S53)
 | _=>x
set_option maxRecDepth 100000 in
set_option maxHeartbeats 4000000 in
theorem put53_M {W : World} {base : Nat} {okp : Nat → Prop} {y : S53} {c : List Value} {j : Nat} {u : Int} (hj : j < 12) (h : k53.M W base okp y c) : k53.M W base okp (put53 y j u) (c.take j ++ [.int .i64 u] ++ c.drop (j + 1)) := by
 obtain rfl := k53_openM h
 match j, hj with
 | 0,_=>exact k53_mkM _ _ _ (put53 y 0 u)
 | 1,_=>exact k53_mkM _ _ _ (put53 y 1 u)
 | 2,_=>exact k53_mkM _ _ _ (put53 y 2 u)
 | 3,_=>exact k53_mkM _ _ _ (put53 y 3 u)
 | 4,_=>exact k53_mkM _ _ _ (put53 y 4 u)
 | 5,_=>exact k53_mkM _ _ _ (put53 y 5 u)
 | 6,_=>exact k53_mkM _ _ _ (put53 y 6 u)
 | 7,_=>exact k53_mkM _ _ _ (put53 y 7 u)
 | 8,_=>exact k53_mkM _ _ _ (put53 y 8 u)
 | 9,_=>exact k53_mkM _ _ _ (put53 y 9 u)
 | 10,_=>exact k53_mkM _ _ _ (put53 y 10 u)
 | 11,_=>exact k53_mkM _ _ _ (put53 y 11 u)
 | j_+12,h_=>exact absurd h_ (by omega)
def put88 (x : S88) (j : Nat) (u : Int) : S88 := match j with
 | 0=>(⟨u,x.f1,x.f2,(⟨x.f3.f0,x.f3.f1,x.f3.f2,x.f3.f3,x.f3.f4,x.f3.f5,x.f3.f6,x.f3.f7,x.f3.f8,x.f3.f9⟩:S44),(⟨x.f4.f0,x.f4.f1,(⟨x.f4.f2.f0,x.f4.f2.f1,x.f4.f2.f2,x.f4.f2.f3,x.f4.f2.f4,x.f4.f2.f5,x.f4.f2.f6,x.f4.f2.f7,x.f4.f2.f8,x.f4.f2.f9⟩:S44)⟩:S53),()⟩:S88)
 | 1=>(⟨x.f0,u,x.f2,(⟨x.f3.f0,x.f3.f1,x.f3.f2,x.f3.f3,x.f3.f4,x.f3.f5,x.f3.f6,x.f3.f7,x.f3.f8,x.f3.f9⟩:S44),(⟨x.f4.f0,x.f4.f1,(⟨x.f4.f2.f0,x.f4.f2.f1,x.f4.f2.f2,x.f4.f2.f3,x.f4.f2.f4,x.f4.f2.f5,x.f4.f2.f6,x.f4.f2.f7,x.f4.f2.f8,x.f4.f2.f9⟩:S44)⟩:S53),()⟩:S88)
 | 2=>(⟨x.f0,x.f1,u,(⟨x.f3.f0,x.f3.f1,x.f3.f2,x.f3.f3,x.f3.f4,x.f3.f5,x.f3.f6,x.f3.f7,x.f3.f8,x.f3.f9⟩:S44),(⟨x.f4.f0,x.f4.f1,(⟨x.f4.f2.f0,x.f4.f2.f1,x.f4.f2.f2,x.f4.f2.f3,x.f4.f2.f4,x.f4.f2.f5,x.f4.f2.f6,x.f4.f2.f7,x.f4.f2.f8,x.f4.f2.f9⟩:S44)⟩:S53),()⟩:S88)
 | 3=>(⟨x.f0,x.f1,x.f2,(⟨u,x.f3.f1,x.f3.f2,x.f3.f3,x.f3.f4,x.f3.f5,x.f3.f6,x.f3.f7,x.f3.f8,x.f3.f9⟩:S44),(⟨x.f4.f0,x.f4.f1,(⟨x.f4.f2.f0,x.f4.f2.f1,x.f4.f2.f2,x.f4.f2.f3,x.f4.f2.f4,x.f4.f2.f5,x.f4.f2.f6,x.f4.f2.f7,x.f4.f2.f8,x.f4.f2.f9⟩:S44)⟩:S53),()⟩:S88)
 | 4=>(⟨x.f0,x.f1,x.f2,(⟨x.f3.f0,u,x.f3.f2,x.f3.f3,x.f3.f4,x.f3.f5,x.f3.f6,x.f3.f7,x.f3.f8,x.f3.f9⟩:S44),(⟨x.f4.f0,x.f4.f1,(⟨x.f4.f2.f0,x.f4.f2.f1,x.f4.f2.f2,x.f4.f2.f3,x.f4.f2.f4,x.f4.f2.f5,x.f4.f2.f6,x.f4.f2.f7,x.f4.f2.f8,x.f4.f2.f9⟩:S44)⟩:S53),()⟩:S88)
 | 5=>(⟨x.f0,x.f1,x.f2,(⟨x.f3.f0,x.f3.f1,u,x.f3.f3,x.f3.f4,x.f3.f5,x.f3.f6,x.f3.f7,x.f3.f8,x.f3.f9⟩:S44),(⟨x.f4.f0,x.f4.f1,(⟨x.f4.f2.f0,x.f4.f2.f1,x.f4.f2.f2,x.f4.f2.f3,x.f4.f2.f4,x.f4.f2.f5,x.f4.f2.f6,x.f4.f2.f7,x.f4.f2.f8,x.f4.f2.f9⟩:S44)⟩:S53),()⟩:S88)
 | 6=>(⟨x.f0,x.f1,x.f2,(⟨x.f3.f0,x.f3.f1,x.f3.f2,u,x.f3.f4,x.f3.f5,x.f3.f6,x.f3.f7,x.f3.f8,x.f3.f9⟩:S44),(⟨x.f4.f0,x.f4.f1,(⟨x.f4.f2.f0,x.f4.f2.f1,x.f4.f2.f2,x.f4.f2.f3,x.f4.f2.f4,x.f4.f2.f5,x.f4.f2.f6,x.f4.f2.f7,x.f4.f2.f8,x.f4.f2.f9⟩:S44)⟩:S53),()⟩:S88)
 | 7=>(⟨x.f0,x.f1,x.f2,(⟨x.f3.f0,x.f3.f1,x.f3.f2,x.f3.f3,u,x.f3.f5,x.f3.f6,x.f3.f7,x.f3.f8,x.f3.f9⟩:S44),(⟨x.f4.f0,x.f4.f1,(⟨x.f4.f2.f0,x.f4.f2.f1,x.f4.f2.f2,x.f4.f2.f3,x.f4.f2.f4,x.f4.f2.f5,x.f4.f2.f6,x.f4.f2.f7,x.f4.f2.f8,x.f4.f2.f9⟩:S44)⟩:S53),()⟩:S88)
 | 8=>(⟨x.f0,x.f1,x.f2,(⟨x.f3.f0,x.f3.f1,x.f3.f2,x.f3.f3,x.f3.f4,u,x.f3.f6,x.f3.f7,x.f3.f8,x.f3.f9⟩:S44),(⟨x.f4.f0,x.f4.f1,(⟨x.f4.f2.f0,x.f4.f2.f1,x.f4.f2.f2,x.f4.f2.f3,x.f4.f2.f4,x.f4.f2.f5,x.f4.f2.f6,x.f4.f2.f7,x.f4.f2.f8,x.f4.f2.f9⟩:S44)⟩:S53),()⟩:S88)
 | 9=>(⟨x.f0,x.f1,x.f2,(⟨x.f3.f0,x.f3.f1,x.f3.f2,x.f3.f3,x.f3.f4,x.f3.f5,u,x.f3.f7,x.f3.f8,x.f3.f9⟩:S44),(⟨x.f4.f0,x.f4.f1,(⟨x.f4.f2.f0,x.f4.f2.f1,x.f4.f2.f2,x.f4.f2.f3,x.f4.f2.f4,x.f4.f2.f5,x.f4.f2.f6,x.f4.f2.f7,x.f4.f2.f8,x.f4.f2.f9⟩:S44)⟩:S53),()⟩:S88)
 | 10=>(⟨x.f0,x.f1,x.f2,(⟨x.f3.f0,x.f3.f1,x.f3.f2,x.f3.f3,x.f3.f4,x.f3.f5,x.f3.f6,u,x.f3.f8,x.f3.f9⟩:S44),(⟨x.f4.f0,x.f4.f1,(⟨x.f4.f2.f0,x.f4.f2.f1,x.f4.f2.f2,x.f4.f2.f3,x.f4.f2.f4,x.f4.f2.f5,x.f4.f2.f6,x.f4.f2.f7,x.f4.f2.f8,x.f4.f2.f9⟩:S44)⟩:S53),()⟩:S88)
 | 11=>(⟨x.f0,x.f1,x.f2,(⟨x.f3.f0,x.f3.f1,x.f3.f2,x.f3.f3,x.f3.f4,x.f3.f5,x.f3.f6,x.f3.f7,u,x.f3.f9⟩:S44),(⟨x.f4.f0,x.f4.f1,(⟨x.f4.f2.f0,x.f4.f2.f1,x.f4.f2.f2,x.f4.f2.f3,x.f4.f2.f4,x.f4.f2.f5,x.f4.f2.f6,x.f4.f2.f7,x.f4.f2.f8,x.f4.f2.f9⟩:S44)⟩:S53),()⟩:S88)
 | 12=>(⟨x.f0,x.f1,x.f2,(⟨x.f3.f0,x.f3.f1,x.f3.f2,x.f3.f3,x.f3.f4,x.f3.f5,x.f3.f6,x.f3.f7,x.f3.f8,u⟩:S44),(⟨x.f4.f0,x.f4.f1,(⟨x.f4.f2.f0,x.f4.f2.f1,x.f4.f2.f2,x.f4.f2.f3,x.f4.f2.f4,x.f4.f2.f5,x.f4.f2.f6,x.f4.f2.f7,x.f4.f2.f8,x.f4.f2.f9⟩:S44)⟩:S53),()⟩:S88)
 | 13=>(⟨x.f0,x.f1,x.f2,(⟨x.f3.f0,x.f3.f1,x.f3.f2,x.f3.f3,x.f3.f4,x.f3.f5,x.f3.f6,x.f3.f7,x.f3.f8,x.f3.f9⟩:S44),(⟨u,x.f4.f1,(⟨x.f4.f2.f0,x.f4.f2.f1,x.f4.f2.f2,x.f4.f2.f3,x.f4.f2.f4,x.f4.f2.f5,x.f4.f2.f6,x.f4.f2.f7,x.f4.f2.f8,x.f4.f2.f9⟩:S44)⟩:S53),()⟩:S88)
 | 14=>(⟨x.f0,x.f1,x.f2,(⟨x.f3.f0,x.f3.f1,x.f3.f2,x.f3.f3,x.f3.f4,x.f3.f5,x.f3.f6,x.f3.f7,x.f3.f8,x.f3.f9⟩:S44),(⟨x.f4.f0,u,(⟨x.f4.f2.f0,x.f4.f2.f1,x.f4.f2.f2,x.f4.f2.f3,x.f4.f2.f4,x.f4.f2.f5,x.f4.f2.f6,x.f4.f2.f7,x.f4.f2.f8,x.f4.f2.f9⟩:S44)⟩:S53),()⟩:S88)
 | 15=>(⟨x.f0,x.f1,x.f2,(⟨x.f3.f0,x.f3.f1,x.f3.f2,x.f3.f3,x.f3.f4,x.f3.f5,x.f3.f6,x.f3.f7,x.f3.f8,x.f3.f9⟩:S44),(⟨x.f4.f0,x.f4.f1,(⟨u,x.f4.f2.f1,x.f4.f2.f2,x.f4.f2.f3,x.f4.f2.f4,x.f4.f2.f5,x.f4.f2.f6,x.f4.f2.f7,x.f4.f2.f8,x.f4.f2.f9⟩:S44)⟩:S53),()⟩:S88)
 | 16=>(⟨x.f0,x.f1,x.f2,(⟨x.f3.f0,x.f3.f1,x.f3.f2,x.f3.f3,x.f3.f4,x.f3.f5,x.f3.f6,x.f3.f7,x.f3.f8,x.f3.f9⟩:S44),(⟨x.f4.f0,x.f4.f1,(⟨x.f4.f2.f0,u,x.f4.f2.f2,x.f4.f2.f3,x.f4.f2.f4,x.f4.f2.f5,x.f4.f2.f6,x.f4.f2.f7,x.f4.f2.f8,x.f4.f2.f9⟩:S44)⟩:S53),()⟩:S88)
 | 17=>(⟨x.f0,x.f1,x.f2,(⟨x.f3.f0,x.f3.f1,x.f3.f2,x.f3.f3,x.f3.f4,x.f3.f5,x.f3.f6,x.f3.f7,x.f3.f8,x.f3.f9⟩:S44),(⟨x.f4.f0,x.f4.f1,(⟨x.f4.f2.f0,x.f4.f2.f1,u,x.f4.f2.f3,x.f4.f2.f4,x.f4.f2.f5,x.f4.f2.f6,x.f4.f2.f7,x.f4.f2.f8,x.f4.f2.f9⟩:S44)⟩:S53),()⟩:S88)
 | 18=>(⟨x.f0,x.f1,x.f2,(⟨x.f3.f0,x.f3.f1,x.f3.f2,x.f3.f3,x.f3.f4,x.f3.f5,x.f3.f6,x.f3.f7,x.f3.f8,x.f3.f9⟩:S44),(⟨x.f4.f0,x.f4.f1,(⟨x.f4.f2.f0,x.f4.f2.f1,x.f4.f2.f2,u,x.f4.f2.f4,x.f4.f2.f5,x.f4.f2.f6,x.f4.f2.f7,x.f4.f2.f8,x.f4.f2.f9⟩:S44)⟩:S53),()⟩:S88)
 | 19=>(⟨x.f0,x.f1,x.f2,(⟨x.f3.f0,x.f3.f1,x.f3.f2,x.f3.f3,x.f3.f4,x.f3.f5,x.f3.f6,x.f3.f7,x.f3.f8,x.f3.f9⟩:S44),(⟨x.f4.f0,x.f4.f1,(⟨x.f4.f2.f0,x.f4.f2.f1,x.f4.f2.f2,x.f4.f2.f3,u,x.f4.f2.f5,x.f4.f2.f6,x.f4.f2.f7,x.f4.f2.f8,x.f4.f2.f9⟩:S44)⟩:S53),()⟩:S88)
 | 20=>(⟨x.f0,x.f1,x.f2,(⟨x.f3.f0,x.f3.f1,x.f3.f2,x.f3.f3,x.f3.f4,x.f3.f5,x.f3.f6,x.f3.f7,x.f3.f8,x.f3.f9⟩:S44),(⟨x.f4.f0,x.f4.f1,(⟨x.f4.f2.f0,x.f4.f2.f1,x.f4.f2.f2,x.f4.f2.f3,x.f4.f2.f4,u,x.f4.f2.f6,x.f4.f2.f7,x.f4.f2.f8,x.f4.f2.f9⟩:S44)⟩:S53),()⟩:S88)
 | 21=>(⟨x.f0,x.f1,x.f2,(⟨x.f3.f0,x.f3.f1,x.f3.f2,x.f3.f3,x.f3.f4,x.f3.f5,x.f3.f6,x.f3.f7,x.f3.f8,x.f3.f9⟩:S44),(⟨x.f4.f0,x.f4.f1,(⟨x.f4.f2.f0,x.f4.f2.f1,x.f4.f2.f2,x.f4.f2.f3,x.f4.f2.f4,x.f4.f2.f5,u,x.f4.f2.f7,x.f4.f2.f8,x.f4.f2.f9⟩:S44)⟩:S53),()⟩:S88)
 | 22=>(⟨x.f0,x.f1,x.f2,(⟨x.f3.f0,x.f3.f1,x.f3.f2,x.f3.f3,x.f3.f4,x.f3.f5,x.f3.f6,x.f3.f7,x.f3.f8,x.f3.f9⟩:S44),(⟨x.f4.f0,x.f4.f1,(⟨x.f4.f2.f0,x.f4.f2.f1,x.f4.f2.f2,x.f4.f2.f3,x.f4.f2.f4,x.f4.f2.f5,x.f4.f2.f6,u,x.f4.f2.f8,x.f4.f2.f9⟩:S44)⟩:S53),()⟩:S88)
 | 23=>(⟨x.f0,x.f1,x.f2,(⟨x.f3.f0,x.f3.f1,x.f3.f2,x.f3.f3,x.f3.f4,x.f3.f5,x.f3.f6,x.f3.f7,x.f3.f8,x.f3.f9⟩:S44),(⟨x.f4.f0,x.f4.f1,(⟨x.f4.f2.f0,x.f4.f2.f1,x.f4.f2.f2,x.f4.f2.f3,x.f4.f2.f4,x.f4.f2.f5,x.f4.f2.f6,x.f4.f2.f7,u,x.f4.f2.f9⟩:S44)⟩:S53),()⟩:S88)
 | 24=>(⟨x.f0,x.f1,x.f2,(⟨x.f3.f0,x.f3.f1,x.f3.f2,x.f3.f3,x.f3.f4,x.f3.f5,x.f3.f6,x.f3.f7,x.f3.f8,x.f3.f9⟩:S44),(⟨x.f4.f0,x.f4.f1,(⟨x.f4.f2.f0,x.f4.f2.f1,x.f4.f2.f2,x.f4.f2.f3,x.f4.f2.f4,x.f4.f2.f5,x.f4.f2.f6,x.f4.f2.f7,x.f4.f2.f8,u⟩:S44)⟩:S53),()⟩:S88)
 | _=>x
set_option maxRecDepth 100000 in
set_option maxHeartbeats 4000000 in
theorem put88_M {W : World} {base : Nat} {okp : Nat → Prop} {y : S88} {c : List Value} {j : Nat} {u : Int} (hj : j < 25) (h : k88.M W base okp y c) : k88.M W base okp (put88 y j u) (c.take j ++ [.int .i64 u] ++ c.drop (j + 1)) := by
 obtain rfl := k88_openM h
 match j, hj with
 | 0,_=>exact k88_mkM _ _ _ (put88 y 0 u)
 | 1,_=>exact k88_mkM _ _ _ (put88 y 1 u)
 | 2,_=>exact k88_mkM _ _ _ (put88 y 2 u)
 | 3,_=>exact k88_mkM _ _ _ (put88 y 3 u)
 | 4,_=>exact k88_mkM _ _ _ (put88 y 4 u)
 | 5,_=>exact k88_mkM _ _ _ (put88 y 5 u)
 | 6,_=>exact k88_mkM _ _ _ (put88 y 6 u)
 | 7,_=>exact k88_mkM _ _ _ (put88 y 7 u)
 | 8,_=>exact k88_mkM _ _ _ (put88 y 8 u)
 | 9,_=>exact k88_mkM _ _ _ (put88 y 9 u)
 | 10,_=>exact k88_mkM _ _ _ (put88 y 10 u)
 | 11,_=>exact k88_mkM _ _ _ (put88 y 11 u)
 | 12,_=>exact k88_mkM _ _ _ (put88 y 12 u)
 | 13,_=>exact k88_mkM _ _ _ (put88 y 13 u)
 | 14,_=>exact k88_mkM _ _ _ (put88 y 14 u)
 | 15,_=>exact k88_mkM _ _ _ (put88 y 15 u)
 | 16,_=>exact k88_mkM _ _ _ (put88 y 16 u)
 | 17,_=>exact k88_mkM _ _ _ (put88 y 17 u)
 | 18,_=>exact k88_mkM _ _ _ (put88 y 18 u)
 | 19,_=>exact k88_mkM _ _ _ (put88 y 19 u)
 | 20,_=>exact k88_mkM _ _ _ (put88 y 20 u)
 | 21,_=>exact k88_mkM _ _ _ (put88 y 21 u)
 | 22,_=>exact k88_mkM _ _ _ (put88 y 22 u)
 | 23,_=>exact k88_mkM _ _ _ (put88 y 23 u)
 | 24,_=>exact k88_mkM _ _ _ (put88 y 24 u)
 | j_+25,h_=>exact absurd h_ (by omega)
theorem nil88_25 {e base g n cap : Nat} {ok : Nat → Prop} {W : World} {xs : List S88} (i : Int) (h : Aside0 (k88.R e W base ok (.slice (some ⟨g, 0, none⟩) n cap) xs)) (h0 : (0 ≤ i) = True) (hi : (i < (n : Int)) = True) : W.cell? ⟨g, i.toNat * 26 + 25, none⟩ = some (.slice none 0 0) := by
 obtain ⟨c, hl, hM, hcc, _⟩ := Kd.R_elem h.out z88 i (of_eq_true h0) (of_eq_true hi)
 obtain rfl := k88_openM hM
 exact hcc 25 _ rfl
def put93 (x : S93) (j : Nat) (u : Int) : S93 := match j with
 | 0=>(⟨u,x.f1,x.f2,x.f3,x.f4,x.f5,(⟨x.f6.f0,x.f6.f1,x.f6.f2,x.f6.f3,x.f6.f4,x.f6.f5,x.f6.f6,x.f6.f7,x.f6.f8,x.f6.f9⟩:S44),x.f7,x.f8,x.f9,x.f10,x.f11,x.f12,x.f13,x.f14,(),()⟩:S93)
 | 1=>(⟨x.f0,u,x.f2,x.f3,x.f4,x.f5,(⟨x.f6.f0,x.f6.f1,x.f6.f2,x.f6.f3,x.f6.f4,x.f6.f5,x.f6.f6,x.f6.f7,x.f6.f8,x.f6.f9⟩:S44),x.f7,x.f8,x.f9,x.f10,x.f11,x.f12,x.f13,x.f14,(),()⟩:S93)
 | 2=>(⟨x.f0,x.f1,u,x.f3,x.f4,x.f5,(⟨x.f6.f0,x.f6.f1,x.f6.f2,x.f6.f3,x.f6.f4,x.f6.f5,x.f6.f6,x.f6.f7,x.f6.f8,x.f6.f9⟩:S44),x.f7,x.f8,x.f9,x.f10,x.f11,x.f12,x.f13,x.f14,(),()⟩:S93)
 | 3=>(⟨x.f0,x.f1,x.f2,u,x.f4,x.f5,(⟨x.f6.f0,x.f6.f1,x.f6.f2,x.f6.f3,x.f6.f4,x.f6.f5,x.f6.f6,x.f6.f7,x.f6.f8,x.f6.f9⟩:S44),x.f7,x.f8,x.f9,x.f10,x.f11,x.f12,x.f13,x.f14,(),()⟩:S93)
 | 4=>(⟨x.f0,x.f1,x.f2,x.f3,u,x.f5,(⟨x.f6.f0,x.f6.f1,x.f6.f2,x.f6.f3,x.f6.f4,x.f6.f5,x.f6.f6,x.f6.f7,x.f6.f8,x.f6.f9⟩:S44),x.f7,x.f8,x.f9,x.f10,x.f11,x.f12,x.f13,x.f14,(),()⟩:S93)
 | 5=>(⟨x.f0,x.f1,x.f2,x.f3,x.f4,u,(⟨x.f6.f0,x.f6.f1,x.f6.f2,x.f6.f3,x.f6.f4,x.f6.f5,x.f6.f6,x.f6.f7,x.f6.f8,x.f6.f9⟩:S44),x.f7,x.f8,x.f9,x.f10,x.f11,x.f12,x.f13,x.f14,(),()⟩:S93)
 | 6=>(⟨x.f0,x.f1,x.f2,x.f3,x.f4,x.f5,(⟨u,x.f6.f1,x.f6.f2,x.f6.f3,x.f6.f4,x.f6.f5,x.f6.f6,x.f6.f7,x.f6.f8,x.f6.f9⟩:S44),x.f7,x.f8,x.f9,x.f10,x.f11,x.f12,x.f13,x.f14,(),()⟩:S93)
 | 7=>(⟨x.f0,x.f1,x.f2,x.f3,x.f4,x.f5,(⟨x.f6.f0,u,x.f6.f2,x.f6.f3,x.f6.f4,x.f6.f5,x.f6.f6,x.f6.f7,x.f6.f8,x.f6.f9⟩:S44),x.f7,x.f8,x.f9,x.f10,x.f11,x.f12,x.f13,x.f14,(),()⟩:S93)
 | 8=>(⟨x.f0,x.f1,x.f2,x.f3,x.f4,x.f5,(⟨x.f6.f0,x.f6.f1,u,x.f6.f3,x.f6.f4,x.f6.f5,x.f6.f6,x.f6.f7,x.f6.f8,x.f6.f9⟩:S44),x.f7,x.f8,x.f9,x.f10,x.f11,x.f12,x.f13,x.f14,(),()⟩:S93)
 | 9=>(⟨x.f0,x.f1,x.f2,x.f3,x.f4,x.f5,(⟨x.f6.f0,x.f6.f1,x.f6.f2,u,x.f6.f4,x.f6.f5,x.f6.f6,x.f6.f7,x.f6.f8,x.f6.f9⟩:S44),x.f7,x.f8,x.f9,x.f10,x.f11,x.f12,x.f13,x.f14,(),()⟩:S93)
 | 10=>(⟨x.f0,x.f1,x.f2,x.f3,x.f4,x.f5,(⟨x.f6.f0,x.f6.f1,x.f6.f2,x.f6.f3,u,x.f6.f5,x.f6.f6,x.f6.f7,x.f6.f8,x.f6.f9⟩:S44),x.f7,x.f8,x.f9,x.f10,x.f11,x.f12,x.f13,x.f14,(),()⟩:S93)
 | 11=>(⟨x.f0,x.f1,x.f2,x.f3,x.f4,x.f5,(⟨x.f6.f0,x.f6.f1,x.f6.f2,x.f6.f3,x.f6.f4,u,x.f6.f6,x.f6.f7,x.f6.f8,x.f6.f9⟩:S44),x.f7,x.f8,x.f9,x.f10,x.f11,x.f12,x.f13,x.f14,(),()⟩:S93)
 | 12=>(⟨x.f0,x.f1,x.f2,x.f3,x.f4,x.f5,(⟨x.f6.f0,x.f6.f1,x.f6.f2,x.f6.f3,x.f6.f4,x.f6.f5,u,x.f6.f7,x.f6.f8,x.f6.f9⟩:S44),x.f7,x.f8,x.f9,x.f10,x.f11,x.f12,x.f13,x.f14,(),()⟩:S93)
 | 13=>(⟨x.f0,x.f1,x.f2,x.f3,x.f4,x.f5,(⟨x.f6.f0,x.f6.f1,x.f6.f2,x.f6.f3,x.f6.f4,x.f6.f5,x.f6.f6,u,x.f6.f8,x.f6.f9⟩:S44),x.f7,x.f8,x.f9,x.f10,x.f11,x.f12,x.f13,x.f14,(),()⟩:S93)
 | 14=>(⟨x.f0,x.f1,x.f2,x.f3,x.f4,x.f5,(⟨x.f6.f0,x.f6.f1,x.f6.f2,x.f6.f3,x.f6.f4,x.f6.f5,x.f6.f6,x.f6.f7,u,x.f6.f9⟩:S44),x.f7,x.f8,x.f9,x.f10,x.f11,x.f12,x.f13,x.f14,(),()⟩:S93)
 | 15=>(⟨x.f0,x.f1,x.f2,x.f3,x.f4,x.f5,(⟨x.f6.f0,x.f6.f1,x.f6.f2,x.f6.f3,x.f6.f4,x.f6.f5,x.f6.f6,x.f6.f7,x.f6.f8,u⟩:S44),x.f7,x.f8,x.f9,x.f10,x.f11,x.f12,x.f13,x.f14,(),()⟩:S93)
 | 16=>(⟨x.f0,x.f1,x.f2,x.f3,x.f4,x.f5,(⟨x.f6.f0,x.f6.f1,x.f6.f2,x.f6.f3,x.f6.f4,x.f6.f5,x.f6.f6,x.f6.f7,x.f6.f8,x.f6.f9⟩:S44),u,x.f8,x.f9,x.f10,x.f11,x.f12,x.f13,x.f14,(),()⟩:S93)
 | 17=>(⟨x.f0,x.f1,x.f2,x.f3,x.f4,x.f5,(⟨x.f6.f0,x.f6.f1,x.f6.f2,x.f6.f3,x.f6.f4,x.f6.f5,x.f6.f6,x.f6.f7,x.f6.f8,x.f6.f9⟩:S44),x.f7,u,x.f9,x.f10,x.f11,x.f12,x.f13,x.f14,(),()⟩:S93)
 | 18=>(⟨x.f0,x.f1,x.f2,x.f3,x.f4,x.f5,(⟨x.f6.f0,x.f6.f1,x.f6.f2,x.f6.f3,x.f6.f4,x.f6.f5,x.f6.f6,x.f6.f7,x.f6.f8,x.f6.f9⟩:S44),x.f7,x.f8,u,x.f10,x.f11,x.f12,x.f13,x.f14,(),()⟩:S93)
 | 19=>(⟨x.f0,x.f1,x.f2,x.f3,x.f4,x.f5,(⟨x.f6.f0,x.f6.f1,x.f6.f2,x.f6.f3,x.f6.f4,x.f6.f5,x.f6.f6,x.f6.f7,x.f6.f8,x.f6.f9⟩:S44),x.f7,x.f8,x.f9,u,x.f11,x.f12,x.f13,x.f14,(),()⟩:S93)
 | 20=>(⟨x.f0,x.f1,x.f2,x.f3,x.f4,x.f5,(⟨x.f6.f0,x.f6.f1,x.f6.f2,x.f6.f3,x.f6.f4,x.f6.f5,x.f6.f6,x.f6.f7,x.f6.f8,x.f6.f9⟩:S44),x.f7,x.f8,x.f9,x.f10,u,x.f12,x.f13,x.f14,(),()⟩:S93)
 | 21=>(⟨x.f0,x.f1,x.f2,x.f3,x.f4,x.f5,(⟨x.f6.f0,x.f6.f1,x.f6.f2,x.f6.f3,x.f6.f4,x.f6.f5,x.f6.f6,x.f6.f7,x.f6.f8,x.f6.f9⟩:S44),x.f7,x.f8,x.f9,x.f10,x.f11,u,x.f13,x.f14,(),()⟩:S93)
 | 22=>(⟨x.f0,x.f1,x.f2,x.f3,x.f4,x.f5,(⟨x.f6.f0,x.f6.f1,x.f6.f2,x.f6.f3,x.f6.f4,x.f6.f5,x.f6.f6,x.f6.f7,x.f6.f8,x.f6.f9⟩:S44),x.f7,x.f8,x.f9,x.f10,x.f11,x.f12,u,x.f14,(),()⟩:S93)
 | 23=>(⟨x.f0,x.f1,x.f2,x.f3,x.f4,x.f5,(⟨x.f6.f0,x.f6.f1,x.f6.f2,x.f6.f3,x.f6.f4,x.f6.f5,x.f6.f6,x.f6.f7,x.f6.f8,x.f6.f9⟩:S44),x.f7,x.f8,x.f9,x.f10,x.f11,x.f12,x.f13,u,(),()⟩:S93)
 | _=>x
set_option maxRecDepth 100000 in
set_option maxHeartbeats 4000000 in
theorem put93_M {W : World} {base : Nat} {okp : Nat → Prop} {y : S93} {c : List Value} {j : Nat} {u : Int} (hj : j < 24) (h : k93.M W base okp y c) : k93.M W base okp (put93 y j u) (c.take j ++ [.int .i64 u] ++ c.drop (j + 1)) := by
 obtain rfl := k93_openM h
 match j, hj with
 | 0,_=>exact k93_mkM _ _ _ (put93 y 0 u)
 | 1,_=>exact k93_mkM _ _ _ (put93 y 1 u)
 | 2,_=>exact k93_mkM _ _ _ (put93 y 2 u)
 | 3,_=>exact k93_mkM _ _ _ (put93 y 3 u)
 | 4,_=>exact k93_mkM _ _ _ (put93 y 4 u)
 | 5,_=>exact k93_mkM _ _ _ (put93 y 5 u)
 | 6,_=>exact k93_mkM _ _ _ (put93 y 6 u)
 | 7,_=>exact k93_mkM _ _ _ (put93 y 7 u)
 | 8,_=>exact k93_mkM _ _ _ (put93 y 8 u)
 | 9,_=>exact k93_mkM _ _ _ (put93 y 9 u)
 | 10,_=>exact k93_mkM _ _ _ (put93 y 10 u)
 | 11,_=>exact k93_mkM _ _ _ (put93 y 11 u)
 | 12,_=>exact k93_mkM _ _ _ (put93 y 12 u)
 | 13,_=>exact k93_mkM _ _ _ (put93 y 13 u)
 | 14,_=>exact k93_mkM _ _ _ (put93 y 14 u)
 | 15,_=>exact k93_mkM _ _ _ (put93 y 15 u)
 | 16,_=>exact k93_mkM _ _ _ (put93 y 16 u)
 | 17,_=>exact k93_mkM _ _ _ (put93 y 17 u)
 | 18,_=>exact k93_mkM _ _ _ (put93 y 18 u)
 | 19,_=>exact k93_mkM _ _ _ (put93 y 19 u)
 | 20,_=>exact k93_mkM _ _ _ (put93 y 20 u)
 | 21,_=>exact k93_mkM _ _ _ (put93 y 21 u)
 | 22,_=>exact k93_mkM _ _ _ (put93 y 22 u)
 | 23,_=>exact k93_mkM _ _ _ (put93 y 23 u)
 | j_+24,h_=>exact absurd h_ (by omega)
theorem nil93_24 {e base g n cap : Nat} {ok : Nat → Prop} {W : World} {xs : List S93} (i : Int) (h : Aside0 (k93.R e W base ok (.slice (some ⟨g, 0, none⟩) n cap) xs)) (h0 : (0 ≤ i) = True) (hi : (i < (n : Int)) = True) : W.cell? ⟨g, i.toNat * 26 + 24, none⟩ = some (.slice none 0 0) := by
 obtain ⟨c, hl, hM, hcc, _⟩ := Kd.R_elem h.out z93 i (of_eq_true h0) (of_eq_true hi)
 obtain rfl := k93_openM hM
 exact hcc 24 _ rfl
theorem nil93_25 {e base g n cap : Nat} {ok : Nat → Prop} {W : World} {xs : List S93} (i : Int) (h : Aside0 (k93.R e W base ok (.slice (some ⟨g, 0, none⟩) n cap) xs)) (h0 : (0 ≤ i) = True) (hi : (i < (n : Int)) = True) : W.cell? ⟨g, i.toNat * 26 + 25, none⟩ = some (.slice none 0 0) := by
 obtain ⟨c, hl, hM, hcc, _⟩ := Kd.R_elem h.out z93 i (of_eq_true h0) (of_eq_true hi)
 obtain rfl := k93_openM hM
 exact hcc 25 _ rfl
def put164 (x : S164) (j : Nat) (u : Int) : S164 := match j with
 | 0=>(⟨u,x.f1,x.f2,x.f3⟩:S164)
 | 1=>(⟨x.f0,u,x.f2,x.f3⟩:S164)
 | 2=>(⟨x.f0,x.f1,u,x.f3⟩:S164)
 | 3=>(⟨x.f0,x.f1,x.f2,u⟩:S164)
 | _=>x
set_option maxRecDepth 100000 in
set_option maxHeartbeats 4000000 in
theorem put164_M {W : World} {base : Nat} {okp : Nat → Prop} {y : S164} {c : List Value} {j : Nat} {u : Int} (hj : j < 4) (h : k164.M W base okp y c) : k164.M W base okp (put164 y j u) (c.take j ++ [.int .i64 u] ++ c.drop (j + 1)) := by
 obtain rfl := k164_openM h
 match j, hj with
 | 0,_=>exact k164_mkM _ _ _ (put164 y 0 u)
 | 1,_=>exact k164_mkM _ _ _ (put164 y 1 u)
 | 2,_=>exact k164_mkM _ _ _ (put164 y 2 u)
 | 3,_=>exact k164_mkM _ _ _ (put164 y 3 u)
 | j_+4,h_=>exact absurd h_ (by omega)



end Go.Proofs.Ytncohokalilnbaa.P
