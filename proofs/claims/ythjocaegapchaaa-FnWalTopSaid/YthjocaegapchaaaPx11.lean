-- printed by pprint.py (this session's program over the kit's printer) out of the translation. Lean checks it.
import Derived.Test.YthjocaegapchaaaPx0
import Derived.Test.YthjocaegapchaaaPx2
import Derived.Test.YthjocaegapchaaaPx4
import Derived.Test.YthjocaegapchaaaPx6
import Derived.Test.YthjocaegapchaaaPx7
namespace Go.Proofs.Ythjocaegapchaaa.P
open Go.RowKit Go.Proofs.YthjocaegapchaaaX Go.Proofs.YthjocaegapchaaaW.PrintWords Go.Proofs.YthjocaegapchaaaW.PrintLast Go.Proofs.YthjocaegapchaaaW.PrintMore
attribute [local go_sem] max2_int min2_int max_two min_two max_three min_three max_four min_four   -- for this text's walks alone
set_option linter.unusedVariables false
set_option linter.unusedSimpArgs false

/-- A state of type 110 at block g of W; what its slices lead to came in by w0. -/
def IsS110 (w0 W : World) (g : Nat) (f0 : List Int) (f1 : Int) : Prop := ∃ A0 c0, W.heap[g]? = some (.cells #[.slice A0 f0.length c0, .int .i64 f1] 110 (0, 0)) ∧ w0.heap.size ≤ g ∧ Kd.C (Kd.int .u8) w0 A0 f0.length f0
theorem IsS110.grown {w0 W : World} {g : Nat} {f0 : List Int} {f1 : Int} {W1 : World} {row : Option Nat} (h : IsS110 w0 W g f0 f1) (hw : W.grownBy W1 row) (hne : some g ≠ row) : IsS110 w0 W1 g f0 f1 := by
 obtain ⟨A0,c0,hb,hg,hr0⟩:=h
 exact ⟨A0,c0,blk_grown hb hw hne,hg,hr0⟩
theorem IsS110.own_neN {w0 W : World} {g : Nat} {f0 : List Int} {f1 : Int} {α : Type} {d : Kd α} {e : Nat} {base : Nat} {ok : Nat → Prop} {v : Value} {xs : List α} (h : IsS110 w0 W g f0 f1) (ho : Kd.N d e W base ok v xs) (ht : e ≠ 110) : some g ≠ v.ownBlock := by
 obtain ⟨A0,c0,hb,hg,hr0⟩:=h
 exact Kd.N_ne ho hb ht
theorem IsS110.fresh {w0 W : World} {g : Nat} {f0 : List Int} {f1 : Int} (h : IsS110 w0 W g f0 f1) : ∀ k, W.heap.size ≤ k → k ≠ g := by
 obtain ⟨A0,c0,hb,hg,hr0⟩:=h
 exact Kd.freshB hb
theorem IsS110.kept {w0 W : World} {g : Nat} {f0 : List Int} {f1 : Int} {W1 : World} {S : Nat → Prop} (h : IsS110 w0 W g f0 f1) (hk : Kept W W1 S) (hne : ¬ S g) : IsS110 w0 W1 g f0 f1 := by
 obtain ⟨A0,c0,hb,hg,hr0⟩:=h
 exact ⟨A0,c0,blk_kept hb hk hne,hg,hr0⟩
theorem IsS110.below {w0 W : World} {g : Nat} {f0 : List Int} {f1 : Int} {W1 : World} (h : IsS110 w0 W g f0 f1) (hw : Below W.heap.size W W1) : IsS110 w0 W1 g f0 f1 := h.grown (grown_of_below hw none) (by simp)
theorem IsS110.alloc {w0 W : World} {g : Nat} {f0 : List Int} {f1 : Int} (h : IsS110 w0 W g f0 f1) (o : Obj) : IsS110 w0 (W.alloc o) g f0 f1 := h.below (below_alloc (Below.refl _ _) o)
theorem IsS110.drewN {w0 W : World} {g : Nat} {f0 : List Int} {f1 : Int} (h : IsS110 w0 W g f0 f1) (m : Nat) : IsS110 w0 (W.drewN m) g f0 f1 := h
theorem IsS110.drew {w0 W : World} {g : Nat} {f0 : List Int} {f1 : Int} (h : IsS110 w0 W g f0 f1) : IsS110 w0 W.drew g f0 f1 := h
theorem IsS110.at_ {w0 W : World} {g : Nat} {f0 : List Int} {f1 : Int} {w' : World} {m : Nat} (hq : W.drewN m = w') (h : IsS110 w0 W g f0 f1) : IsS110 w0 w' g f0 f1 := by subst hq; exact IsS110.drewN h m
theorem IsS110.apart {w0 W : World} {g : Nat} {f0 : List Int} {f1 : Int} {α : Type} {d : Kd α} {e : Nat} {base : Nat} {ok : Nat → Prop} {v : Value} {xs : List α} (h : IsS110 w0 W g f0 f1) (ho : d.R e W base ok v xs) (ht : ∀ q, q ∈ e :: d.E → q ≠ 110) : d.R e W base (fun k => ok k ∧ k ≠ g) v xs := by
 obtain ⟨A0,c0,hb,hg,hr0⟩:=h
 exact Kd.R_types ho hb ht
theorem IsS110.own_ne {w0 W : World} {g : Nat} {f0 : List Int} {f1 : Int} {α : Type} {d : Kd α} {e : Nat} {base : Nat} {ok : Nat → Prop} {v : Value} {xs : List α} (h : IsS110 w0 W g f0 f1) (ho : d.R e W base ok v xs) (ht : e ≠ 110) : some g ≠ v.ownBlock := by
 obtain ⟨A0,c0,hb,hg,hr0⟩:=h
 exact Kd.R_ne ho hb ht
theorem IsS110.apartQ {w0 W : World} {g : Nat} {f0 : List Int} {f1 : Int} {α : Type} {d : Kd α} {e : Nat} {base : Nat} {ok : Nat → Prop} {v : Value} {xs : List α} (h : IsS110 w0 W g f0 f1) (ho : d.Q e W base ok v xs) (ht : ∀ q, q ∈ e :: d.E → q ≠ 110) : d.Q e W base (fun k => ok k ∧ k ≠ g) v xs := by
 obtain ⟨A0,c0,hb,hg,hr0⟩:=h
 exact Kd.Q_types ho hb ht
theorem IsS110.own_neQ {w0 W : World} {g : Nat} {f0 : List Int} {f1 : Int} {α : Type} {d : Kd α} {e : Nat} {base : Nat} {ok : Nat → Prop} {v : Value} {xs : List α} (h : IsS110 w0 W g f0 f1) (ho : d.Q e W base ok v xs) (ht : e ≠ 110) : some g ≠ v.ownBlock := by
 obtain ⟨A0,c0,hb,hg,hr0⟩:=h
 exact Kd.Q_ne ho hb ht
theorem IsS110.apartS {w0 W : World} {g : Nat} {f0 : List Int} {f1 : Int} {α : Type} {d : Kd α} {e : Nat} {base : Nat} {ok : Nat → Prop} {v : Value} {xs : List α} (h : IsS110 w0 W g f0 f1) (ho : d.S e W base ok v xs) (ht : ∀ q, q ∈ e :: d.E → q ≠ 110) : d.S e W base (fun k => ok k ∧ k ≠ g) v xs := by
 obtain ⟨A0,c0,hb,hg,hr0⟩:=h
 exact Kd.S_types ho hb ht
theorem IsS110.own_neS {w0 W : World} {g : Nat} {f0 : List Int} {f1 : Int} {α : Type} {d : Kd α} {e : Nat} {base : Nat} {ok : Nat → Prop} {v : Value} {xs : List α} (h : IsS110 w0 W g f0 f1) (ho : d.S e W base ok v xs) (ht : e ≠ 110) : some g ≠ v.ownBlock := by
 obtain ⟨A0,c0,hb,hg,hr0⟩:=h
 exact Kd.S_ne ho hb ht
theorem IsS110.lt {w0 W : World} {g : Nat} {f0 : List Int} {f1 : Int} (h : IsS110 w0 W g f0 f1) : g < W.heap.size := by
 obtain ⟨A0,c0,hb,hg,hr0⟩:=h
 exact blk_lt hb
theorem IsS110.ge {w0 W : World} {g : Nat} {f0 : List Int} {f1 : Int} (h : IsS110 w0 W g f0 f1) : w0.heap.size ≤ g := by
 obtain ⟨A0,c0,hb,hg,hr0⟩:=h
 exact hg
theorem IsS110.ne_blk {w0 W : World} {g : Nat} {f0 : List Int} {f1 : Int} {a : Nat} {cs : Array Value} {t : TypeId} {fr : Nat × Nat} (h : IsS110 w0 W g f0 f1) (hb2 : W.heap[a]? = some (.cells cs t fr)) (ht : t ≠ 110) : g ≠ a := by
 obtain ⟨A0,c0,hb,hg,hr0⟩:=h;rintro rfl;rw [hb] at hb2
 injection hb2 with hb2
 injection hb2 with _ ht2
 exact ht ht2.symm
theorem IsS110.far {w0 W : World} {g : Nat} {f0 : List Int} {f1 : Int} {p : Addr} (h : IsS110 w0 W g f0 f1) (hne : g ≠ p.block) (u : Value) : IsS110 w0 (W.setCell p u) g f0 f1 := by
 obtain ⟨A0,c0,hb,hg,hr0⟩:=h
 exact ⟨A0,c0,blk_far hb hne u,hg,hr0⟩
theorem cellS110_0 {W : World} {g : Nat} {A0 : Option Addr} {c0 : Nat} {f0 : List Int} {f1 : Int} (h : W.heap[g]? = some (.cells #[.slice A0 f0.length c0, .int .i64 f1] 110 (0, 0))) : W.cell? ⟨g, 0, none⟩ = some (.slice A0 f0.length c0) := (blk_cell h 0).trans rfl
theorem cellS110_1 {W : World} {g : Nat} {A0 : Option Addr} {c0 : Nat} {f0 : List Int} {f1 : Int} (h : W.heap[g]? = some (.cells #[.slice A0 f0.length c0, .int .i64 f1] 110 (0, 0))) : W.cell? ⟨g, 1, none⟩ = some (.int .i64 f1) := (blk_cell h 1).trans rfl
theorem IsS110.set_1 {w0 W : World} {g : Nat} {f0 : List Int} {f1 : Int} (h : IsS110 w0 W g f0 f1) (x : Int) : IsS110 w0 (W.setCell ⟨g, 1, none⟩ (.int .i64 x)) g f0 x := by
 obtain ⟨A0,c0,hb,hg,hr0⟩:=h
 exact ⟨A0,c0,by simpa using blk_set hb 1 (.int .i64 x),hg,hr0⟩
theorem IsS110.new (w0 W : World) (A0 : Option Addr) (c0 : Nat) (f0 : List Int) (f1 : Int) (hB : Below w0.heap.size w0 W) (hr0 : Kd.C (Kd.int .u8) w0 A0 f0.length f0) : IsS110 w0 (W.alloc (.cells #[.slice A0 f0.length c0, .int .i64 f1] 110)) W.heap.size f0 f1 := ⟨A0, c0, by simpa using heap_alloc_new W _, hB.size, hr0⟩
theorem IsS110.p {w0 W W' : World} {g : Nat} {f0 f0' : List Int} {f1 f1' : Int} (h : Aside0 (IsS110 w0 W g f0 f1)) (t : IsS110 w0 W g f0 f1 → IsS110 w0 W' g f0' f1' := by intro h;repeat (first|(with_reducible first|exact h|apply IsS110.alloc|apply IsS110.drewN|apply IsS110.drew|apply IsS110.set_1|(apply IsS110.far;rotate_left;exact Aside0.out (by with_reducible assumption);rotate_right))|exact h)) : IsS110 w0 W' g f0' f1' := t h.out

/-! ### spec_l6Rd_pick: function 75 -/
def spec_l6Rd_pick.j0 : Nat → Int → Bool → List Int → Int → Option (Int × Int)
 | 0,_,_,_,_=>none
 | k+1,x1,x24,x1000,x1001=>if x24=true then (some (0,x1001)) else (if (wrap64 (x1001 - 1))<(x1000.length:Int) then (if 0≤(wrap64 (x1001 - 1)) then (if x1=0 then (none) else (some (Int.tmod (wrap64 (rd x1000 (wrap64 (x1001 - 1)))) x1,x1001))) else (none)) else (if (x1000.length:Int)=0 then (none) else (if 0≤(Int.tmod (wrap64 (x1001 - 1)) (x1000.length:Int)) then (if (Int.tmod (wrap64 (x1001 - 1)) (x1000.length:Int))<(x1000.length:Int) then (if 0≤(Int.tmod (wrap64 ((wrap64 ((wrap64 (x1001 - 1)) * 7))+3)) (x1000.length:Int)) then (if (Int.tmod (wrap64 ((wrap64 ((wrap64 (x1001 - 1)) * 7))+3)) (x1000.length:Int))<(x1000.length:Int) then (if x1=0 then (none) else (some (Int.tmod (Go.bits .xor .i64 (wrap64 ((wrap64 ((wrap64 ((wrap64 ((wrap64 (rd x1000 (Int.tmod (wrap64 (x1001 - 1)) (x1000.length:Int)))) * 131))+(wrap64 ((wrap64 (rd x1000 (Int.tmod (wrap64 ((wrap64 ((wrap64 (x1001 - 1)) * 7))+3)) (x1000.length:Int)))) * 1117))))+(wrap64 ((wrap64 (x1001 - 1)) * 29))))+(wrap64 ((wrap64 (Int.tdiv (wrap64 (x1001 - 1)) (x1000.length:Int))) * 53)))) (wrap64 (Int.tdiv (wrap64 ((wrap64 ((wrap64 ((wrap64 ((wrap64 (rd x1000 (Int.tmod (wrap64 (x1001 - 1)) (x1000.length:Int)))) * 131))+(wrap64 ((wrap64 (rd x1000 (Int.tmod (wrap64 ((wrap64 ((wrap64 (x1001 - 1)) * 7))+3)) (x1000.length:Int)))) * 1117))))+(wrap64 ((wrap64 (x1001 - 1)) * 29))))+(wrap64 ((wrap64 (Int.tdiv (wrap64 (x1001 - 1)) (x1000.length:Int))) * 53)))) 64))) x1,x1001))) else (none)) else (none)) else (none)) else (none))))
def spec_l6Rd_pick.f (k : Nat) (s0_0 : List Int) (s0_1 : Int) (a1 : Int) : Option (Int × Int) := if a1 < 1 then (spec_l6Rd_pick.j0 k a1 true s0_0 (wrap64 (s0_1 + 1))) else (spec_l6Rd_pick.j0 k a1 ((s0_0.length : Int) == 0) s0_0 (wrap64 (s0_1 + 1)))
theorem spec_l6Rd_pick.mono_l : ∀ k, (∀ y0 y1 y2 y3, LeO (spec_l6Rd_pick.j0 k y0 y1 y2 y3) (spec_l6Rd_pick.j0 (k + 1) y0 y1 y2 y3))
 | 0=>fun _ _ _ _ r h=>by simp [spec_l6Rd_pick.j0] at h
 | k+1=>by
  have ih0:=spec_l6Rd_pick.mono_l k
  ·intro y0 y1 y2 y3
   unfold spec_l6Rd_pick.j0
   repeat' first
   | (with_reducible first|exact ih0 _ _ _ _|exact LeO.refl _|exact LeO.none _|refine LeO.ite ?_ ?_|refine LeO.bind ?_ (fun _=>?_))|exact ih0 _ _ _ _|exact LeO.none _|refine LeO.ite ?_ ?_|refine LeO.bind ?_ (fun _=>?_)
theorem spec_l6Rd_pick.mono : ∀ a0 a1 a2 k, LeO (spec_l6Rd_pick.f k a0 a1 a2) (spec_l6Rd_pick.f (k + 1) a0 a1 a2) := by
 intro a0 a1 a2 k;have ih0:=spec_l6Rd_pick.mono_l k
 unfold spec_l6Rd_pick.f
 repeat' first
   | (with_reducible first|exact ih0 _ _ _ _|exact LeO.refl _|exact LeO.none _|refine LeO.ite ?_ ?_|refine LeO.bind ?_ (fun _=>?_))|exact ih0 _ _ _ _|exact LeO.none _|refine LeO.ite ?_ ?_|refine LeO.bind ?_ (fun _=>?_)
set_option maxHeartbeats 8000000 in
set_option maxRecDepth 100000 in
theorem spec_l6Rd_pick.calls (k : Nat) (g : Nat) (s0_0 : List Int) (s0_1 : Int) (a1 : Int) (r1 : Int) (r2 : Int) (w0 w : World) (hI : IsS110 w0 w g s0_0 s0_1) (hB : Below w0.heap.size w0 w) (h : spec_l6Rd_pick.f k s0_0 s0_1 a1 = some (r1, r2)) :
  Calls Try.prog 75 #[.pointer (some ⟨g,0,none⟩),.int .i64 a1] w fun e w'=>e=.returned (.int .i64 r1)∧IsS110 w0 w' g s0_0 r2∧Below w0.heap.size w0 w'∧KeepBut w w' g none:=by
 have HI0:=mA hI;have HK:=mA (KeepBut.refl w g none);have HL:=mA hB.size;clear hI;have HW0:=mA hB.size;have HB:=mA hB;clear hB;have H:(if a1<1 then (spec_l6Rd_pick.j0 k a1 true s0_0 (wrap64 (s0_1+1))) else (spec_l6Rd_pick.j0 k a1 ((s0_0.length:Int) == 0) s0_0 (wrap64 (s0_1+1))))=some (r1,r2):=h;clear h;have HC3:=mA H;clear H;obtain ⟨ASz4_0,cSz4_0,HGz4,hgz4,HSz4_0⟩:=HI0.out;have hcz4_0:=cellS110_0 HGz4;have hcz4_1:=cellS110_1 HGz4;have hfz4_1:=blk_frozen HGz4 1;clear HGz4 hgz4
 go_enter Try.func75,Try.ntmps75
 go_upto_region 2 with (fail)
 repeat (go_quiet (fail);go_upto_region 2 with (fail))
 go_cut [24] (fun v24 wc=>∃ (kq:Nat) (x24_2:Bool),v24=.bool x24_2∧Aside0 (spec_l6Rd_pick.j0 kq a1 x24_2 s0_0 (wrap64 (s0_1+1))=some (r1,r2))∧Aside0 (kq≤k)∧Aside0 (IsS110 w0 wc g s0_0 (wrap64 (s0_1+1)))∧Aside0 (KeepBut w wc g none)∧Aside0 (Below w0.heap.size w0 wc))
 case first =>
  have H:=HC3.out;clear HC3
  by_cases c5:a1<1
  ·rw [if_pos c5] at H;have c5b0:decide (a1<1)=true:=decide_eq_true c5;clear c5
   (first|rw [c5b0]|(simp only [i64_w,i32_w];rw [c5b0])|skip)
   have H':=mA H;clear H
   go_wp2
   repeat (go_quiet (fail);try go_wp2)
   go_meet
   case rel=>exact ⟨_,(true),bZ,H',⟨by first|omega|exact Nat.le_refl _⟩,⟨IsS110.p HI0⟩,⟨pH HK⟩,⟨pQ HB (IsS110.ge HI0.out)⟩⟩
  ·rw [if_neg c5] at H;have c5b0:decide (a1<1)=false:=decide_eq_false c5;clear c5
   (first|rw [c5b0]|(simp only [i64_w,i32_w];rw [c5b0])|skip)
   have H':=mA H;clear H;obtain ⟨ASz6_0,cSz6_0,HGz6,hgz6,HSz6_0⟩:=HI0.out;have hcz6_0:=cellS110_0 HGz6;have hcz6_1:=cellS110_1 HGz6;have hfz6_1:=blk_frozen HGz6 1;clear HGz6 hgz6
   go_wp2
   repeat (go_quiet (fail);try go_wp2)
   go_meet
   case rel=>exact ⟨_,(((s0_0.length:Int) == 0)),bZ,H',⟨by first|omega|exact Nat.le_refl _⟩,⟨IsS110.p HI0⟩,⟨pH HK⟩,⟨pQ HB (IsS110.ge HI0.out)⟩⟩
 case rest =>
  clear HC3
  (try clear hcz4_0);(try clear hcz4_1);(try clear hfz4_1)
  obtain ⟨kq,x24_2,rfl,HA,HJ2,HI0,HK,HB⟩:=hcut
  cases kq with
  | zero=>exact absurd HA.out (by simp [spec_l6Rd_pick.j0])
  | succ kj2 =>
   have H:=HA.out;clear HA;simp only [spec_l6Rd_pick.j0] at H
   by_cases c7:x24_2=true
   ·subst c7;rw [if_pos rfl] at H;simp only [Option.some.injEq,Prod.mk.injEq] at H;obtain ⟨rfl,rfl⟩:=H
    go_wp2
    repeat (go_quiet (fail);try go_wp2)
    go_ret
    exact ⟨by first|rfl|(simp [errW_none,errW_some]<;>rfl)|(simp [*,errW_none,errW_some]<;>rfl),IsS110.p HI0,pQ HB (IsS110.ge HI0.out),pH HK⟩
   ·replace c7:=Bool.eq_false_iff.mpr c7;subst c7
    rw [if_neg nFT] at H
    by_cases c8:(wrap64 ((wrap64 (s0_1+1)) - 1))<(s0_0.length:Int)
    ·rw [if_pos c8] at H;have c8b0:decide ((wrap64 ((wrap64 (s0_1+1)) - 1))<(s0_0.length:Int))=true:=decide_eq_true c8;clear c8;obtain ⟨ji9,hji9⟩:∃ j_:Int,(wrap64 ((wrap64 (s0_1+1)) - 1))=j_:=⟨_,rfl⟩
     replace H:(if 0≤(ji9) then (if a1=0 then (none) else (some (Int.tmod (wrap64 (rd s0_0 (ji9))) a1,(wrap64 (s0_1+1))))) else (none))=some (r1,r2):=by first|(rw [hji9] at H;exact H)|(simp only [hji9] at H ⊢;exact H)
     (try rw [hji9] at c8b0)
     have hji9w:(IntKind.i64.wrap ((wrap64 (s0_1+1)) - 1))=ji9:=(i64_w _).trans hji9
     by_cases c10:0≤(ji9)
     ·rw [if_pos c10] at H;have c10b0:decide (0≤(ji9))=true:=decide_eq_true c10;clear c10
      by_cases c11:a1=0
      ·rw [if_pos c11] at H
       exact absurd H (by simp)
      ·rw [if_neg c11] at H;have c11b0:(a1 == 0)=false:=beq_eq_false_iff_ne.mpr c11;have c11b1:(a1 != 0)=true:=bne_iff_ne.mpr c11;simp only [Option.some.injEq,Prod.mk.injEq] at H;obtain ⟨rfl,rfl⟩:=H;obtain ⟨ASz12_0,cSz12_0,HGz12,hgz12,HSz12_0⟩:=HI0.out;have hcz12_0:=cellS110_0 HGz12;have hcz12_1:=cellS110_1 HGz12;have hfz12_1:=blk_frozen HGz12 1;clear HGz12 hgz12;have p622:0≤((ji9):Int):=of_decide_eq_true bA;have q622:(ji9)<(s0_0.length:Int):=of_decide_eq_true bA;obtain ⟨ad622,e622,hx622_0⟩:=Kd.at_int HSz12_0 (ji9) p622 q622;cases e622;replace hx622_0:=pw_cell_below HB.out hx622_0;replace p622:=eq_true p622;replace q622:=eq_true q622
       go_wp2
       repeat (go_quiet (fail);try go_wp2)
       go_ret
       exact ⟨by first|rfl|(simp [errW_none,errW_some]<;>rfl)|(simp only [← hji9];first|rfl|(simp [errW_none,errW_some]<;>rfl))|(simp [*,errW_none,errW_some]<;>rfl),IsS110.p HI0,pQ HB (IsS110.ge HI0.out),pH HK⟩
     ·rw [if_neg c10] at H
      exact absurd H (by simp)
    ·rw [if_neg c8] at H;have c8b0:decide ((wrap64 ((wrap64 (s0_1+1)) - 1))<(s0_0.length:Int))=false:=decide_eq_false c8;clear c8
     by_cases c13:(s0_0.length:Int)=0
     ·rw [if_pos c13] at H
      exact absurd H (by simp)
     ·rw [if_neg c13] at H;have c13b0:((s0_0.length:Int) == 0)=false:=beq_eq_false_iff_ne.mpr c13;have c13b1:((s0_0.length:Int) != 0)=true:=bne_iff_ne.mpr c13
      have c13b2:¬ (s0_0=[]):=fun h_=>c13 (by rw [h_];rfl)
      obtain ⟨ji14,hji14⟩:∃ j_:Int,(Int.tmod (wrap64 ((wrap64 (s0_1+1)) - 1)) (s0_0.length:Int))=j_:=⟨_,rfl⟩
      replace H:(if 0≤(ji14) then (if (ji14)<(s0_0.length:Int) then (if 0≤(Int.tmod (wrap64 ((wrap64 ((wrap64 ((wrap64 (s0_1+1)) - 1)) * 7))+3)) (s0_0.length:Int)) then (if (Int.tmod (wrap64 ((wrap64 ((wrap64 ((wrap64 (s0_1+1)) - 1)) * 7))+3)) (s0_0.length:Int))<(s0_0.length:Int) then (if a1=0 then (none) else (some (Int.tmod (Go.bits .xor .i64 (wrap64 ((wrap64 ((wrap64 ((wrap64 ((wrap64 (rd s0_0 (ji14))) * 131))+(wrap64 ((wrap64 (rd s0_0 (Int.tmod (wrap64 ((wrap64 ((wrap64 ((wrap64 (s0_1+1)) - 1)) * 7))+3)) (s0_0.length:Int)))) * 1117))))+(wrap64 ((wrap64 ((wrap64 (s0_1+1)) - 1)) * 29))))+(wrap64 ((wrap64 (Int.tdiv (wrap64 ((wrap64 (s0_1+1)) - 1)) (s0_0.length:Int))) * 53)))) (wrap64 (Int.tdiv (wrap64 ((wrap64 ((wrap64 ((wrap64 ((wrap64 (rd s0_0 (ji14))) * 131))+(wrap64 ((wrap64 (rd s0_0 (Int.tmod (wrap64 ((wrap64 ((wrap64 ((wrap64 (s0_1+1)) - 1)) * 7))+3)) (s0_0.length:Int)))) * 1117))))+(wrap64 ((wrap64 ((wrap64 (s0_1+1)) - 1)) * 29))))+(wrap64 ((wrap64 (Int.tdiv (wrap64 ((wrap64 (s0_1+1)) - 1)) (s0_0.length:Int))) * 53)))) 64))) a1,(wrap64 (s0_1+1))))) else (none)) else (none)) else (none)) else (none))=some (r1,r2):=by first|(rw [hji14] at H;exact H)|(simp only [hji14] at H ⊢;exact H)
      by_cases c15:0≤(ji14)
      ·rw [if_pos c15] at H;have c15b0:decide (0≤(ji14))=true:=decide_eq_true c15;clear c15
       by_cases c16:(ji14)<(s0_0.length:Int)
       ·rw [if_pos c16] at H;have c16b0:decide ((ji14)<(s0_0.length:Int))=true:=decide_eq_true c16;clear c16;obtain ⟨ji17,hji17⟩:∃ j_:Int,(Int.tmod (wrap64 ((wrap64 ((wrap64 ((wrap64 (s0_1+1)) - 1)) * 7))+3)) (s0_0.length:Int))=j_:=⟨_,rfl⟩
        replace H:(if 0≤(ji17) then (if (ji17)<(s0_0.length:Int) then (if a1=0 then (none) else (some (Int.tmod (Go.bits .xor .i64 (wrap64 ((wrap64 ((wrap64 ((wrap64 ((wrap64 (rd s0_0 (ji14))) * 131))+(wrap64 ((wrap64 (rd s0_0 (ji17))) * 1117))))+(wrap64 ((wrap64 ((wrap64 (s0_1+1)) - 1)) * 29))))+(wrap64 ((wrap64 (Int.tdiv (wrap64 ((wrap64 (s0_1+1)) - 1)) (s0_0.length:Int))) * 53)))) (wrap64 (Int.tdiv (wrap64 ((wrap64 ((wrap64 ((wrap64 ((wrap64 (rd s0_0 (ji14))) * 131))+(wrap64 ((wrap64 (rd s0_0 (ji17))) * 1117))))+(wrap64 ((wrap64 ((wrap64 (s0_1+1)) - 1)) * 29))))+(wrap64 ((wrap64 (Int.tdiv (wrap64 ((wrap64 (s0_1+1)) - 1)) (s0_0.length:Int))) * 53)))) 64))) a1,(wrap64 (s0_1+1))))) else (none)) else (none))=some (r1,r2):=by first|(rw [hji17] at H;exact H)|(simp only [hji17] at H ⊢;exact H)
        by_cases c18:0≤(ji17)
        ·rw [if_pos c18] at H;have c18b0:decide (0≤(ji17))=true:=decide_eq_true c18;clear c18
         by_cases c19:(ji17)<(s0_0.length:Int)
         ·rw [if_pos c19] at H;have c19b0:decide ((ji17)<(s0_0.length:Int))=true:=decide_eq_true c19;clear c19
          by_cases c20:a1=0
          ·rw [if_pos c20] at H
           exact absurd H (by simp)
          ·rw [if_neg c20] at H;have c20b0:(a1 == 0)=false:=beq_eq_false_iff_ne.mpr c20;have c20b1:(a1 != 0)=true:=bne_iff_ne.mpr c20;simp only [Option.some.injEq,Prod.mk.injEq] at H;obtain ⟨rfl,rfl⟩:=H;obtain ⟨ASz21_0,cSz21_0,HGz21,hgz21,HSz21_0⟩:=HI0.out;have hcz21_0:=cellS110_0 HGz21;have hcz21_1:=cellS110_1 HGz21;have hfz21_1:=blk_frozen HGz21 1;clear HGz21 hgz21;have p623:0≤((ji14):Int):=of_decide_eq_true bA;have q623:(ji14)<(s0_0.length:Int):=of_decide_eq_true bA;obtain ⟨ad623,e623,hx623_0⟩:=Kd.at_int HSz21_0 (ji14) p623 q623;cases e623;replace hx623_0:=pw_cell_below HB.out hx623_0;replace p623:=eq_true p623;replace q623:=eq_true q623;have p624:0≤((ji17):Int):=of_decide_eq_true bA;have q624:(ji17)<(s0_0.length:Int):=of_decide_eq_true bA;obtain ⟨ad624,e624,hx624_0⟩:=Kd.at_int HSz21_0 (ji17) p624 q624
           obtain rfl:ad623=ad624:=(by injection e624)
           replace hx624_0:=pw_cell_below HB.out hx624_0;replace p624:=eq_true p624;replace q624:=eq_true q624
           go_wp2
           repeat (go_quiet (fail);try go_wp2)
           go_ret
           exact ⟨by first|rfl|(simp [errW_none,errW_some]<;>rfl)|(simp only [← hji14,← hji17];first|rfl|(simp [errW_none,errW_some]<;>rfl))|(simp [*,errW_none,errW_some]<;>rfl),IsS110.p HI0,pQ HB (IsS110.ge HI0.out),pH HK⟩
         ·rw [if_neg c19] at H
          exact absurd H (by simp)
        ·rw [if_neg c18] at H
         exact absurd H (by simp)
       ·rw [if_neg c16] at H
        exact absurd H (by simp)
      ·rw [if_neg c15] at H
       exact absurd H (by simp)

/-! ### spec_l6Many: function 76 -/
def spec_l6Many.l0 : Nat → ByteArray → Int → ByteArray → Option (ByteArray)
 | 0,_,_,_=>none
 | k+1,x0,x1,x5=>if x1 > 0 then (if (Int.tmod x1 2)=1 then (if x5.size+x0.size≤9223372036854775807 then (if x0.size+x0.size≤9223372036854775807 then (spec_l6Many.l0 k (x0 ++ x0) (wrap64 (Int.tdiv x1 2)) (x5 ++ x0)) else (none)) else (none)) else (if x0.size+x0.size≤9223372036854775807 then (spec_l6Many.l0 k (x0 ++ x0) (wrap64 (Int.tdiv x1 2)) x5) else (none))) else (some x5)
def spec_l6Many.f (k : Nat) (a0 : ByteArray) (a1 : Int) : Option (ByteArray) := spec_l6Many.l0 k a0 a1 (⟨#[]⟩ : ByteArray)
theorem spec_l6Many.mono_l : ∀ k, (∀ y0 y1 y2, LeO (spec_l6Many.l0 k y0 y1 y2) (spec_l6Many.l0 (k + 1) y0 y1 y2))
 | 0=>fun _ _ _ r h=>by simp [spec_l6Many.l0] at h
 | k+1=>by
  have ih0:=spec_l6Many.mono_l k
  ·intro y0 y1 y2
   unfold spec_l6Many.l0
   repeat' first
   | (with_reducible first|exact ih0 _ _ _|exact LeO.refl _|exact LeO.none _|refine LeO.ite ?_ ?_|refine LeO.bind ?_ (fun _=>?_))|exact ih0 _ _ _|exact LeO.none _|refine LeO.ite ?_ ?_|refine LeO.bind ?_ (fun _=>?_)
theorem spec_l6Many.mono : ∀ a0 a1 k, LeO (spec_l6Many.f k a0 a1) (spec_l6Many.f (k + 1) a0 a1) := by
 intro a0 a1 k;have ih0:=spec_l6Many.mono_l k
 unfold spec_l6Many.f
 repeat' first
   | (with_reducible first|exact ih0 _ _ _|exact LeO.refl _|exact LeO.none _|refine LeO.ite ?_ ?_|refine LeO.bind ?_ (fun _=>?_))|exact ih0 _ _ _|exact LeO.none _|refine LeO.ite ?_ ?_|refine LeO.bind ?_ (fun _=>?_)
set_option maxHeartbeats 8000000 in
set_option maxRecDepth 100000 in
theorem spec_l6Many.calls (k : Nat) (a0 : ByteArray) (a1 : Int) (r : ByteArray) (w : World) (h : spec_l6Many.f k a0 a1 = some r) :
  Calls Try.prog 76 #[.string a0,.int .i64 a1] w fun e w'=>e=.returned (.string r)∧Drawn0 w w':=by
 have H:(spec_l6Many.l0 k a0 a1 (⟨#[]⟩:ByteArray))=some r:=h;clear h;have H':=mA H;clear H
 go_enter Try.func76,Try.ntmps76
 go_wp2
 go_loopg [0,1,5] k (fun kq v0 v1 v5 w'=>∃ (x0_1:ByteArray) (x1_1:Int) (x5_1:ByteArray),v0=.string x0_1∧v1=.int .i64 x1_1∧v5=.string x5_1∧Aside0 (spec_l6Many.l0 kq x0_1 x1_1 x5_1=some r)∧Aside0 (kq≤k)∧Drawn0 w w')
 case atStart=>exact ⟨(a0),(a1),((⟨#[]⟩:ByteArray)),bZ,bZ,bZ,H',⟨Nat.le_refl _⟩,by repeat (first|exact Drawn0.refl _|apply Drawn0.step)⟩
 case round =>
  clear H'
  obtain ⟨x0_1,x1_1,x5_1,rfl,rfl,rfl,HA,HK1,⟨m1,rfl⟩⟩:=hrel
  cases gk with
  | zero=>exact absurd HA.out (by simp [spec_l6Many.l0])
  | succ k1 =>
   have H:=HA.out;clear HA;simp only [spec_l6Many.l0] at H
   by_cases c3:x1_1 > 0
   ·rw [if_pos c3] at H;have c3b0:decide (0<x1_1)=true:=decide_eq_true c3;clear c3
    by_cases c4:(Int.tmod x1_1 2)=1
    ·rw [if_pos c4] at H;obtain ⟨c4b0,c4b1⟩:=eqB c4;clear c4
     by_cases c5:x5_1.size+x0_1.size≤9223372036854775807
     ·rw [if_pos c5] at H;have c5b0:=eq_true c5;have c5b1:decide (x5_1.size+x0_1.size≤9223372036854775807)=true:=decide_eq_true c5
      try have c5b2:(9223372036854775807<x5_1.size+x0_1.size)=False:=eq_false (Nat.not_lt.2 c5)
      by_cases c6:x0_1.size+x0_1.size≤9223372036854775807
      ·rw [if_pos c6] at H;have c6b0:=eq_true c6;have c6b1:decide (x0_1.size+x0_1.size≤9223372036854775807)=true:=decide_eq_true c6
       try have c6b2:(9223372036854775807<x0_1.size+x0_1.size)=False:=eq_false (Nat.not_lt.2 c6)
       have H':=mA H;clear H
       go_wp2
       go_roundg k1
       case measure=>have:=HK1.out;omega
       case rel=>exact ⟨(x0_1 ++ x0_1),(wrap64 (Int.tdiv x1_1 2)),(x5_1 ++ x0_1),bZ,bZ,bZ,H',⟨by have:=HK1.out;omega⟩,by repeat (first|exact Drawn0.refl _|apply Drawn0.step)⟩
      ·rw [if_neg c6] at H
       exact absurd H (by simp)
     ·rw [if_neg c5] at H
      exact absurd H (by simp)
    ·rw [if_neg c4] at H;have c4b0:((Int.tmod x1_1 2) == 1)=false:=beq_eq_false_iff_ne.mpr c4;have c4b1:((Int.tmod x1_1 2) != 1)=true:=bne_iff_ne.mpr c4
     by_cases c7:x0_1.size+x0_1.size≤9223372036854775807
     ·rw [if_pos c7] at H;have c7b0:=eq_true c7;have c7b1:decide (x0_1.size+x0_1.size≤9223372036854775807)=true:=decide_eq_true c7
      try have c7b2:(9223372036854775807<x0_1.size+x0_1.size)=False:=eq_false (Nat.not_lt.2 c7)
      have H':=mA H;clear H
      go_wp2
      go_roundg k1
      case measure=>have:=HK1.out;omega
      case rel=>exact ⟨(x0_1 ++ x0_1),(wrap64 (Int.tdiv x1_1 2)),(x5_1),bZ,bZ,bZ,H',⟨by have:=HK1.out;omega⟩,by repeat (first|exact Drawn0.refl _|apply Drawn0.step)⟩
     ·rw [if_neg c7] at H
      exact absurd H (by simp)
   ·rw [if_neg c3] at H;have c3b0:decide (0<x1_1)=false:=decide_eq_false c3;clear c3;obtain rfl:=Option.some.inj H
    go_wp2
    go_ret
    exact ⟨by first|rfl|(simp;done)|(simp [*];done),by repeat (first|exact Drawn0.refl _|apply Drawn0.step)⟩

/-! ### spec_l6Rd_of: function 86 -/
def spec_l6Rd_of.f (k : Nat) (s0_0 : List Int) (s0_1 : Int) (l1 : List ByteArray) : Option (ByteArray × Int) := (spec_l6Rd_pick.f k s0_0 s0_1 (l1.length : Int)).bind fun bt705 => (if 0 ≤ bt705.1 then (if bt705.1 < (l1.length : Int) then (some (rdOf ByteArray.empty l1 bt705.1, bt705.2)) else (none)) else (none))
theorem spec_l6Rd_of.mono : ∀ a0 a1 a2 k, LeO (spec_l6Rd_of.f k a0 a1 a2) (spec_l6Rd_of.f (k + 1) a0 a1 a2) := by
 intro a0 a1 a2 k
 unfold spec_l6Rd_of.f
 repeat' first
   | (with_reducible first|exact spec_l6Rd_pick.mono _ _ _ _|exact LeO.refl _|exact LeO.none _|refine LeO.ite ?_ ?_|refine LeO.bind ?_ (fun _=>?_))|exact spec_l6Rd_pick.mono _ _ _ _|exact LeO.none _|refine LeO.ite ?_ ?_|refine LeO.bind ?_ (fun _=>?_)
set_option maxHeartbeats 8000000 in
set_option maxRecDepth 100000 in
theorem spec_l6Rd_of.calls (k : Nat) (g : Nat) (s0_0 : List Int) (s0_1 : Int) (A1 : Option Addr) (c1 : Nat) (l1 : List ByteArray) (r1 : ByteArray) (r2 : Int) (w0 w : World) (hI : IsS110 w0 w g s0_0 s0_1) (hB : Below w0.heap.size w0 w) (hr1 : Kd.C Kd.string w A1 l1.length l1) (hc1 : l1.length ≤ c1) (hf1 : ∀ ad, A1 = some ad → 0 < l1.length → ad.block ≠ g) (h : spec_l6Rd_of.f k s0_0 s0_1 l1 = some (r1, r2)) :
  Calls Try.prog 86 #[.pointer (some ⟨g,0,none⟩),.slice A1 l1.length c1] w fun e w'=>e=.returned (.string r1)∧IsS110 w0 w' g s0_0 r2∧Below w0.heap.size w0 w'∧KeepBut w w' g none:=by
 have HR1:=mA hr1;have HC1:=mA hc1;clear hr1 hc1;have HI0:=mA hI;have HK:=mA (KeepBut.refl w g none);have HL:=mA hB.size;clear hI;have HW0:=mA hB.size;have HB:=mA hB;clear hB;have H:((spec_l6Rd_pick.f k s0_0 s0_1 (l1.length:Int)).bind fun bt705=>(if 0≤bt705.1 then (if bt705.1<(l1.length:Int) then (some (rdOf ByteArray.empty l1 bt705.1,bt705.2)) else (none)) else (none)))=some (r1,r2):=h;clear h;obtain ⟨⟨t705,t706⟩,A3,H⟩:=bI H;(try dsimp only at H)
 by_cases c4:0≤t705
 ·rw [if_pos c4] at H;have c4b0:decide (0≤t705)=true:=decide_eq_true c4;clear c4
  by_cases c5:t705<(l1.length:Int)
  ·rw [if_pos c5] at H;have c5b0:decide (t705<(l1.length:Int))=true:=decide_eq_true c5;clear c5;simp only [Option.some.injEq,Prod.mk.injEq] at H;obtain ⟨rfl,rfl⟩:=H
   go_enter Try.func86,Try.ntmps86
   go_wp2_with (first|(refine gL (some 9) Try.func75 #[.pointer (some ⟨g,0,none⟩),.int .i64 (l1.length:Int)] ?_;(with_reducible refine (spec_l6Rd_pick.calls k g s0_0 s0_1 (l1.length:Int) t705 t706 w0 _ ?s1 ?s2 A3.out).mono ?_);(case s1=>exact IsS110.p HI0);(case s2=>exact pQ HB (IsS110.ge HI0.out));rintro e w6 ⟨rfl,hi,hb,hk⟩;refine ⟨_,rfl,?_⟩;replace HK:=mA (KeepBut.trans (pH HK) hk (.inl rfl));replace HB:=mA hb;replace HI0:=mA hi;(try clear hb);(try clear hk);(try clear hi);have p707:0≤(t705:Int):=of_decide_eq_true bA;have q707:t705<(l1.length:Int):=of_decide_eq_true bA;obtain ⟨ad707,e707,hx707_0⟩:=Kd.at_string HR1.out t705 p707 q707;cases e707;replace hx707_0:=keep_cell HK.out hx707_0 (by first|(rw [add_block];exact hf1 _ rfl (by omega))|exact hf1 _ rfl (by omega)|exact hf1 ad707 rfl (by omega));replace p707:=eq_true p707;replace q707:=eq_true q707))
   go_ret
   exact ⟨by first|rfl|(simp [errW_none,errW_some]<;>rfl)|(simp [*,errW_none,errW_some]<;>rfl),IsS110.p HI0,pQ HB (IsS110.ge HI0.out),pH HK⟩
  ·rw [if_neg c5] at H
   exact absurd H (by simp)
 ·rw [if_neg c4] at H
  exact absurd H (by simp)

/-! ### spec_l72Text: function 78 -/
def spec_l72Text.f (k : Nat) (s0_0 : List Int) (s0_1 : Int) (a1 : Int) : Option (ByteArray × Int) := (spec_l6Rd_of.f k s0_0 s0_1 (([(⟨#[97]⟩ : ByteArray), (⟨#[98]⟩ : ByteArray), (⟨#[0]⟩ : ByteArray), (⟨#[122]⟩ : ByteArray)] : List ByteArray))).bind fun bt711 => ((spec_l6Rd_pick.f k s0_0 bt711.2 4).bind fun bt713 => ((spec_l6Rd_pick.f k s0_0 bt713.2 (wrap64 ((wrap64 (Int.tdiv a1 3)) + 1))).bind fun bt715 => ((spec_l6Many.f k bt711.1 (wrap64 (bt713.1 * bt715.1))).bind fun t717 => (some (t717, bt715.2)))))
theorem spec_l72Text.mono : ∀ a0 a1 a2 k, LeO (spec_l72Text.f k a0 a1 a2) (spec_l72Text.f (k + 1) a0 a1 a2) := by
 intro a0 a1 a2 k
 unfold spec_l72Text.f
 repeat' first
   | (with_reducible first|exact spec_l6Many.mono _ _ _|exact spec_l6Rd_of.mono _ _ _ _|exact spec_l6Rd_pick.mono _ _ _ _|exact LeO.refl _|exact LeO.none _|refine LeO.ite ?_ ?_|refine LeO.bind ?_ (fun _=>?_))|exact spec_l6Many.mono _ _ _|exact spec_l6Rd_of.mono _ _ _ _|exact spec_l6Rd_pick.mono _ _ _ _|exact LeO.none _|refine LeO.ite ?_ ?_|refine LeO.bind ?_ (fun _=>?_)
set_option maxHeartbeats 8000000 in
set_option maxRecDepth 100000 in
theorem spec_l72Text.calls (k : Nat) (g : Nat) (s0_0 : List Int) (s0_1 : Int) (a1 : Int) (r1 : ByteArray) (r2 : Int) (w0 w : World) (hI : IsS110 w0 w g s0_0 s0_1) (hB : Below w0.heap.size w0 w) (h : spec_l72Text.f k s0_0 s0_1 a1 = some (r1, r2)) :
  Calls Try.prog 78 #[.pointer (some ⟨g,0,none⟩),.int .i64 a1] w fun e w'=>e=.returned (.string r1)∧IsS110 w0 w' g s0_0 r2∧Below w0.heap.size w0 w'∧KeepBut w w' g none:=by
 have HI0:=mA hI;have HK:=mA (KeepBut.refl w g none);have HL:=mA hB.size;clear hI;have HW0:=mA hB.size;have HB:=mA hB;clear hB;have H:((spec_l6Rd_of.f k s0_0 s0_1 (([(⟨#[97]⟩:ByteArray),(⟨#[98]⟩:ByteArray),(⟨#[0]⟩:ByteArray),(⟨#[122]⟩:ByteArray)]:List ByteArray))).bind fun bt711=>((spec_l6Rd_pick.f k s0_0 bt711.2 4).bind fun bt713=>((spec_l6Rd_pick.f k s0_0 bt713.2 (wrap64 ((wrap64 (Int.tdiv a1 3))+1))).bind fun bt715=>((spec_l6Many.f k bt711.1 (wrap64 (bt713.1 * bt715.1))).bind fun t717=>(some (t717,bt715.2))))))=some (r1,r2):=h;clear h;obtain ⟨y708,hy708⟩:∃ y_:List ByteArray,y_=(([(⟨#[97]⟩:ByteArray),(⟨#[98]⟩:ByteArray),(⟨#[0]⟩:ByteArray),(⟨#[122]⟩:ByteArray)]:List ByteArray)):=⟨_,rfl⟩
 replace H:((spec_l6Rd_of.f k s0_0 s0_1 y708).bind fun bt711=>((spec_l6Rd_pick.f k s0_0 bt711.2 4).bind fun bt713=>((spec_l6Rd_pick.f k s0_0 bt713.2 (wrap64 ((wrap64 (Int.tdiv a1 3))+1))).bind fun bt715=>((spec_l6Many.f k bt711.1 (wrap64 (bt713.1 * bt715.1))).bind fun t717=>(some (t717,bt715.2))))))=some (r1,r2):=qH hy708 H
 have Ny708:=mA hy708;clear hy708;obtain ⟨⟨t711,t712⟩,A3,H⟩:=bI H;(try dsimp only at H);obtain ⟨⟨t713,t714⟩,A4,H⟩:=bI H;(try dsimp only at H);obtain ⟨⟨t715,t716⟩,A5,H⟩:=bI H;(try dsimp only at H);obtain ⟨t717,A6,H⟩:=bI H;(try dsimp only at H);simp only [Option.some.injEq,Prod.mk.injEq] at H;obtain ⟨rfl,rfl⟩:=H
 go_enter Try.func78,Try.ntmps78
 go_wp2_with (first|((with_reducible refine gate_dst (N:=6) rfl ?_);refine Kd.R_lit Kd.string _ 9 ?hg (N:=6) ?hd (xs:=([(⟨#[97]⟩:ByteArray),(⟨#[98]⟩:ByteArray),(⟨#[0]⟩:ByteArray),(⟨#[122]⟩:ByteArray)]:List ByteArray)) (inner:=[.string (⟨#[97]⟩:ByteArray),.string (⟨#[98]⟩:ByteArray),.string (⟨#[0]⟩:ByteArray),.string (⟨#[122]⟩:ByteArray)]) (ok:=fun _=>True) (okp:=fun _=>True) ?hr ?hp (fun _ hk=>hk) trivial (Below.refl _ _) (Nat.le_refl _) (by simp) ?_;(case hd=>rfl);(case hg=>rfl);(case hr=>first|(go_simp;done)|(go_simp;rfl));(case hp=>exact (Reps.one (show Kd.M Kd.string _ _ _ (⟨#[97]⟩:ByteArray) [.string (⟨#[97]⟩:ByteArray)] from rfl) (Reps.one (show Kd.M Kd.string _ _ _ (⟨#[98]⟩:ByteArray) [.string (⟨#[98]⟩:ByteArray)] from rfl) (Reps.one (show Kd.M Kd.string _ _ _ (⟨#[0]⟩:ByteArray) [.string (⟨#[0]⟩:ByteArray)] from rfl) (Reps.one (show Kd.M Kd.string _ _ _ (⟨#[122]⟩:ByteArray) [.string (⟨#[122]⟩:ByteArray)] from rfl) (Reps.none _ _))))));intro v709 w7 ho8 hb hg_ hnew_;clear hg_ hnew_;(first|rw [← Ny708.out] at ho8|(simp only [Int.reduceToNat] at ho8;rw [← Ny708.out] at ho8));have HO710:=mA (Kd.R_lower ho8 (kS HK));replace HK:=mA (KeepBut.trans (pH HK) (KeepBut.of_below hb g none) (.inl rfl));replace HB:=mA (below_step (pQ HB (IsS110.ge HI0.out)) hb);replace HI0:=mA (IsS110.below (IsS110.p HI0) hb);clear hb ho8;obtain ⟨Ao9,co9,rfl⟩:=Kd.R_slice HO710.out)|(refine gL (some 7) Try.func86 #[.pointer (some ⟨g,0,none⟩),.slice Ao9 y708.length co9] ?_;(with_reducible refine (spec_l6Rd_of.calls k g s0_0 s0_1 _ _ y708 t711 t712 w0 _ ?s1 ?s2 ?s3 ?s4 ?s5 A3.out).mono ?_);(case s1=>exact IsS110.p HI0);(case s2=>exact pQ HB (IsS110.ge HI0.out));(case s3=>exact cR HO710);(case s4=>exact cL HO710);(case s5=>exact far_slice (IsS110.own_ne HI0.out HO710.out aD));rintro e w10 ⟨rfl,hi,hb,hk⟩;refine ⟨_,rfl,?_⟩;replace HO710:=mA (rK (IsS110.apart (IsS110.p HI0) (pR HO710.out) aD) hk);replace HK:=mA (KeepBut.trans (pH HK) hk (.inl rfl));replace HB:=mA hb;replace HI0:=mA hi;(try clear hb);(try clear hk);(try clear hi))|(refine gL (some 9) Try.func75 #[.pointer (some ⟨g,0,none⟩),.int .i64 4] ?_;(with_reducible refine (spec_l6Rd_pick.calls k g s0_0 t712 4 t713 t714 w0 _ ?s1 ?s2 A4.out).mono ?_);(case s1=>exact IsS110.p HI0);(case s2=>exact pQ HB (IsS110.ge HI0.out));rintro e w11 ⟨rfl,hi,hb,hk⟩;refine ⟨_,rfl,?_⟩;replace HO710:=mA (rK (IsS110.apart (IsS110.p HI0) (pR HO710.out) aD) hk);replace HK:=mA (KeepBut.trans (pH HK) hk (.inl rfl));replace HB:=mA hb;replace HI0:=mA hi;(try clear hb);(try clear hk);(try clear hi))|(refine gL (some 14) Try.func75 #[.pointer (some ⟨g,0,none⟩),.int .i64 (wrap64 ((wrap64 (Int.tdiv a1 3))+1))] ?_;(with_reducible refine (spec_l6Rd_pick.calls k g s0_0 t714 (wrap64 ((wrap64 (Int.tdiv a1 3))+1)) t715 t716 w0 _ ?s1 ?s2 A5.out).mono ?_);(case s1=>exact IsS110.p HI0);(case s2=>exact pQ HB (IsS110.ge HI0.out));rintro e w12 ⟨rfl,hi,hb,hk⟩;refine ⟨_,rfl,?_⟩;replace HO710:=mA (rK (IsS110.apart (IsS110.p HI0) (pR HO710.out) aD) hk);replace HK:=mA (KeepBut.trans (pH HK) hk (.inl rfl));replace HB:=mA hb;replace HI0:=mA hi;(try clear hb);(try clear hk);(try clear hi))|(refine gL (some 16) Try.func76 #[.string t711,.int .i64 (wrap64 (t713 * t715))] ?_;(with_reducible refine (spec_l6Many.calls k t711 (wrap64 (t713 * t715)) t717 _ A6.out).mono ?_);rintro e w' ⟨rfl,⟨nd,rfl⟩⟩;refine ⟨_,rfl,?_⟩))
 go_ret
 exact ⟨by first|rfl|(simp [errW_none,errW_some]<;>rfl)|(simp [*,errW_none,errW_some]<;>rfl),IsS110.p HI0,pQ HB (IsS110.ge HI0.out),pH HK⟩

/-! ### spec_l72Homes: function 74 -/
mutual
def spec_l72Homes.l0 : Nat → List ByteArray → Int → List Int → Int → Option (List ByteArray × Int)
 | 0,_,_,_,_=>none
 | k+1,x5,x6,x1000,x1001=>if x6 > 0 then (spec_l72Homes.j1 k x5 x6 (decide ((x5.length:Int) > 0)) x1000 x1001) else (spec_l72Homes.j1 k x5 x6 false x1000 x1001)
def spec_l72Homes.j1 : Nat → List ByteArray → Int → Bool → List Int → Int → Option (List ByteArray × Int)
 | 0,_,_,_,_,_=>none
 | k+1,x5,x6,x18,x1000,x1001=>if x18=true then ((spec_l6Rd_pick.f k x1000 x1001 5).bind fun bt726=>((spec_l6Rd_pick.f k x1000 bt726.2 (wrap64 ((wrap64 ((x5.length:Int) / 5))+1))).bind fun bt728=>(if (x5.length:Int)=0 then (none) else ((spec_l72Text.f k x1000 bt728.2 15).bind fun bt730=>(if 0≤(Int.tmod (wrap64 (bt726.1 * bt728.1)) (x5.length:Int)) then (if (Int.tmod (wrap64 (bt726.1 * bt728.1)) (x5.length:Int))<(x5.length:Int) then (spec_l72Homes.l0 k (x5.set ((Int.tmod (wrap64 (bt726.1 * bt728.1)) (x5.length:Int)):Int).toNat bt730.1) (wrap64 (x6 - 1)) x1000 bt730.2) else (none)) else (none)))))) else (some (x5,x1001))
end
def spec_l72Homes.f (k : Nat) (s0_0 : List Int) (s0_1 : Int) (l1 : List ByteArray) : Option (List ByteArray × Int) := (some (([] : List ByteArray) : List ByteArray)).bind fun y718 => (if y718.length + l1.length < 8796093022208 then ((spec_l6Rd_pick.f k s0_0 s0_1 6).bind fun bt724 => (spec_l72Homes.l0 k (y718 ++ l1) bt724.1 s0_0 bt724.2)) else (none))
theorem spec_l72Homes.mono_l : ∀ k, (∀ y0 y1 y2 y3, LeO (spec_l72Homes.l0 k y0 y1 y2 y3) (spec_l72Homes.l0 (k + 1) y0 y1 y2 y3)) ∧ (∀ y0 y1 y2 y3 y4, LeO (spec_l72Homes.j1 k y0 y1 y2 y3 y4) (spec_l72Homes.j1 (k + 1) y0 y1 y2 y3 y4))
 | 0=>⟨fun _ _ _ _ r h=>by simp [spec_l72Homes.l0] at h,fun _ _ _ _ _ r h=>by simp [spec_l72Homes.j1] at h⟩
 | k+1=>by
  obtain ⟨ih0,ih1⟩:=spec_l72Homes.mono_l k;refine ⟨?_,?_⟩
  ·intro y0 y1 y2 y3
   unfold spec_l72Homes.l0
   repeat' first
   | (with_reducible first|exact ih0 _ _ _ _|exact ih1 _ _ _ _ _|exact spec_l6Rd_pick.mono _ _ _ _|exact spec_l72Text.mono _ _ _ _|exact LeO.refl _|exact LeO.none _|refine LeO.ite ?_ ?_|refine LeO.bind ?_ (fun _=>?_))|exact ih0 _ _ _ _|exact ih1 _ _ _ _ _|exact spec_l6Rd_pick.mono _ _ _ _|exact spec_l72Text.mono _ _ _ _|exact LeO.none _|refine LeO.ite ?_ ?_|refine LeO.bind ?_ (fun _=>?_)
  ·intro y0 y1 y2 y3 y4
   unfold spec_l72Homes.j1
   repeat' first
   | (with_reducible first|exact ih0 _ _ _ _|exact ih1 _ _ _ _ _|exact spec_l6Rd_pick.mono _ _ _ _|exact spec_l72Text.mono _ _ _ _|exact LeO.refl _|exact LeO.none _|refine LeO.ite ?_ ?_|refine LeO.bind ?_ (fun _=>?_))|exact ih0 _ _ _ _|exact ih1 _ _ _ _ _|exact spec_l6Rd_pick.mono _ _ _ _|exact spec_l72Text.mono _ _ _ _|exact LeO.none _|refine LeO.ite ?_ ?_|refine LeO.bind ?_ (fun _=>?_)
theorem spec_l72Homes.mono : ∀ a0 a1 a2 k, LeO (spec_l72Homes.f k a0 a1 a2) (spec_l72Homes.f (k + 1) a0 a1 a2) := by
 intro a0 a1 a2 k;obtain ⟨ih0,ih1⟩:=spec_l72Homes.mono_l k
 unfold spec_l72Homes.f
 repeat' first
   | (with_reducible first|exact ih0 _ _ _ _|exact ih1 _ _ _ _ _|exact spec_l6Rd_pick.mono _ _ _ _|exact spec_l72Text.mono _ _ _ _|exact LeO.refl _|exact LeO.none _|refine LeO.ite ?_ ?_|refine LeO.bind ?_ (fun _=>?_))|exact ih0 _ _ _ _|exact ih1 _ _ _ _ _|exact spec_l6Rd_pick.mono _ _ _ _|exact spec_l72Text.mono _ _ _ _|exact LeO.none _|refine LeO.ite ?_ ?_|refine LeO.bind ?_ (fun _=>?_)
def spec_l72Homes.T5 : Bool × List (List Nat × List Nat) := (true, [([], []), ([], []), ([1], [1]), ([], []), ([], []), ([4], [4]), ([5], [5]), ([6], [6]), ([3, 7, 2], [3, 7]), ([2, 8], [2, 8]), ([], []), ([10], [10]), ([9, 11], [9, 11]), ([], []), ([13, 8], [13]), ([0, 12, 0, 1, 2, 3, 4, 5, 6, 7, 8, 9, 10, 11, 12, 13, 14], [0, 12]), ([15, 14, 14, 0, 1, 2, 3, 4, 5, 6, 7, 8, 9, 10, 11, 12, 13, 14], [14, 15])])
def spec_l72Homes.B5 : List Nat := [0, 0, 2, 0, 0, 16, 48, 112, 254, 510, 0, 1024, 4094, 0, 8702, 32767, 65535]
theorem spec_l72Homes.tab5 : rtab .any (opsOf Try.f74 5) = spec_l72Homes.T5 := by kernel_rfl
theorem spec_l72Homes.bits5 : waitsOk spec_l72Homes.T5.2 spec_l72Homes.B5 = true := by kernel_rfl
set_option maxHeartbeats 8000000 in
set_option maxRecDepth 100000 in
theorem spec_l72Homes.calls (k : Nat) (g : Nat) (s0_0 : List Int) (s0_1 : Int) (A1 : Option Addr) (c1 : Nat) (l1 : List ByteArray) (r1 : List ByteArray) (r2 : Int) (w0 w : World) (hI : IsS110 w0 w g s0_0 s0_1) (hB : Below w0.heap.size w0 w) (hr1 : Kd.C Kd.string w A1 l1.length l1) (hc1 : l1.length ≤ c1) (hf1 : ∀ ad, A1 = some ad → 0 < l1.length → ad.block ≠ g) (h : spec_l72Homes.f k s0_0 s0_1 l1 = some (r1, r2)) :
  Calls Try.prog 74 #[.pointer (some ⟨g,0,none⟩),.slice A1 l1.length c1] w fun e w'=>∃ v0_:Value,e=.returned (v0_)∧Kd.R Kd.string 9 w' w.heap.size (fun _=>True) v0_ r1∧IsS110 w0 w' g s0_0 r2∧Below w0.heap.size w0 w'∧KeepBut w w' g none:=by
 have HR1:=mA hr1;have HC1:=mA hc1;clear hr1 hc1;have HI0:=mA hI;have HK:=mA (KeepBut.refl w g none);have HL:=mA hB.size;clear hI;have HW0:=mA hB.size;have HB:=mA hB;clear hB;have H:((some (([]:List ByteArray):List ByteArray)).bind fun y718=>(if y718.length+l1.length<8796093022208 then ((spec_l6Rd_pick.f k s0_0 s0_1 6).bind fun bt724=>(spec_l72Homes.l0 k (y718 ++ l1) bt724.1 s0_0 bt724.2)) else (none)))=some (r1,r2):=h;clear h;obtain ⟨y718,hy718⟩:∃ y_:List ByteArray,y_=(([]:List ByteArray)):=⟨_,rfl⟩
 replace H:(if y718.length+l1.length<8796093022208 then ((spec_l6Rd_pick.f k s0_0 s0_1 6).bind fun bt724=>(spec_l72Homes.l0 k (y718 ++ l1) bt724.1 s0_0 bt724.2)) else (none))=some (r1,r2):=qH hy718 H
 have Ny718:=mA hy718;clear hy718
 by_cases c3:y718.length+l1.length<8796093022208
 ·rw [if_pos c3] at H;have LMc3:=mA c3;clear c3;obtain ⟨y721,hy721⟩:∃ y_:List ByteArray,y_=(y718 ++ l1):=⟨_,rfl⟩
  replace H:((spec_l6Rd_pick.f k s0_0 s0_1 6).bind fun bt724=>(spec_l72Homes.l0 k y721 bt724.1 s0_0 bt724.2))=some (r1,r2):=qH hy721 H
  have Ny721:=mA hy721;clear hy721;obtain ⟨⟨t724,t725⟩,A4,H⟩:=bI H;(try dsimp only at H);have H':=mA H;clear H
  go_enter Try.func74,Try.ntmps74
  go_wp2_with (first|((with_reducible refine gate_dst (N:=7) rfl ?_);(try (refine gate_guard (by rfl) ?_;dsimp only));refine Kd.R_lit Kd.string _ 9 ?hg (N:=7) ?hd (xs:=([]:List ByteArray)) (inner:=[]) (ok:=fun _=>True) (okp:=fun _=>True) ?hr ?hp (fun _ hk=>hk) trivial (Below.refl _ _) (Nat.le_refl _) (by simp) ?_;(case hd=>rfl);(case hg=>rfl);(case hr=>first|(go_simp;done)|(go_simp;rfl));(case hp=>exact (Reps.none _ _));intro v719 w5 ho6 hb hg_ hnew_;clear hg_ hnew_;(first|rw [← Ny718.out] at ho6|(simp only [Int.reduceToNat] at ho6;rw [← Ny718.out] at ho6));have HO720:=mA (Kd.R_lower ho6 (kS HK));replace HK:=mA (KeepBut.trans (pH HK) (KeepBut.of_below hb g none) (.inl rfl));replace HB:=mA (below_step (pQ HB (IsS110.ge HI0.out)) hb);replace HI0:=mA (IsS110.below (IsS110.p HI0) hb);clear hb ho6)|((with_reducible refine gate_builtin (b:=.append) (xs:=#[.tmp 7,.tmp 8]) rfl ?_);(try (refine gate_guard (by rfl) ?_;dsimp only));at_builtin;refine Kd.R_append_rows Kd.string w.heap.size rfl (.tmp 7) (.tmp 8) 22 9 (.string ⟨#[]⟩) 16 rfl Try.underlying22 info9 rfl aD (by omega) v719 y718 l1 _ _ _ (fun _=>True) (fun _=>False) rfl rfl ?aO ?aR (fun _ _ h=>h) (fun _ h=>h.elim) ?aF (Below.refl _ _) ?aS ?aL ?_;(case aR=>exact Kd.C_keep (⟨#[]⟩:ByteArray) HR1.out (pH HK) hf1);(case aF=>exact (fun _ _=>trivial));(case aO=>exact (pR HO720.out));(case aS=>exact (kS HK));(case aL=>have:=LMc3.out;omega);intro v722 w7 ho hb hg hat;rw [← Ny721.out] at ho;have HO723:=mA ho;replace HB:=mA (below_weaken (pQ HB (IsS110.ge HI0.out)) HL.out hb);replace HI0:=mA (IsS110.grown (IsS110.p HI0) hg (IsS110.own_ne HI0.out HO720.out aD));replace HK:=mA (KeepBut.trans (pH HK) (KeepBut.of_grown hg g) (Kd.R_base2 HO720.out));clear HO720;clear ho hb hg hat)|(refine gL (some 11) Try.func75 #[.pointer (some ⟨g,0,none⟩),.int .i64 6] ?_;(with_reducible refine (spec_l6Rd_pick.calls k g s0_0 s0_1 6 t724 t725 w0 _ ?s1 ?s2 A4.out).mono ?_);(case s1=>exact IsS110.p HI0);(case s2=>exact pQ HB (IsS110.ge HI0.out));rintro e w8 ⟨rfl,hi,hb,hk⟩;refine ⟨_,rfl,?_⟩;replace HO723:=mA (rK (IsS110.apart (IsS110.p HI0) (pR HO723.out) aD) hk);replace HK:=mA (KeepBut.trans (pH HK) hk (.inl rfl));replace HB:=mA hb;replace HI0:=mA hi;(try clear hb);(try clear hk);(try clear hi)))
  go_loopg [6] k (fun kq v6 w'=>∃ (x5_1:List ByteArray) (x6_1:Int) (x1001_1:Int),v6=.int .i64 x6_1∧Aside0 (spec_l72Homes.l0 kq x5_1 x6_1 s0_0 x1001_1=some (r1,r2))∧Aside0 (kq≤k)∧Aside0 (Kd.R Kd.string 9 w' w.heap.size (fun _=>True) v722 x5_1)∧Aside0 (IsS110 w0 w' g s0_0 x1001_1)∧Aside0 (KeepBut w w' g none)∧Aside0 (Below w0.heap.size w0 w'))
  case atStart=>exact ⟨(y721),(t724),(t725),bZ,H',⟨Nat.le_refl _⟩,⟨pR HO723.out⟩,⟨IsS110.p HI0⟩,⟨pH HK⟩,⟨pQ HB (IsS110.ge HI0.out)⟩⟩
  case round =>
   clear H'
   (try clear c3)
   obtain ⟨x5_1,x6_1,x1001_1,rfl,HA,HK1,HO_5,HI0,HK,HB⟩:=hrel
   cases gk with
   | zero=>exact absurd HA.out (by simp [spec_l72Homes.l0])
   | succ k1 =>
    have H:=HA.out;clear HA;simp only [spec_l72Homes.l0] at H;have HC9:=mA H;clear H
    go_upto_region 3 with (fail)
    go_cut [18] (fun v18 wc=>∃ (kq:Nat) (x18_8:Bool),v18=.bool x18_8∧Aside0 (spec_l72Homes.j1 kq x5_1 x6_1 x18_8 s0_0 x1001_1=some (r1,r2))∧Aside0 (kq≤k1)∧Aside0 (Kd.R Kd.string 9 wc w.heap.size (fun _=>True) v722 x5_1)∧Aside0 (IsS110 w0 wc g s0_0 x1001_1)∧Aside0 (KeepBut w wc g none)∧Aside0 (Below w0.heap.size w0 wc))
    case first =>
     have H:=HC9.out;clear HC9
     by_cases c10:x6_1 > 0
     ·rw [if_pos c10] at H;have c10b0:decide (0<x6_1)=true:=decide_eq_true c10;clear c10
      (first|rw [c10b0]|(simp only [i64_w,i32_w];rw [c10b0])|skip)
      have H':=mA H;clear H;obtain ⟨Ao11,co11,rfl⟩:=Kd.R_slice HO_5.out
      go_wp2
      go_meet
      case rel=>exact ⟨_,(decide ((x5_1.length:Int) > 0)),bZ,H',⟨by have:=HK1.out;first|omega|exact Nat.le_refl _⟩,⟨pR HO_5.out⟩,⟨IsS110.p HI0⟩,⟨pH HK⟩,⟨pQ HB (IsS110.ge HI0.out)⟩⟩
     ·rw [if_neg c10] at H;have c10b0:decide (0<x6_1)=false:=decide_eq_false c10;clear c10
      (first|rw [c10b0]|(simp only [i64_w,i32_w];rw [c10b0])|skip)
      have H':=mA H;clear H
      go_wp2
      go_meet
      case rel=>exact ⟨_,(false),bZ,H',⟨by have:=HK1.out;first|omega|exact Nat.le_refl _⟩,⟨pR HO_5.out⟩,⟨IsS110.p HI0⟩,⟨pH HK⟩,⟨pQ HB (IsS110.ge HI0.out)⟩⟩
    case rest =>
     clear HC9
     (try clear c3)
     obtain ⟨kq,x18_8,rfl,HA,HJ8,HO_5,HI0,HK,HB⟩:=hcut
     cases kq with
     | zero=>exact absurd HA.out (by simp [spec_l72Homes.j1])
     | succ kj8 =>
      have H:=HA.out;clear HA;simp only [spec_l72Homes.j1] at H
      by_cases c12:x18_8=true
      ·subst c12;rw [if_pos rfl] at H;obtain ⟨⟨t726,t727⟩,A13,H⟩:=bI H;(try dsimp only at H);obtain ⟨⟨t728,t729⟩,A14,H⟩:=bI H;(try dsimp only at H)
       by_cases c15:(x5_1.length:Int)=0
       ·rw [if_pos c15] at H
        exact absurd H (by simp)
       ·rw [if_neg c15] at H;have c15b0:((x5_1.length:Int) == 0)=false:=beq_eq_false_iff_ne.mpr c15;have c15b1:((x5_1.length:Int) != 0)=true:=bne_iff_ne.mpr c15
        have c15b2:¬ (x5_1=[]):=fun h_=>c15 (by rw [h_];rfl)
        obtain ⟨⟨t730,t731⟩,A16,H⟩:=bI H;(try dsimp only at H);obtain ⟨ji17,hji17⟩:∃ j_:Int,(Int.tmod (wrap64 (t726 * t728)) (x5_1.length:Int))=j_:=⟨_,rfl⟩
        replace H:(if 0≤(ji17) then (if (ji17)<(x5_1.length:Int) then (spec_l72Homes.l0 kj8 (x5_1.set ((ji17):Int).toNat t730) (wrap64 (x6_1 - 1)) s0_0 t731) else (none)) else (none))=some (r1,r2):=by first|(rw [hji17] at H;exact H)|(simp only [hji17] at H ⊢;exact H)
        (try rw [hji17] at A13)
        (try rw [hji17] at A14)
        (try rw [hji17] at A16)
        by_cases c18:0≤(ji17)
        ·rw [if_pos c18] at H;have c18b0:decide (0≤(ji17))=true:=decide_eq_true c18;clear c18
         by_cases c19:(ji17)<(x5_1.length:Int)
         ·rw [if_pos c19] at H;have c19b0:decide ((ji17)<(x5_1.length:Int))=true:=decide_eq_true c19;clear c19;obtain ⟨y732,hy732⟩:∃ y_:List ByteArray,y_=(x5_1.set ((ji17):Int).toNat t730):=⟨_,rfl⟩
          replace H:(spec_l72Homes.l0 kj8 y732 (wrap64 (x6_1 - 1)) s0_0 t731)=some (r1,r2):=qH hy732 H
          have Ny732:=mA hy732;clear hy732;have H':=mA H;clear H
          try go_wp2
          replace HO_5:=rD HO_5;replace HI0:=mA (IsS110.drew HI0.out);replace HK:=mA (keep_drew HK.out);replace HB:=mA (below_drew1 HB.out);obtain ⟨Ao22,co22,eo22⟩:=Kd.R_slice HO_5.out
          (first|subst eo22|(injection eo22 with f1_ f2_ f3_;have f4_:=f1_.symm;have f5_:=f3_.symm;clear f1_ f2_ f3_;subst f4_;subst f5_))
          refine start_ (n:=17) (S:=fun w'=>True) (ds:=[16]) _ aK rfl rfl trivial (fun hHeld=>?_);refine with_tabW spec_l72Homes.tab5 spec_l72Homes.bits5 (fun HT_ HW_=>?_)
          generalize wc.drew=w21 at HO_5 HI0 HK HB hHeld ⊢
          refine pu_ 0 (some 21) (aT HT_) ?_
          refine pu_ 1 (some 22) (aT HT_) ?_
          refine pu_ 3 (some 24) (aT HT_) ?_
          refine pu_ 4 (some 25) (aT HT_) ?_
          refine pu_ 5 (some 26) (aT HT_) ?_
          refine pu_ 6 (some 27) (aT HT_) ?_
          refine pu_ 7 (some 28) (aT HT_) ?_
          refine pu_ 10 (some 31) (aT HT_) ?_
          refine pu_ 11 (some 32) (aT HT_) ?_
          refine pu_ 13 (some 34) (aT HT_) ?_
          refine on_ 2 (some 23) (oT HT_) ?_;intro K hK
          refine gS Try.func75 #[.pointer (some ⟨g,0,none⟩),.int .i64 5] ?_
          with_reducible refine (spec_l6Rd_pick.calls kj8 g s0_0 x1001_1 5 t726 t727 w0 _ ?s1 ?s2 A13.out).mono ?_
          (case s1=>exact IsS110.p HI0)
          (case s2=>exact pQ HB (IsS110.ge HI0.out))
          rintro e w23 ⟨rfl,hi,hb,hk⟩;refine ⟨_,rfl,?_⟩
          replace HO_5:=mA (rK (IsS110.apart (IsS110.p HI0) (pR HO_5.out) aD) hk);replace HK:=mA (KeepBut.trans (pH HK) hk (.inl rfl));replace HB:=mA hb;replace HI0:=mA hi
          (try clear hb);(try clear hk);(try clear hi)
          refine hK.out _ _ trivial (fun hHeld=>?_);clear hK K;refine no_ (some 23) ?_
          refine on_ 8 (some 29) (oT HT_) ?_;intro K hK
          refine gS Try.func75 #[.pointer (some ⟨g,0,none⟩),.int .i64 (wrap64 ((wrap64 ((x5_1.length:Int) / 5))+1))] ?_
          with_reducible refine (spec_l6Rd_pick.calls kj8 g s0_0 t727 (wrap64 ((wrap64 ((x5_1.length:Int) / 5))+1)) t728 t729 w0 _ ?s1 ?s2 A14.out).mono ?_
          (case s1=>exact IsS110.p HI0)
          (case s2=>exact pQ HB (IsS110.ge HI0.out))
          rintro e w24 ⟨rfl,hi,hb,hk⟩;refine ⟨_,rfl,?_⟩
          replace HO_5:=mA (rK (IsS110.apart (IsS110.p HI0) (pR HO_5.out) aD) hk);replace HK:=mA (KeepBut.trans (pH HK) hk (.inl rfl));replace HB:=mA hb;replace HI0:=mA hi
          (try clear hb);(try clear hk);(try clear hi)
          refine hK.out _ _ trivial (fun hHeld=>?_);clear hK K;refine no_ (some 29) ?_
          refine pu_ 9 (some 30) (aT HT_) ?_
          refine pu_ 12 (some 33) (aT HT_) ?_
          refine on_ 14 (some 35) (oT HT_) ?_;intro K hK
          refine gS Try.func78 #[.pointer (some ⟨g,0,none⟩),.int .i64 15] ?_
          with_reducible refine (spec_l72Text.calls kj8 g s0_0 t729 15 t730 t731 w0 _ ?s1 ?s2 A16.out).mono ?_
          (case s1=>exact IsS110.p HI0)
          (case s2=>exact pQ HB (IsS110.ge HI0.out))
          rintro e w25 ⟨rfl,hi,hb,hk⟩;refine ⟨_,rfl,?_⟩
          replace HO_5:=mA (rK (IsS110.apart (IsS110.p HI0) (pR HO_5.out) aD) hk);replace HK:=mA (KeepBut.trans (pH HK) hk (.inl rfl));replace HB:=mA hb;replace HI0:=mA hi
          (try clear hb);(try clear hk);(try clear hi)
          have p20:0≤((ji17):Int):=of_decide_eq_true bA;have q20:((ji17):Int)<((x5_1.length:Int):Int):=of_decide_eq_true bA
          obtain ⟨go20,co20,eo20,gb20,gl20,cl20,HG20⟩:=Kd.R_form HO_5.out (by omega)
          (first|cases eo20|(injection eo20 with ea_ en_ ec_;(first|subst ea_|(injection ea_ with ea_;subst ea_));subst ec_;clear en_))
          have GB20:=mA gb20;have GG20:=mA HG20;clear gb20 gl20 HG20;obtain ⟨hx20_0,hf20_0⟩:=Kd.R_celln (⟨#[]⟩:ByteArray) HO_5.out ((ji17):Int) p20 q20;replace p20:=eq_true p20;replace q20:=eq_true q20
          have HN0_go20:=mA (show g≠go20 from by have h_:=IsS110.own_ne HI0.out HO_5.out aD;intro e_;exact h_ (by rw [e_];rfl))
          have HP26:=Kd.R_putn HO_5.out ((ji17):Int) t730;rw [← Ny732.out] at HP26;have HQ26:=mA HP26;clear HP26;refine hK.out _ _ trivial (fun hHeld=>?_);clear hK K;refine no_ (some 35) ?_
          refine pu_ 15 (some 36) (aT HT_) ?_
          refine last_ (i:=16) (N:=none) #[true,true,true,true,true,true,true,true,true,true,true,true,true,true,true,true,true] rfl rfl (oT HT_) aD (fun K hK=>?_)
          refine skip_ (w1:=?_) (by rfl) rfl ?_ ?_
          rotate_left
          ·go_simp;rfl
          refine hK.out _ _ ?_;clear hK K
          refine done_ (done_of HT_.out aK) ?_
          try go_wp2
          go_roundg kj8
          case measure=>have:=HK1.out;have:=HJ8.out;omega
          case rel=>exact ⟨(y732),(wrap64 (x6_1 - 1)),(t731),bZ,H',⟨by have:=HK1.out;have:=HJ8.out;omega⟩,⟨pR HQ26.out⟩,⟨by repeat (first|(with_reducible first|exact HI0.out|apply IsS110.alloc|apply IsS110.drewN|apply IsS110.drew|apply IsS110.set_1|refine IsS110.far ?_ HN0_go20.out _)|exact HI0.out)⟩,⟨by repeat (first|(with_reducible first|exact HK.out|apply KeepBut.set_|apply keep_drewN|apply keep_drew|apply keep_alloc|refine keep_far ?_ GB20.out _)|exact HK.out)⟩,⟨by repeat (first|(with_reducible first|exact HB.out|apply below_alloc|apply pw_below_drewN|apply below_drew1|refine below_set ?_ (Nat.le_trans HL.out GB20.out)|refine below_set ?_ (IsS110.ge HI0.out))|exact HB.out)⟩⟩
         ·rw [if_neg c19] at H
          exact absurd H (by simp)
        ·rw [if_neg c18] at H
         exact absurd H (by simp)
      ·replace c12:=Bool.eq_false_iff.mpr c12;subst c12
       rw [if_neg nFT] at H
       simp only [Option.some.injEq,Prod.mk.injEq] at H;obtain ⟨rfl,rfl⟩:=H
       go_wp2
       go_ret
       exact ⟨_,by first|rfl|(simp [errW_none,errW_some]<;>rfl)|(simp [*,errW_none,errW_some]<;>rfl),pR HO_5.out,IsS110.p HI0,pQ HB (IsS110.ge HI0.out),pH HK⟩
 ·rw [if_neg c3] at H
  exact absurd H (by simp)

/-! ### spec_l72Bits: function 79 -/
def spec_l72Bits.l0 : Nat → List Int → Int → List Int → Int → Option (List Int × Int)
 | 0,_,_,_,_=>none
 | k+1,x5,x6,x1000,x1001=>if x6 > 0 then ((some (([0,1,0,1,(-7)]:List Int):List Int)).bind fun y738=>((spec_l6Rd_pick.f k x1000 x1001 5).bind fun bt741=>(if 0≤bt741.1 then (if bt741.1<(y738.length:Int) then (if x5.length<17592186044416 then (spec_l72Bits.l0 k (x5 ++ [rd y738 bt741.1]) (wrap64 (x6 - 1)) x1000 bt741.2) else (none)) else (none)) else (none)))) else (some (x5,x1001))
def spec_l72Bits.f (k : Nat) (s0_0 : List Int) (s0_1 : Int) (a1 : Int) : Option (List Int × Int) := (spec_l6Rd_pick.f k s0_0 s0_1 (wrap64 (a1 + 1))).bind fun bt736 => (spec_l72Bits.l0 k (([] : List Int)) bt736.1 s0_0 bt736.2)
theorem spec_l72Bits.mono_l : ∀ k, (∀ y0 y1 y2 y3, LeO (spec_l72Bits.l0 k y0 y1 y2 y3) (spec_l72Bits.l0 (k + 1) y0 y1 y2 y3))
 | 0=>fun _ _ _ _ r h=>by simp [spec_l72Bits.l0] at h
 | k+1=>by
  have ih0:=spec_l72Bits.mono_l k
  ·intro y0 y1 y2 y3
   unfold spec_l72Bits.l0
   repeat' first
   | (with_reducible first|exact ih0 _ _ _ _|exact spec_l6Rd_pick.mono _ _ _ _|exact LeO.refl _|exact LeO.none _|refine LeO.ite ?_ ?_|refine LeO.bind ?_ (fun _=>?_))|exact ih0 _ _ _ _|exact spec_l6Rd_pick.mono _ _ _ _|exact LeO.none _|refine LeO.ite ?_ ?_|refine LeO.bind ?_ (fun _=>?_)
theorem spec_l72Bits.mono : ∀ a0 a1 a2 k, LeO (spec_l72Bits.f k a0 a1 a2) (spec_l72Bits.f (k + 1) a0 a1 a2) := by
 intro a0 a1 a2 k;have ih0:=spec_l72Bits.mono_l k
 unfold spec_l72Bits.f
 repeat' first
   | (with_reducible first|exact ih0 _ _ _ _|exact spec_l6Rd_pick.mono _ _ _ _|exact LeO.refl _|exact LeO.none _|refine LeO.ite ?_ ?_|refine LeO.bind ?_ (fun _=>?_))|exact ih0 _ _ _ _|exact spec_l6Rd_pick.mono _ _ _ _|exact LeO.none _|refine LeO.ite ?_ ?_|refine LeO.bind ?_ (fun _=>?_)
set_option maxHeartbeats 8000000 in
set_option maxRecDepth 100000 in
theorem spec_l72Bits.calls (k : Nat) (g : Nat) (s0_0 : List Int) (s0_1 : Int) (a1 : Int) (r1 : List Int) (r2 : Int) (w0 w : World) (hI : IsS110 w0 w g s0_0 s0_1) (hB : Below w0.heap.size w0 w) (h : spec_l72Bits.f k s0_0 s0_1 a1 = some (r1, r2)) :
  Calls Try.prog 79 #[.pointer (some ⟨g,0,none⟩),.int .i64 a1] w fun e w'=>∃ v0_:Value,e=.returned (v0_)∧Kd.R (Kd.int .i64) 3 w' w.heap.size (fun _=>True) v0_ r1∧IsS110 w0 w' g s0_0 r2∧Below w0.heap.size w0 w'∧KeepBut w w' g none:=by
 have HI0:=mA hI;have HK:=mA (KeepBut.refl w g none);have HL:=mA hB.size;clear hI;have HW0:=mA hB.size;have HB:=mA hB;clear hB;have H:((spec_l6Rd_pick.f k s0_0 s0_1 (wrap64 (a1+1))).bind fun bt736=>(spec_l72Bits.l0 k (([]:List Int)) bt736.1 s0_0 bt736.2))=some (r1,r2):=h;clear h;obtain ⟨y733,hy733⟩:∃ y_:List Int,y_=(([]:List Int)):=⟨_,rfl⟩
 replace H:((spec_l6Rd_pick.f k s0_0 s0_1 (wrap64 (a1+1))).bind fun bt736=>(spec_l72Bits.l0 k y733 bt736.1 s0_0 bt736.2))=some (r1,r2):=qH hy733 H
 have Ny733:=mA hy733;clear hy733;obtain ⟨⟨t736,t737⟩,A3,H⟩:=bI H;(try dsimp only at H);have H':=mA H;clear H
 go_enter Try.func79,Try.ntmps79
 go_wp2_with (first|((with_reducible refine gate_dst (N:=7) rfl ?_);refine Kd.R_lit (Kd.int .i64) _ 3 ?hg (N:=7) ?hd (xs:=([]:List Int)) (inner:=[]) (ok:=fun _=>True) (okp:=fun _=>True) ?hr ?hp (fun _ hk=>hk) trivial (Below.refl _ _) (Nat.le_refl _) (by simp) ?_;(case hd=>rfl);(case hg=>rfl);(case hr=>first|(go_simp;done)|(go_simp;rfl));(case hp=>exact (Reps.none _ _));intro v734 w4 ho5 hb hg_ hnew_;clear hg_ hnew_;(first|rw [← Ny733.out] at ho5|(simp only [Int.reduceToNat] at ho5;rw [← Ny733.out] at ho5));have HO735:=mA (Kd.R_lower ho5 (kS HK));replace HK:=mA (KeepBut.trans (pH HK) (KeepBut.of_below hb g none) (.inl rfl));replace HB:=mA (below_step (pQ HB (IsS110.ge HI0.out)) hb);replace HI0:=mA (IsS110.below (IsS110.p HI0) hb);clear hb ho5)|(refine gL (some 11) Try.func75 #[.pointer (some ⟨g,0,none⟩),.int .i64 (wrap64 (a1+1))] ?_;(with_reducible refine (spec_l6Rd_pick.calls k g s0_0 s0_1 (wrap64 (a1+1)) t736 t737 w0 _ ?s1 ?s2 A3.out).mono ?_);(case s1=>exact IsS110.p HI0);(case s2=>exact pQ HB (IsS110.ge HI0.out));rintro e w6 ⟨rfl,hi,hb,hk⟩;refine ⟨_,rfl,?_⟩;replace HO735:=mA (rK (IsS110.apart (IsS110.p HI0) (pR HO735.out) aD) hk);replace HK:=mA (KeepBut.trans (pH HK) hk (.inl rfl));replace HB:=mA hb;replace HI0:=mA hi;(try clear hb);(try clear hk);(try clear hi)))
 go_loopg [5,6] k (fun kq v5 v6 w'=>∃ (x5_1:List Int) (x6_1:Int) (x1001_1:Int),v6=.int .i64 x6_1∧Aside0 (spec_l72Bits.l0 kq x5_1 x6_1 s0_0 x1001_1=some (r1,r2))∧Aside0 (kq≤k)∧Aside0 (Kd.R (Kd.int .i64) 3 w' w.heap.size (fun _=>True) v5 x5_1)∧Aside0 (IsS110 w0 w' g s0_0 x1001_1)∧Aside0 (KeepBut w w' g none)∧Aside0 (Below w0.heap.size w0 w'))
 case atStart=>exact ⟨(y733),(t736),(t737),bZ,H',⟨Nat.le_refl _⟩,⟨pR HO735.out⟩,⟨IsS110.p HI0⟩,⟨pH HK⟩,⟨pQ HB (IsS110.ge HI0.out)⟩⟩
 case round =>
  clear H'
  obtain ⟨x5_1,x6_1,x1001_1,rfl,HA,HK1,HO_5,HI0,HK,HB⟩:=hrel
  cases gk with
  | zero=>exact absurd HA.out (by simp [spec_l72Bits.l0])
  | succ k1 =>
   have H:=HA.out;clear HA;simp only [spec_l72Bits.l0] at H
   by_cases c7:x6_1 > 0
   ·rw [if_pos c7] at H;have c7b0:decide (0<x6_1)=true:=decide_eq_true c7;clear c7;obtain ⟨y738,hy738⟩:∃ y_:List Int,y_=(([0,1,0,1,(-7)]:List Int)):=⟨_,rfl⟩
    replace H:((spec_l6Rd_pick.f k1 s0_0 x1001_1 5).bind fun bt741=>(if 0≤bt741.1 then (if bt741.1<(y738.length:Int) then (if x5_1.length<17592186044416 then (spec_l72Bits.l0 k1 (x5_1 ++ [rd y738 bt741.1]) (wrap64 (x6_1 - 1)) s0_0 bt741.2) else (none)) else (none)) else (none)))=some (r1,r2):=qH hy738 H
    have Ny738:=mA hy738;clear hy738;obtain ⟨⟨t741,t742⟩,A8,H⟩:=bI H;(try dsimp only at H)
    by_cases c9:0≤t741
    ·rw [if_pos c9] at H;have c9b0:decide (0≤t741)=true:=decide_eq_true c9;clear c9
     by_cases c10:t741<(y738.length:Int)
     ·rw [if_pos c10] at H;have c10b0:decide (t741<(y738.length:Int))=true:=decide_eq_true c10;clear c10
      by_cases c11:x5_1.length<17592186044416
      ·rw [if_pos c11] at H;have LMc11:=mA c11;clear c11;obtain ⟨y744,hy744⟩:∃ y_:List Int,y_=(x5_1 ++ [rd y738 t741]):=⟨_,rfl⟩
       replace H:(spec_l72Bits.l0 k1 y744 (wrap64 (x6_1 - 1)) s0_0 t742)=some (r1,r2):=qH hy744 H
       have Ny744:=mA hy744;clear hy744;have H':=mA H;clear H
       go_wp2_with (first|((with_reducible refine gate_dst (N:=17) rfl ?_);refine Kd.R_lit (Kd.int .i64) _ 3 ?hg (N:=17) ?hd (xs:=([0,1,0,1,(-7)]:List Int)) (inner:=[.int .i64 0,.int .i64 1,.int .i64 0,.int .i64 1,.int .i64 (-7)]) (ok:=fun _=>True) (okp:=fun _=>True) ?hr ?hp (fun _ hk=>hk) trivial (Below.refl _ _) (Nat.le_refl _) (by simp) ?_;(case hd=>rfl);(case hg=>rfl);(case hr=>first|(go_simp;done)|(go_simp;rfl));(case hp=>exact (Reps.one (show Kd.M (Kd.int .i64) _ _ _ 0 [.int .i64 0] from rfl) (Reps.one (show Kd.M (Kd.int .i64) _ _ _ 1 [.int .i64 1] from rfl) (Reps.one (show Kd.M (Kd.int .i64) _ _ _ 0 [.int .i64 0] from rfl) (Reps.one (show Kd.M (Kd.int .i64) _ _ _ 1 [.int .i64 1] from rfl) (Reps.one (show Kd.M (Kd.int .i64) _ _ _ (-7) [.int .i64 (-7)] from rfl) (Reps.none _ _)))))));intro v739 w12 ho13 hb hg_ hnew_;clear hg_ hnew_;(first|rw [← Ny738.out] at ho13|(simp only [Int.reduceToNat] at ho13;rw [← Ny738.out] at ho13));have HO740:=mA (Kd.R_lower (Kd.R_new' ho13 (rL HO_5)) (kS HK));replace HO_5:=rE HO_5 ho13 hb;replace HK:=mA (KeepBut.trans (pH HK) (KeepBut.of_below hb g none) (.inl rfl));replace HB:=mA (below_step (pQ HB (IsS110.ge HI0.out)) hb);replace HI0:=mA (IsS110.below (IsS110.p HI0) hb);clear hb ho13)|(refine gL (some 19) Try.func75 #[.pointer (some ⟨g,0,none⟩),.int .i64 5] ?_;(with_reducible refine (spec_l6Rd_pick.calls k1 g s0_0 x1001_1 5 t741 t742 w0 _ ?s1 ?s2 A8.out).mono ?_);(case s1=>exact IsS110.p HI0);(case s2=>exact pQ HB (IsS110.ge HI0.out));rintro e w14 ⟨rfl,hi,hb,hk⟩;refine ⟨_,rfl,?_⟩;replace HO_5:=mA (rK (IsS110.apart (IsS110.p HI0) (pR HO_5.out) aD) hk);replace HO740:=mA (rK (IsS110.apart (IsS110.p HI0) (pR HO740.out) aD) hk);replace HK:=mA (KeepBut.trans (pH HK) hk (.inl rfl));replace HB:=mA hb;replace HI0:=mA hi;(try clear hb);(try clear hk);(try clear hi);obtain ⟨Ao15,co15,rfl⟩:=Kd.R_slice HO740.out;have p743:0≤(t741:Int):=of_decide_eq_true bA;have q743:t741<(y738.length:Int):=of_decide_eq_true bA;obtain ⟨ad743,e743,hx743_0⟩:=Kd.at_int (Kd.R_reads' HO740.out).2.2 t741 p743 q743;cases e743;replace p743:=eq_true p743;replace q743:=eq_true q743)|((with_reducible refine gate_builtin (b:=.append) (xs:=#[.tmp 16,.tmp 22]) rfl ?_);at_builtin;refine Kd.R_append (Kd.int .i64) w.heap.size rfl (.tmp 16) (.tmp 22) 51 3 (.int .i64 0) 8 rfl Try.underlying51 info3 rfl aD (by omega) u5 x5_1 (rd y738 t741) [.int .i64 (rd y738 t741)] (fun k_=>some k_≠(.slice (some ad743) y738.length co15:Value).ownBlock) (fun _=>False) rfl rfl ?aP (fun _ hk=>hk.elim) ?aF ?aO (Below.refl _ _) ?aS ?aL ?_;(case aP=>exact rfl);(case aF=>exact (fun k_ hk=>Kd.fresh' (rL HO740) k_ hk));(case aO=>exact (pR (Kd.R_mono HO_5.out (fun _ hk=>hk.2))));(case aS=>exact (kS HK));(case aL=>have:=LMc11.out;omega);intro v745 w16 ho hb hg hat;rw [← Ny744.out] at ho;replace HO740:=mA (Kd.R_after (ok:=(fun _=>True)) (pR HO740.out) hg hat);have HO746:=mA ho;replace HB:=mA (below_weaken (pQ HB (IsS110.ge HI0.out)) HL.out hb);replace HI0:=mA (IsS110.grown (IsS110.p HI0) hg (IsS110.own_ne HI0.out HO_5.out aD));replace HK:=mA (KeepBut.trans (pH HK) (KeepBut.of_grown hg g) (Kd.R_base2 HO_5.out));clear HO_5;clear ho hb hg hat))
       go_roundg k1
       case measure=>have:=HK1.out;omega
       case rel=>exact ⟨(y744),(wrap64 (x6_1 - 1)),(t742),bZ,H',⟨by have:=HK1.out;omega⟩,⟨pR (Kd.R_mono HO746.out (fun _ hk=>trivial))⟩,⟨IsS110.p HI0⟩,⟨pH HK⟩,⟨pQ HB (IsS110.ge HI0.out)⟩⟩
      ·rw [if_neg c11] at H
       exact absurd H (by simp)
     ·rw [if_neg c10] at H
      exact absurd H (by simp)
    ·rw [if_neg c9] at H
     exact absurd H (by simp)
   ·rw [if_neg c7] at H;have c7b0:decide (0<x6_1)=false:=decide_eq_false c7;clear c7;simp only [Option.some.injEq,Prod.mk.injEq] at H;obtain ⟨rfl,rfl⟩:=H
    go_wp2
    go_ret
    exact ⟨_,by first|rfl|(simp [errW_none,errW_some]<;>rfl)|(simp [*,errW_none,errW_some]<;>rfl),pR HO_5.out,IsS110.p HI0,pQ HB (IsS110.ge HI0.out),pH HK⟩

/-! ### spec_SecNew: function 91 -/
def spec_SecNew.f (a0 : Int) : Option (List ByteArray × (List (S75))) := (spec_l6In.f a0 0 512).bind fun t748 => (if t748 = true then (if 0 ≤ a0 then (if (a0 : Int).toNat ≤ 17592186044416 then (some ((List.replicate (a0 : Int).toNat (⟨#[]⟩ : ByteArray)), ([] : List (S75)))) else (none)) else (none)) else (some (([] : List ByteArray), ([] : List (S75)))))
set_option maxHeartbeats 8000000 in
set_option maxRecDepth 100000 in
theorem spec_SecNew.calls (a0 : Int) (r1 : List ByteArray) (r2 : List (S75)) (w : World) (h : spec_SecNew.f a0 = some (r1, r2)) :
  Calls Try.prog 91 #[.int .i64 a0] w fun e w'=>∃ v0_ v1_:Value,e=.returned (.agg #[v0_,v1_])∧Kd.R Kd.string 9 w' w.heap.size (fun _=>True) v0_ r1∧Kd.R k75 75 w' w.heap.size (fun _=>True) v1_ r2∧Below w.heap.size w w':=by
 have hu31:=Try.underlying31;have HB:=mA (Below.refl w.heap.size w);have H:((spec_l6In.f a0 0 512).bind fun t748=>(if t748=true then (if 0≤a0 then (if (a0:Int).toNat≤17592186044416 then (some ((List.replicate (a0:Int).toNat (⟨#[]⟩:ByteArray)),([]:List (S75)))) else (none)) else (none)) else (some (([]:List ByteArray),([]:List (S75))))))=some (r1,r2):=h;clear h;obtain ⟨t748,A2,H⟩:=bI H;(try dsimp only at H)
 by_cases c3:t748=true
 ·subst c3;rw [if_pos rfl] at H
  by_cases c4:0≤a0
  ·rw [if_pos c4] at H;have c4b0:=eq_true c4;have c4b1:decide (0≤a0)=true:=decide_eq_true c4;clear c4
   by_cases c5:(a0:Int).toNat≤17592186044416
   ·rw [if_pos c5] at H;have c5b0:=eq_true c5;have c5b1:decide ((a0:Int).toNat≤17592186044416)=true:=decide_eq_true c5;clear c5;obtain ⟨y749,hy749⟩:∃ y_:List ByteArray,y_=(List.replicate (a0:Int).toNat (⟨#[]⟩:ByteArray)):=⟨_,rfl⟩
    replace H:(some (y749,([]:List (S75))))=some (r1,r2):=qH hy749 H
    have Ny749:=mA hy749;clear hy749;simp only [Option.some.injEq,Prod.mk.injEq] at H;obtain ⟨rfl,rfl⟩:=H
    go_enter Try.func91,Try.ntmps91
    go_wp2_with (first|(refine bE 2 #[.slice none 0 0,.slice none 0 0] 31 ?_;intro gb747 hg w6 hbox hb;have BK747:=mA hbox;have GW747:=gbpB HB hg;have GE747:=gbpB HB hg;replace HB:=spB HB hb;clear hb hbox hg)|(refine gL (some 4) Try.func84 #[.int .i64 a0,.int .i64 0,.int .i64 512] ?_;(with_reducible refine (spec_l6In.calls a0 0 512 true _ A2.out).mono ?_);rintro e w' ⟨rfl,⟨nd,rfl⟩⟩;refine ⟨_,rfl,?_⟩;(try (rw [drewN_self w6];generalize hq_:World.drewN w6 _=w6;have n0_:Aside0 (w6.heap[gb747]?=some (.cells #[.slice none 0 0,.slice none 0 0] 31 (0,0))):=⟨by rw [← hq_];exact (pK BK747.out)⟩;have n1_:Aside0 (Below w.heap.size w w6):=⟨by rw [← hq_];exact (pS HB.out)⟩;clear BK747 HB hq_;have BK747:=n0_;have HB:=n1_;clear n0_ n1_)))|((with_reducible refine gate_dst (N:=8) rfl ?_);refine Kd.R_make Kd.string _ 9 rfl (N:=8) rfl 22 _ _ rfl a0 rfl rfl Try.underlying22 (.string ⟨#[]⟩) 16 info9 rfl aD (by omega) (⟨#[]⟩:ByteArray) (ok:=fun _=>True) (okp:=fun _=>True) rfl (fun _ hk=>hk) trivial (of_decide_eq_true bA) (Nat.le_trans (Nat.mul_le_mul_right _ (of_decide_eq_true bA:a0.toNat≤17592186044416)) (by omega)) (Below.refl _ _) (Nat.le_refl _) ?_;intro v750 w7 ho8 hb hg_ hnew_;clear hg_ hnew_;(first|rw [← Ny749.out] at ho8|(simp only [Int.reduceToNat] at ho8;rw [← Ny749.out] at ho8));have HO751:=mA (Kd.R_lower ho8 (bpS HB));replace BK747:=bK BK747 hb;replace HB:=spS HB hb;clear hb ho8;obtain ⟨Ao9,co9,rfl⟩:=Kd.R_slice HO751.out;obtain ⟨hcz10_0,hcz10_1,hfz10_0,hfz10_1⟩:=box2 BK747.out))
    refine bodyPost_ret (results_cell_row rfl _ _ gb747 31 #[.slice Ao9 y749.length co9,.slice none 0 0] (0,0) _ rfl (pP BK747) Try.underlying31 rfl aK) rfl ?_
    exact ⟨_,_,by first|rfl|(simp [errW_none,errW_some]<;>rfl)|(simp [*,errW_none,errW_some]<;>rfl),pU HO751 BK747,aN,pS HB.out⟩
   ·rw [if_neg c5] at H
    exact absurd H (by simp)
  ·rw [if_neg c4] at H
   exact absurd H (by simp)
 ·replace c3:=Bool.eq_false_iff.mpr c3;subst c3
  rw [if_neg nFT] at H
  simp only [Option.some.injEq,Prod.mk.injEq] at H;obtain ⟨rfl,rfl⟩:=H
  go_enter Try.func91,Try.ntmps91
  go_wp2_with (first|(refine bE 2 #[.slice none 0 0,.slice none 0 0] 31 ?_;intro gb747 hg w11 hbox hb;have BK747:=mA hbox;have GW747:=gbpB HB hg;have GE747:=gbpB HB hg;replace HB:=spB HB hb;clear hb hbox hg)|(refine gL (some 4) Try.func84 #[.int .i64 a0,.int .i64 0,.int .i64 512] ?_;(with_reducible refine (spec_l6In.calls a0 0 512 false _ A2.out).mono ?_);rintro e w' ⟨rfl,⟨nd,rfl⟩⟩;refine ⟨_,rfl,?_⟩;(try (rw [drewN_self w11];generalize hq_:World.drewN w11 _=w11;have n0_:Aside0 (w11.heap[gb747]?=some (.cells #[.slice none 0 0,.slice none 0 0] 31 (0,0))):=⟨by rw [← hq_];exact (pK BK747.out)⟩;have n1_:Aside0 (Below w.heap.size w w11):=⟨by rw [← hq_];exact (pS HB.out)⟩;clear BK747 HB hq_;have BK747:=n0_;have HB:=n1_;clear n0_ n1_));obtain ⟨hcz12_0,hcz12_1,hfz12_0,hfz12_1⟩:=box2 BK747.out))
  refine bodyPost_ret (results_cell_row rfl _ _ gb747 31 #[.slice none 0 0,.slice none 0 0] (0,0) _ rfl (pP BK747) Try.underlying31 rfl aK) rfl ?_
  exact ⟨_,_,by first|rfl|(simp [errW_none,errW_some]<;>rfl)|(simp [*,errW_none,errW_some]<;>rfl),aN,aN,pS HB.out⟩

/-! ### spec_WalNew: function 90 -/
def spec_WalNew.f  : Option (List ByteArray × (List (S75))) := (spec_SecNew.f 501).bind fun bt753 => (some (bt753.1, bt753.2))
set_option maxHeartbeats 8000000 in
set_option maxRecDepth 100000 in
theorem spec_WalNew.calls  (r1 : List ByteArray) (r2 : List (S75)) (w : World) (h : spec_WalNew.f  = some (r1, r2)) :
  Calls Try.prog 90 #[] w fun e w'=>∃ v0_ v1_:Value,e=.returned (.agg #[v0_,v1_])∧Kd.R Kd.string 9 w' w.heap.size (fun _=>True) v0_ r1∧Kd.R k75 75 w' w.heap.size (fun _=>True) v1_ r2∧Below w.heap.size w w':=by
 have hu31:=Try.underlying31;have HB:=mA (Below.refl w.heap.size w);have H:((spec_SecNew.f 501).bind fun bt753=>(some (bt753.1,bt753.2)))=some (r1,r2):=h;clear h;obtain ⟨⟨t753,t756⟩,A1,H⟩:=bI H;(try dsimp only at H);simp only [Option.some.injEq,Prod.mk.injEq] at H;obtain ⟨rfl,rfl⟩:=H
 go_enter Try.func90,Try.ntmps90
 go_wp2_with (first|(refine bE 0 #[.slice none 0 0,.slice none 0 0] 31 ?_;intro gb752 hg w2 hbox hb;have BK752:=mA hbox;have GW752:=gbpB HB hg;have GE752:=gbpB HB hg;replace HB:=spB HB hb;clear hb hbox hg)|(refine gL (some 1) Try.func91 #[.int .i64 501] ?_;(with_reducible refine (spec_SecNew.calls 501 t753 t756 _ A1.out).mono ?_);rintro e w3 ⟨v754,v757,rfl,ho0,ho1,hb⟩;refine ⟨_,rfl,?_⟩;have HO755:=mA (Kd.R_lower ho0 (bpS HB));have HO758:=mA (Kd.R_lower ho1 (bpS HB));replace BK752:=bK BK752 hb;replace HB:=spS HB hb;(try clear hb);(try clear ho0);(try clear ho1);obtain ⟨Ao4,co4,rfl⟩:=Kd.R_slice HO755.out;obtain ⟨hcz5_0,hcz5_1,hfz5_0,hfz5_1⟩:=box2 BK752.out;obtain ⟨Ao6,co6,rfl⟩:=Kd.R_slice HO758.out))
 refine bodyPost_ret (results_cell_row rfl _ _ gb752 31 #[.slice Ao4 t753.length co4,.slice Ao6 t756.length co6] (0,0) _ rfl (pP BK752) Try.underlying31 rfl aK) rfl ?_
 exact ⟨_,_,by first|rfl|(simp [errW_none,errW_some]<;>rfl)|(simp [*,errW_none,errW_some]<;>rfl),pU HO755 BK752,pU HO758 BK752,pS HB.out⟩

/-! ### spec_l72Wal: function 85 -/
mutual
def spec_l72Wal.j2 : Nat → List Int → Int → List ByteArray → List (S75) → Option (List ByteArray × (List (S75)) × Int)
 | 0,_,_,_,_=>none
 | k+1,x1000,x1001,x767000,x767001=>(spec_WalRead.f k x767000 x767001).bind fun bt787=>((spec_l72Homes.f k x1000 x1001 bt787.1).bind fun bt791=>((spec_WalSteps.f k x767000 x767001 bt791.1).bind fun bt795=>((spec_l6Rd_pick.f k x1000 bt791.2 4).bind fun bt799=>(if bt799.1=0 then (some (x767000,x767001,bt799.2)) else (if bt799.1=1 then ((spec_l6Rd_pick.f k x1000 bt799.2 (wrap64 ((bt795.1.length:Int)+1))).bind fun bt801=>((spec_l72Bits.f k x1000 bt801.2 8).bind fun bt803=>((spec_WalDo.f k x767000 x767001 bt795.1 true bt801.1 bt803.1).bind fun bt807=>(some (bt807.1,bt807.2,bt803.2))))) else (if bt799.1=2 then ((spec_l6Rd_pick.f k x1000 bt799.2 (wrap64 ((bt795.1.length:Int)+1))).bind fun bt813=>(if 0≤bt813.1 then (if bt813.1≤(bt795.1.length:Int) then ((spec_WalDo.f k x767000 x767001 (bt795.1.take (bt813.1:Int).toNat) false 0 ([]:List Int)).bind fun bt819=>(some (bt819.1,bt819.2,bt813.2))) else (none)) else (none))) else (spec_l72Wal.j3 k bt795.1 x1000 bt799.2 x767000 x767001)))))))
def spec_l72Wal.j3 : Nat → List (S61) → List Int → Int → List ByteArray → List (S75) → Option (List ByteArray × (List (S75)) × Int)
 | 0,_,_,_,_,_=>none
 | k+1,x11,x1000,x1001,x767000,x767001=>(spec_l6Rd_pick.f k x1000 x1001 4).bind fun bt825=>((spec_l72Bits.f k x1000 bt825.2 8).bind fun bt827=>((spec_WalDo.f k x767000 x767001 x11 true (wrap64 ((wrap64 ((x11.length:Int) - 1)) - bt825.1)) bt827.1).bind fun bt831=>(some (bt831.1,bt831.2,bt827.2))))
def spec_l72Wal.l0 : Nat → Int → List Int → Int → List ByteArray → List (S75) → Option (List ByteArray × (List (S75)) × Int)
 | 0,_,_,_,_,_=>none
 | k+1,x4,x1000,x1001,x767000,x767001=>if x4 > 0 then (spec_l72Wal.j1 k x4 x1000 x1001 x767000 x767001) else (spec_l72Wal.j2 k x1000 x1001 x767000 x767001)
def spec_l72Wal.j1 : Nat → Int → List Int → Int → List ByteArray → List (S75) → Option (List ByteArray × (List (S75)) × Int)
 | 0,_,_,_,_,_=>none
 | k+1,x4,x1000,x1001,x767000,x767001=>(spec_WalRead.f k x767000 x767001).bind fun bt769=>((spec_l72Homes.f k x1000 x1001 bt769.1).bind fun bt773=>((spec_WalSteps.f k x767000 x767001 bt773.1).bind fun bt777=>((spec_WalDo.f k x767000 x767001 bt777.1 false 0 ([]:List Int)).bind fun bt781=>(spec_l72Wal.l0 k (wrap64 (x4 - 1)) x1000 bt773.2 bt781.1 bt781.2))))
end
def spec_l72Wal.f (k : Nat) (s0_0 : List Int) (s0_1 : Int) : Option (List ByteArray × (List (S75)) × Int) := (spec_WalNew.f).bind fun bt760 => ((spec_l6Rd_pick.f k s0_0 s0_1 3).bind fun bt767 => (spec_l72Wal.l0 k (wrap64 (1 + bt767.1)) s0_0 bt767.2 bt760.1 bt760.2))
theorem spec_l72Wal.mono_l : ∀ k, (∀ y0 y1 y2 y3, LeO (spec_l72Wal.j2 k y0 y1 y2 y3) (spec_l72Wal.j2 (k + 1) y0 y1 y2 y3)) ∧ (∀ y0 y1 y2 y3 y4, LeO (spec_l72Wal.j3 k y0 y1 y2 y3 y4) (spec_l72Wal.j3 (k + 1) y0 y1 y2 y3 y4)) ∧ (∀ y0 y1 y2 y3 y4, LeO (spec_l72Wal.l0 k y0 y1 y2 y3 y4) (spec_l72Wal.l0 (k + 1) y0 y1 y2 y3 y4)) ∧ (∀ y0 y1 y2 y3 y4, LeO (spec_l72Wal.j1 k y0 y1 y2 y3 y4) (spec_l72Wal.j1 (k + 1) y0 y1 y2 y3 y4))
 | 0=>⟨fun _ _ _ _ r h=>by simp [spec_l72Wal.j2] at h,fun _ _ _ _ _ r h=>by simp [spec_l72Wal.j3] at h,fun _ _ _ _ _ r h=>by simp [spec_l72Wal.l0] at h,fun _ _ _ _ _ r h=>by simp [spec_l72Wal.j1] at h⟩
 | k+1=>by
  obtain ⟨ih0,ih1,ih2,ih3⟩:=spec_l72Wal.mono_l k;refine ⟨?_,?_,?_,?_⟩
  ·intro y0 y1 y2 y3
   unfold spec_l72Wal.j2
   repeat' first
   | (with_reducible first|exact ih0 _ _ _ _|exact ih1 _ _ _ _ _|exact ih2 _ _ _ _ _|exact ih3 _ _ _ _ _|exact spec_WalDo.mono _ _ _ _ _ _ _|exact spec_WalRead.mono _ _ _|exact spec_WalSteps.mono _ _ _ _|exact spec_l6Rd_pick.mono _ _ _ _|exact spec_l72Bits.mono _ _ _ _|exact spec_l72Homes.mono _ _ _ _|exact LeO.refl _|exact LeO.none _|refine LeO.ite ?_ ?_|refine LeO.bind ?_ (fun _=>?_))|exact ih0 _ _ _ _|exact ih1 _ _ _ _ _|exact ih2 _ _ _ _ _|exact ih3 _ _ _ _ _|exact spec_WalDo.mono _ _ _ _ _ _ _|exact spec_WalRead.mono _ _ _|exact spec_WalSteps.mono _ _ _ _|exact spec_l6Rd_pick.mono _ _ _ _|exact spec_l72Bits.mono _ _ _ _|exact spec_l72Homes.mono _ _ _ _|exact LeO.none _|refine LeO.ite ?_ ?_|refine LeO.bind ?_ (fun _=>?_)
  ·intro y0 y1 y2 y3 y4
   unfold spec_l72Wal.j3
   repeat' first
   | (with_reducible first|exact ih0 _ _ _ _|exact ih1 _ _ _ _ _|exact ih2 _ _ _ _ _|exact ih3 _ _ _ _ _|exact spec_WalDo.mono _ _ _ _ _ _ _|exact spec_WalRead.mono _ _ _|exact spec_WalSteps.mono _ _ _ _|exact spec_l6Rd_pick.mono _ _ _ _|exact spec_l72Bits.mono _ _ _ _|exact spec_l72Homes.mono _ _ _ _|exact LeO.refl _|exact LeO.none _|refine LeO.ite ?_ ?_|refine LeO.bind ?_ (fun _=>?_))|exact ih0 _ _ _ _|exact ih1 _ _ _ _ _|exact ih2 _ _ _ _ _|exact ih3 _ _ _ _ _|exact spec_WalDo.mono _ _ _ _ _ _ _|exact spec_WalRead.mono _ _ _|exact spec_WalSteps.mono _ _ _ _|exact spec_l6Rd_pick.mono _ _ _ _|exact spec_l72Bits.mono _ _ _ _|exact spec_l72Homes.mono _ _ _ _|exact LeO.none _|refine LeO.ite ?_ ?_|refine LeO.bind ?_ (fun _=>?_)
  ·intro y0 y1 y2 y3 y4
   unfold spec_l72Wal.l0
   repeat' first
   | (with_reducible first|exact ih0 _ _ _ _|exact ih1 _ _ _ _ _|exact ih2 _ _ _ _ _|exact ih3 _ _ _ _ _|exact spec_WalDo.mono _ _ _ _ _ _ _|exact spec_WalRead.mono _ _ _|exact spec_WalSteps.mono _ _ _ _|exact spec_l6Rd_pick.mono _ _ _ _|exact spec_l72Bits.mono _ _ _ _|exact spec_l72Homes.mono _ _ _ _|exact LeO.refl _|exact LeO.none _|refine LeO.ite ?_ ?_|refine LeO.bind ?_ (fun _=>?_))|exact ih0 _ _ _ _|exact ih1 _ _ _ _ _|exact ih2 _ _ _ _ _|exact ih3 _ _ _ _ _|exact spec_WalDo.mono _ _ _ _ _ _ _|exact spec_WalRead.mono _ _ _|exact spec_WalSteps.mono _ _ _ _|exact spec_l6Rd_pick.mono _ _ _ _|exact spec_l72Bits.mono _ _ _ _|exact spec_l72Homes.mono _ _ _ _|exact LeO.none _|refine LeO.ite ?_ ?_|refine LeO.bind ?_ (fun _=>?_)
  ·intro y0 y1 y2 y3 y4
   unfold spec_l72Wal.j1
   repeat' first
   | (with_reducible first|exact ih0 _ _ _ _|exact ih1 _ _ _ _ _|exact ih2 _ _ _ _ _|exact ih3 _ _ _ _ _|exact spec_WalDo.mono _ _ _ _ _ _ _|exact spec_WalRead.mono _ _ _|exact spec_WalSteps.mono _ _ _ _|exact spec_l6Rd_pick.mono _ _ _ _|exact spec_l72Bits.mono _ _ _ _|exact spec_l72Homes.mono _ _ _ _|exact LeO.refl _|exact LeO.none _|refine LeO.ite ?_ ?_|refine LeO.bind ?_ (fun _=>?_))|exact ih0 _ _ _ _|exact ih1 _ _ _ _ _|exact ih2 _ _ _ _ _|exact ih3 _ _ _ _ _|exact spec_WalDo.mono _ _ _ _ _ _ _|exact spec_WalRead.mono _ _ _|exact spec_WalSteps.mono _ _ _ _|exact spec_l6Rd_pick.mono _ _ _ _|exact spec_l72Bits.mono _ _ _ _|exact spec_l72Homes.mono _ _ _ _|exact LeO.none _|refine LeO.ite ?_ ?_|refine LeO.bind ?_ (fun _=>?_)
theorem spec_l72Wal.mono : ∀ a0 a1 k, LeO (spec_l72Wal.f k a0 a1) (spec_l72Wal.f (k + 1) a0 a1) := by
 intro a0 a1 k;obtain ⟨ih0,ih1,ih2,ih3⟩:=spec_l72Wal.mono_l k
 unfold spec_l72Wal.f
 repeat' first
   | (with_reducible first|exact ih0 _ _ _ _|exact ih1 _ _ _ _ _|exact ih2 _ _ _ _ _|exact ih3 _ _ _ _ _|exact spec_WalDo.mono _ _ _ _ _ _ _|exact spec_WalRead.mono _ _ _|exact spec_WalSteps.mono _ _ _ _|exact spec_l6Rd_pick.mono _ _ _ _|exact spec_l72Bits.mono _ _ _ _|exact spec_l72Homes.mono _ _ _ _|exact LeO.refl _|exact LeO.none _|refine LeO.ite ?_ ?_|refine LeO.bind ?_ (fun _=>?_))|exact ih0 _ _ _ _|exact ih1 _ _ _ _ _|exact ih2 _ _ _ _ _|exact ih3 _ _ _ _ _|exact spec_WalDo.mono _ _ _ _ _ _ _|exact spec_WalRead.mono _ _ _|exact spec_WalSteps.mono _ _ _ _|exact spec_l6Rd_pick.mono _ _ _ _|exact spec_l72Bits.mono _ _ _ _|exact spec_l72Homes.mono _ _ _ _|exact LeO.none _|refine LeO.ite ?_ ?_|refine LeO.bind ?_ (fun _=>?_)
def spec_l72Wal.T6 : Bool × List (List Nat × List Nat) := (true, [([], []), ([], []), ([], []), ([1, 2], [1, 2]), ([0, 3, 3], [0, 3]), ([4], [4]), ([5], [5]), ([5], [5]), ([6, 4, 0, 1, 2, 3, 4, 5, 6], [6]), ([7, 8, 0, 1, 2, 3, 4, 5, 6, 7, 8], [7])])
def spec_l72Wal.B6 : List Nat := [0, 0, 0, 6, 15, 31, 63, 63, 127, 511]
theorem spec_l72Wal.tab6 : rtab .any (opsOf Try.f85 6) = spec_l72Wal.T6 := by kernel_rfl
theorem spec_l72Wal.bits6 : waitsOk spec_l72Wal.T6.2 spec_l72Wal.B6 = true := by kernel_rfl
def spec_l72Wal.T9 : Bool × List (List Nat × List Nat) := (true, [([], []), ([], []), ([], []), ([1, 2], [1, 2]), ([0, 3, 3], [0, 3]), ([4], [4]), ([5], [5]), ([5], [5]), ([6, 4, 0, 1, 2, 3, 4, 5, 6], [6]), ([7, 8, 0, 1, 2, 3, 4, 5, 6, 7, 8], [7])])
def spec_l72Wal.B9 : List Nat := [0, 0, 0, 6, 15, 31, 63, 63, 127, 511]
theorem spec_l72Wal.tab9 : rtab .any (opsOf Try.f85 9) = spec_l72Wal.T9 := by kernel_rfl
theorem spec_l72Wal.bits9 : waitsOk spec_l72Wal.T9.2 spec_l72Wal.B9 = true := by kernel_rfl
def spec_l72Wal.T14 : Bool × List (List Nat × List Nat) := (true, [([], []), ([], []), ([], []), ([], []), ([3], [3]), ([4], [4]), ([2, 5], [2, 5]), ([], []), ([7, 6], [7]), ([0, 1, 6, 8, 8], [0, 1, 6, 8]), ([9, 9, 0, 1, 2, 3, 4, 5, 6, 7, 8, 9], [9])])
def spec_l72Wal.B14 : List Nat := [0, 0, 0, 0, 8, 24, 60, 0, 252, 511, 1023]
theorem spec_l72Wal.tab14 : rtab .any (opsOf Try.f85 14) = spec_l72Wal.T14 := by kernel_rfl
theorem spec_l72Wal.bits14 : waitsOk spec_l72Wal.T14.2 spec_l72Wal.B14 = true := by kernel_rfl
def spec_l72Wal.T18 : Bool × List (List Nat × List Nat) := (true, [([], []), ([], []), ([], []), ([2], [2]), ([3], [3]), ([], []), ([5], [5]), ([4, 6], [4, 6]), ([], []), ([8, 6], [8]), ([0, 1, 7, 9, 9], [0, 1, 7, 9]), ([10, 10, 0, 1, 2, 3, 4, 5, 6, 7, 8, 9, 10], [10])])
def spec_l72Wal.B18 : List Nat := [0, 0, 0, 4, 12, 0, 32, 124, 0, 352, 1023, 2047]
theorem spec_l72Wal.tab18 : rtab .any (opsOf Try.f85 18) = spec_l72Wal.T18 := by kernel_rfl
theorem spec_l72Wal.bits18 : waitsOk spec_l72Wal.T18.2 spec_l72Wal.B18 = true := by kernel_rfl
set_option maxHeartbeats 8000000 in
set_option maxRecDepth 100000 in
theorem spec_l72Wal.calls (k : Nat) (g : Nat) (s0_0 : List Int) (s0_1 : Int) (r1 : List ByteArray) (r2 : List (S75)) (r3 : Int) (w0 w : World) (hI : IsS110 w0 w g s0_0 s0_1) (hB : Below w0.heap.size w0 w) (h : spec_l72Wal.f k s0_0 s0_1 = some (r1, r2, r3)) :
  Calls Try.prog 85 #[.pointer (some ⟨g,0,none⟩)] w fun e w'=>∃ v0_ v1_:Value,e=.returned (.agg #[v0_,v1_])∧Kd.R Kd.string 9 w' w.heap.size (fun _=>True) v0_ r1∧Kd.R k75 75 w' w.heap.size (fun _=>True) v1_ r2∧IsS110 w0 w' g s0_0 r3∧Below w0.heap.size w0 w'∧KeepBut w w' g none:=by
 have hu31:=Try.underlying31;have HI0:=mA hI;have HK:=mA (KeepBut.refl w g none);have HL:=mA hB.size;clear hI;have HW0:=mA hB.size;have HB:=mA hB;clear hB;have H:((spec_WalNew.f).bind fun bt760=>((spec_l6Rd_pick.f k s0_0 s0_1 3).bind fun bt767=>(spec_l72Wal.l0 k (wrap64 (1+bt767.1)) s0_0 bt767.2 bt760.1 bt760.2)))=some (r1,r2,r3):=h;clear h;obtain ⟨⟨t760,t763⟩,A2,H⟩:=bI H;(try dsimp only at H);obtain ⟨⟨t767,t768⟩,A3,H⟩:=bI H;(try dsimp only at H);have HC4:=mA H;clear H
 go_enter Try.func85,Try.ntmps85
 go_upto_block 0 with (first|(refine bE 2 #[.slice none 0 0,.slice none 0 0] 31 ?_;intro gb759 hg w5 hbox hb;replace HB:=mA (below_step (pQ HB (IsS110.ge HI0.out)) hb);have BK759:=mA hbox;have GW759:=mA (lG (kS HK) hg);have GE759:=mA (Nat.le_trans HW0.out (lG (kS HK) hg));replace HK:=mA (KeepBut.trans (pH HK) (KeepBut.of_below hb g none) (.inl rfl));have NB0_759:=mA (lN (IsS110.lt (show IsS110 w0 _ g s0_0 s0_1 from IsS110.p HI0)) hg);have NB759_0:=nS NB0_759;replace HI0:=mA (IsS110.below (IsS110.p HI0) hb);clear hb hbox hg)|(refine gL (some 14) Try.func90 #[] ?_;(with_reducible refine (spec_WalNew.calls  t760 t763 _ A2.out).mono ?_);rintro e w6 ⟨v761,v764,rfl,ho0,ho1,hb⟩;refine ⟨_,rfl,?_⟩;have HO762:=mA (Kd.R_lower ho0 (kS HK));have HO765:=mA (Kd.R_lower ho1 (kS HK));replace BK759:=bK BK759 hb;replace HK:=mA (KeepBut.trans (pH HK) (KeepBut.of_below hb g none) (.inl rfl));replace HB:=mA (below_step (pQ HB (IsS110.ge HI0.out)) hb);replace HI0:=mA (IsS110.below (IsS110.p HI0) hb);(try clear hb);(try clear ho0);(try clear ho1))|(refine bE 3 #[.slice none 0 0,.slice none 0 0] 31 ?_;intro gb766 hg w7 hbox hb;replace HO762:=rB HO762 hb;replace HO765:=rB HO765 hb;replace HB:=mA (below_step (pQ HB (IsS110.ge HI0.out)) hb);have BK766:=mA hbox;have GW766:=mA (lG (kS HK) hg);have GE766:=mA (Nat.le_trans HW0.out (lG (kS HK) hg));replace HK:=mA (KeepBut.trans (pH HK) (KeepBut.of_below hb g none) (.inl rfl));have NB759_766:=mA (lN (blk_lt (pK BK759.out)) hg);have NB766_759:=nS NB759_766;replace BK759:=bK BK759 hb;have NB0_766:=mA (lN (IsS110.lt (show IsS110 w0 _ g s0_0 s0_1 from IsS110.p HI0)) hg);have NB766_0:=nS NB0_766;replace HI0:=mA (IsS110.below (IsS110.p HI0) hb);clear hb hbox hg;obtain ⟨Ao8,co8,rfl⟩:=Kd.R_slice HO762.out;have hnb9:=NB766_759.out;have hnc9:=NB759_766.out;have hnb10:=NB766_0.out;have hnc10:=NB0_766.out;obtain ⟨hcz11_0,hcz11_1,hfz11_0,hfz11_1⟩:=box2 BK766.out;obtain ⟨Ao12,co12,rfl⟩:=Kd.R_slice HO765.out)|(refine gL (some 16) Try.func75 #[.pointer (some ⟨g,0,none⟩),.int .i64 3] ?_;(with_reducible refine (spec_l6Rd_pick.calls k g s0_0 s0_1 3 t767 t768 w0 _ ?s1 ?s2 A3.out).mono ?_);(case s1=>exact IsS110.p HI0);(case s2=>exact pQ HB (IsS110.ge HI0.out));rintro e w13 ⟨rfl,hi,hb,hk⟩;refine ⟨_,rfl,?_⟩;replace HO762:=mA (rK (IsS110.apart (IsS110.p HI0) (pG HO762 BK766) aD) hk);replace HO765:=mA (rK (IsS110.apart (IsS110.p HI0) (pG HO765 BK766) aD) hk);replace BK759:=mA (kB hk (pF BK759.out) NB759_0);replace BK766:=mA (kP hk #[.slice Ao8 t760.length co8,.slice Ao12 t763.length co12] BK766 NB766_0);replace HK:=mA (KeepBut.trans (pH HK) hk (.inl rfl));replace HB:=mA hb;replace HI0:=mA hi;(try clear hb);(try clear hk);(try clear hi)))
 (try simp only [Act.put,List.setIfInBounds_toArray,List.set_cons_zero,List.set_cons_succ])
 go_cut [] (fun wc=>∃ (kq:Nat) (x1001_3:Int) (x767000_3:List ByteArray) (x767001_3:List (S75)) (u767000:Value) (u767001:Value),Aside0 (spec_l72Wal.j2 kq s0_0 x1001_3 x767000_3 x767001_3=some (r1,r2,r3))∧Aside0 (kq≤k)∧Aside0 (Kd.R Kd.string 9 wc w.heap.size (fun _=>True) u767000 x767000_3)∧Aside0 (Kd.R k75 75 wc w.heap.size (fun _=>True) u767001 x767001_3)∧Aside0 (wc.heap[gb759]?=some (.cells #[(.slice none 0 0),(.slice none 0 0)] 31 (0,0)))∧Aside0 (wc.heap[gb766]?=some (.cells #[u767000,u767001] 31 (0,0)))∧Aside0 (IsS110 w0 wc g s0_0 x1001_3)∧Aside0 (KeepBut w wc g none)∧Aside0 (Below w0.heap.size w0 wc))
 case first =>
  have H:=HC4.out;clear HC4;have H':=mA H;clear H
  go_wp2
  go_loopg [4] k (fun kq v4 w'=>∃ (x4_1:Int) (x1001_1:Int) (x767000_1:List ByteArray) (x767001_1:List (S75)) (u767000:Value) (u767001:Value),v4=.int .i64 x4_1∧Aside0 (spec_l72Wal.l0 kq x4_1 s0_0 x1001_1 x767000_1 x767001_1=some (r1,r2,r3))∧Aside0 (kq≤k)∧Aside0 (Kd.R Kd.string 9 w' w.heap.size (fun _=>True) u767000 x767000_1)∧Aside0 (Kd.R k75 75 w' w.heap.size (fun _=>True) u767001 x767001_1)∧Aside0 (w'.heap[gb759]?=some (.cells #[(.slice none 0 0),(.slice none 0 0)] 31 (0,0)))∧Aside0 (w'.heap[gb766]?=some (.cells #[u767000,u767001] 31 (0,0)))∧Aside0 (IsS110 w0 w' g s0_0 x1001_1)∧Aside0 (KeepBut w w' g none)∧Aside0 (Below w0.heap.size w0 w'))
  case atStart=>exact ⟨(wrap64 (1+t767)),(t768),(t760),(t763),(.slice Ao8 t760.length co8),(.slice Ao12 t763.length co12),bZ,H',⟨Nat.le_refl _⟩,⟨pR HO762.out⟩,⟨pR HO765.out⟩,⟨pK BK759.out⟩,⟨pK BK766.out⟩,⟨IsS110.p HI0⟩,⟨pH HK⟩,⟨pQ HB (IsS110.ge HI0.out)⟩⟩
  case round =>
   clear H'
   (try clear hcz11_0);(try clear hcz11_1);(try clear hfz11_0);(try clear hfz11_1)
   obtain ⟨x4_1,x1001_1,x767000_1,x767001_1,u767000,u767001,rfl,HA,HK1,HO_767000,HO_767001,BK759,BK766,HI0,HK,HB⟩:=hrel
   cases gk with
   | zero=>exact absurd HA.out (by simp [spec_l72Wal.l0])
   | succ k1 =>
    have H:=HA.out;clear HA;simp only [spec_l72Wal.l0] at H;have HC14:=mA H;clear H
    go_upto_if 19 with (fail)
    go_cut [] (fun wc=>∃ (kq:Nat),Aside0 (spec_l72Wal.j1 kq x4_1 s0_0 x1001_1 x767000_1 x767001_1=some (r1,r2,r3))∧Aside0 (kq≤k1)∧Aside0 (Kd.R Kd.string 9 wc w.heap.size (fun _=>True) u767000 x767000_1)∧Aside0 (Kd.R k75 75 wc w.heap.size (fun _=>True) u767001 x767001_1)∧Aside0 (wc.heap[gb759]?=some (.cells #[(.slice none 0 0),(.slice none 0 0)] 31 (0,0)))∧Aside0 (wc.heap[gb766]?=some (.cells #[u767000,u767001] 31 (0,0)))∧Aside0 (IsS110 w0 wc g s0_0 x1001_1)∧Aside0 (KeepBut w wc g none)∧Aside0 (Below w0.heap.size w0 wc))
    case first =>
     have H:=HC14.out;clear HC14
     by_cases c15:x4_1 > 0
     ·rw [if_pos c15] at H;have c15b0:decide (0<x4_1)=true:=decide_eq_true c15;clear c15
      (first|rw [c15b0]|(simp only [i64_w,i32_w];rw [c15b0])|skip)
      have H':=mA H;clear H
      go_wp2
      go_meet
      case rel=>exact ⟨_,H',⟨by have:=HK1.out;first|omega|exact Nat.le_refl _⟩,⟨pR HO_767000.out⟩,⟨pR HO_767001.out⟩,⟨pK BK759.out⟩,⟨pK BK766.out⟩,⟨IsS110.p HI0⟩,⟨pH HK⟩,⟨pQ HB (IsS110.ge HI0.out)⟩⟩
     ·rw [if_neg c15] at H;have c15b0:decide (0<x4_1)=false:=decide_eq_false c15;clear c15
      (first|rw [c15b0]|(simp only [i64_w,i32_w];rw [c15b0])|skip)
      have H':=mA H;clear H
      go_wp2
      go_meet
      case rel=>exact ⟨_,(x1001_1),(x767000_1),(x767001_1),(u767000),(u767001),H',⟨by have:=HK1.out;first|omega|exact Nat.le_refl _⟩,⟨pR HO_767000.out⟩,⟨pR HO_767001.out⟩,⟨pK BK759.out⟩,⟨pK BK766.out⟩,⟨IsS110.p HI0⟩,⟨pH HK⟩,⟨pQ HB (IsS110.ge HI0.out)⟩⟩
    case rest =>
     clear HC14
     (try clear hcz11_0);(try clear hcz11_1);(try clear hfz11_0);(try clear hfz11_1)
     obtain ⟨kq,HA,HJ13,HO_767000,HO_767001,BK759,BK766,HI0,HK,HB⟩:=hcut
     cases kq with
     | zero=>exact absurd HA.out (by simp [spec_l72Wal.j1])
     | succ kj13 =>
      have H:=HA.out;clear HA;simp only [spec_l72Wal.j1] at H;obtain ⟨⟨t769,t772⟩,A16,H⟩:=bI H;(try dsimp only at H);obtain ⟨⟨t773,t776⟩,A17,H⟩:=bI H;(try dsimp only at H);obtain ⟨⟨t777,t780⟩,A18,H⟩:=bI H;(try dsimp only at H);obtain ⟨⟨t781,t784⟩,A19,H⟩:=bI H;(try dsimp only at H);have H':=mA H;clear H;have hnb20:=NB766_759.out;have hnc20:=NB759_766.out;have hnb21:=NB766_0.out;have hnc21:=NB0_766.out;obtain ⟨hcz22_0,hcz22_1,hfz22_0,hfz22_1⟩:=box2 BK766.out;obtain ⟨Ao23,co23,rfl⟩:=Kd.R_slice HO_767000.out;obtain ⟨Ao24,co24,rfl⟩:=Kd.R_slice HO_767001.out
      try go_wp2_with (first|(refine gL (some 24) Try.func12 #[.agg #[.slice Ao23 x767000_1.length co23,.slice Ao24 x767001_1.length co24]] ?_;(with_reducible refine (spec_WalRead.calls kj13 _ _ x767000_1 _ _ x767001_1 t769 t772 _ ?s1 ?s2 ?s3 ?s4 A16.out).mono ?_);(case s1=>exact cR HO_767000);(case s2=>exact cL HO_767000);(case s3=>exact cR HO_767001);(case s4=>exact cL HO_767001);rintro e w25 ⟨v770,rfl,ho0,hb⟩;refine ⟨_,rfl,?_⟩;replace HO_767001:=rB HO_767001 hb;have HO771:=mA (Kd.R_lower (Kd.R_new' ho0 (rL HO_767000)) (kS HK));replace HO_767000:=rE HO_767000 ho0 hb;replace BK759:=bK BK759 hb;replace BK766:=bK BK766 hb;replace HK:=mA (KeepBut.trans (pH HK) (KeepBut.of_below hb g none) (.inl rfl));replace HB:=mA (below_step (pQ HB (IsS110.ge HI0.out)) hb);replace HI0:=mA (IsS110.below (IsS110.p HI0) hb);(try clear hb);(try clear ho0)))
      replace HO_767000:=rD HO_767000;replace HO_767001:=rD HO_767001;replace HO771:=rD HO771;replace BK759:=mA (blk_drew BK759.out);replace BK766:=mA (blk_drew BK766.out);replace HI0:=mA (IsS110.drew HI0.out);replace HK:=mA (keep_drew HK.out);replace HB:=mA (below_drew1 HB.out);obtain ⟨Ao27,co27,eo27⟩:=Kd.R_slice HO771.out
      (first|subst eo27|(injection eo27 with f1_ f2_ f3_;have f4_:=f1_.symm;have f5_:=f3_.symm;clear f1_ f2_ f3_;subst f4_;subst f5_))
      refine start_ (n:=10) (S:=fun w'=>w'.cell? ⟨gb766,0,none⟩=some (.slice Ao23 x767000_1.length co23)∧w'.cell? ⟨gb766,1,none⟩=some (.slice Ao24 x767001_1.length co24)) (ds:=[]) _ aK rfl rfl ⟨eC BK766 0,eC BK766 1⟩ (fun hHeld=>?_);refine with_tabW spec_l72Wal.tab6 spec_l72Wal.bits6 (fun HT_ HW_=>?_)
      generalize w25.drew=w26 at HO_767000 HO_767001 HO771 BK759 BK766 HI0 HK HB hHeld ⊢
      refine pu_ 1 (some 29) (aT HT_) ?_
      refine pu_ 2 (some 30) (aT HT_) ?_
      refine ta2_ 0 (some 28) (tT HT_ HW_) hHeld ?_
      refine on_ 3 (some 31) (oT HT_) ?_;intro K hK
      refine gS Try.func74 #[.pointer (some ⟨g,0,none⟩),.slice Ao27 t769.length co27] ?_
      with_reducible refine (spec_l72Homes.calls kj13 g s0_0 x1001_1 _ _ t769 t773 t776 w0 _ ?s1 ?s2 ?s3 ?s4 ?s5 A17.out).mono ?_
      (case s1=>exact IsS110.p HI0)
      (case s2=>exact pQ HB (IsS110.ge HI0.out))
      (case s3=>exact cR HO771)
      (case s4=>exact cL HO771)
      (case s5=>exact far_slice (IsS110.own_ne HI0.out HO771.out aD))
      rintro e w28 ⟨v774,rfl,ho0,hi,hb,hk⟩;refine ⟨_,rfl,?_⟩
      replace HO_767001:=mA (rK (IsS110.apart (IsS110.p HI0) (pR HO_767001.out) aD) hk);have HO775:=mA (Kd.R_lower (Kd.R_new' (Kd.R_new' ho0 (rL HO_767000)) (rL HO771)) (kS HK));replace HO_767000:=mA (Kd.R_mono (Kd.R_told (Kd.R_oldK (IsS110.apart (IsS110.p HI0) (pR HO_767000.out) aD) hk) (Kd.R_base ho0)) (fun _ h_=>h_.1));replace HO771:=mA (Kd.R_mono (Kd.R_told (Kd.R_oldK (IsS110.apart (IsS110.p HI0) (pR HO771.out) aD) hk) (Kd.R_base ho0)) (fun _ h_=>h_.1));replace BK759:=mA (kB hk (pK BK759.out) NB759_0);replace BK766:=mA (kB hk (pK BK766.out) NB766_0);replace HK:=mA (KeepBut.trans (pH HK) hk (.inl rfl));replace HB:=mA hb;replace HI0:=mA hi
      (try clear hb);(try clear hk);(try clear hi);(try clear ho0)
      obtain ⟨Ao29,co29,eo29⟩:=Kd.R_slice HO775.out
      (first|subst eo29|(injection eo29 with f1_ f2_ f3_;have f4_:=f1_.symm;have f5_:=f3_.symm;clear f1_ f2_ f3_;subst f4_;subst f5_))
      refine hK.out _ _ ⟨eC BK766 0,eC BK766 1⟩ (fun hHeld=>?_);clear hK K;refine no_ (some 31) ?_
      refine on_ 4 (some 32) (oT HT_) ?_;intro K hK
      refine gS Try.func26 #[.agg #[.slice Ao23 x767000_1.length co23,.slice Ao24 x767001_1.length co24],.slice Ao29 t773.length co29] ?_
      with_reducible refine (spec_WalSteps.calls kj13 _ _ x767000_1 _ _ x767001_1 _ _ t773 t777 t780 _ ?s1 ?s2 ?s3 ?s4 ?s5 ?s6 A18.out).mono ?_
      (case s1=>exact cR HO_767000)
      (case s2=>exact cL HO_767000)
      (case s3=>exact cR HO_767001)
      (case s4=>exact cL HO_767001)
      (case s5=>exact cR HO775)
      (case s6=>exact cL HO775)
      rintro e w30 ⟨v778,rfl,ho0,hb⟩;refine ⟨_,rfl,?_⟩;replace HO_767000:=rB HO_767000 hb;replace HO_767001:=rB HO_767001 hb;replace HO771:=rB HO771 hb;replace HO775:=rB HO775 hb;have HO779:=mA (Kd.R_lower ho0 (kS HK));replace BK759:=bK BK759 hb;replace BK766:=bK BK766 hb;replace HK:=mA (KeepBut.trans (pH HK) (KeepBut.of_below hb g none) (.inl rfl));replace HB:=mA (below_step (pQ HB (IsS110.ge HI0.out)) hb);replace HI0:=mA (IsS110.below (IsS110.p HI0) hb)
      (try clear hb);(try clear ho0)
      refine hK.out _ _ ⟨eC BK766 0,eC BK766 1⟩ (fun hHeld=>?_);clear hK K;refine no_ (some 32) ?_
      refine pu_ 5 (some 27) (aT HT_) ?_
      refine pu_ 6 (some 33) (aT HT_) ?_
      refine pu_ 7 (some 34) (aT HT_) ?_
      refine pu_ 8 (some 7) (aT HT_) ?_
      refine pu_ 9 (some 8) (aT HT_) ?_
      refine done_ (done_of HT_.out aK) ?_
      obtain ⟨hcz31_0,hcz31_1,hfz31_0,hfz31_1⟩:=box2 BK766.out;obtain ⟨Ao32,co32,rfl⟩:=Kd.R_slice HO779.out
      try go_wp2_with (first|(refine gL (some 37) Try.func33 #[.agg #[.slice Ao23 x767000_1.length co23,.slice Ao24 x767001_1.length co24],.slice Ao32 t777.length co32,.bool false,.int .i64 0,.slice none 0 0] ?_;(refine (spec_WalDo.calls kj13 _ _ x767000_1 _ _ x767001_1 _ _ t777 false 0 _ _ ([]:List Int) t781 t784 _ ?s1 ?s2 ?s3 ?s4 ?s5 ?s6 ?s7 ?s8 A19.out).mono ?_);(case s1=>exact cR HO_767000);(case s2=>exact cL HO_767000);(case s3=>exact cR HO_767001);(case s4=>exact cL HO_767001);(case s5=>exact cR HO779);(case s6=>exact cL HO779);(case s7=>exact Kd.C_nil _ _);(case s8=>exact Nat.le_refl _);rintro e w33 ⟨v782,v785,rfl,ho0,ho1,hb⟩;refine ⟨_,rfl,?_⟩;replace HO779:=rB HO779 hb;have HO783:=mA (Kd.R_lower (Kd.R_new' (Kd.R_new' (Kd.R_new' ho0 (rL HO_767000)) (rL HO771)) (rL HO775)) (kS HK));replace HO_767000:=rE HO_767000 ho0 hb;replace HO771:=rE HO771 ho0 hb;replace HO775:=rE HO775 ho0 hb;have HO786:=mA (Kd.R_lower (Kd.R_new' ho1 (rL HO_767001)) (kS HK));replace HO_767001:=rE HO_767001 ho1 hb;replace BK759:=bK BK759 hb;replace BK766:=bK BK766 hb;replace HK:=mA (KeepBut.trans (pH HK) (KeepBut.of_below hb g none) (.inl rfl));replace HB:=mA (below_step (pQ HB (IsS110.ge HI0.out)) hb);replace HI0:=mA (IsS110.below (IsS110.p HI0) hb);(try clear hb);(try clear ho0);(try clear ho1);obtain ⟨Ao34,co34,rfl⟩:=Kd.R_slice HO783.out;obtain ⟨hcz35_0,hcz35_1,hfz35_0,hfz35_1⟩:=box2 BK766.out;obtain ⟨Ao36,co36,rfl⟩:=Kd.R_slice HO786.out))
      go_roundg kj13
      case measure=>have:=HK1.out;have:=HJ13.out;omega
      case rel=>exact ⟨(wrap64 (x4_1 - 1)),(t776),(t781),(t784),(.slice Ao34 t781.length co34),(.slice Ao36 t784.length co36),bZ,H',⟨by have:=HK1.out;have:=HJ13.out;omega⟩,⟨pU HO783 BK766⟩,⟨pU HO786 BK766⟩,⟨pF BK759.out⟩,⟨pP BK766⟩,⟨IsS110.p HI0⟩,⟨pH HK⟩,⟨pQ HB (IsS110.ge HI0.out)⟩⟩
 case rest =>
  clear HC4
  (try clear hcz11_0);(try clear hcz11_1);(try clear hfz11_0);(try clear hfz11_1)
  obtain ⟨kq,x1001_3,x767000_3,x767001_3,u767000,u767001,HA,HJ3,HO_767000,HO_767001,BK759,BK766,HI0,HK,HB⟩:=hcut
  cases kq with
  | zero=>exact absurd HA.out (by simp [spec_l72Wal.j2])
  | succ kj3 =>
   have H:=HA.out;clear HA;simp only [spec_l72Wal.j2] at H;obtain ⟨⟨t787,t790⟩,A37,H⟩:=bI H;(try dsimp only at H);obtain ⟨⟨t791,t794⟩,A38,H⟩:=bI H;(try dsimp only at H);obtain ⟨⟨t795,t798⟩,A39,H⟩:=bI H;(try dsimp only at H);obtain ⟨⟨t799,t800⟩,A40,H⟩:=bI H;(try dsimp only at H);have HC41:=mA H;clear H;have hnb42:=NB766_759.out;have hnc42:=NB759_766.out;have hnb43:=NB766_0.out;have hnc43:=NB0_766.out;obtain ⟨hcz44_0,hcz44_1,hfz44_0,hfz44_1⟩:=box2 BK766.out;obtain ⟨Ao45,co45,rfl⟩:=Kd.R_slice HO_767000.out;obtain ⟨Ao46,co46,rfl⟩:=Kd.R_slice HO_767001.out
   try go_wp2_with (first|(refine gL (some 40) Try.func12 #[.agg #[.slice Ao45 x767000_3.length co45,.slice Ao46 x767001_3.length co46]] ?_;(with_reducible refine (spec_WalRead.calls kj3 _ _ x767000_3 _ _ x767001_3 t787 t790 _ ?s1 ?s2 ?s3 ?s4 A37.out).mono ?_);(case s1=>exact cR HO_767000);(case s2=>exact cL HO_767000);(case s3=>exact cR HO_767001);(case s4=>exact cL HO_767001);rintro e w47 ⟨v788,rfl,ho0,hb⟩;refine ⟨_,rfl,?_⟩;replace HO_767001:=rB HO_767001 hb;have HO789:=mA (Kd.R_lower (Kd.R_new' ho0 (rL HO_767000)) (kS HK));replace HO_767000:=rE HO_767000 ho0 hb;replace BK759:=bK BK759 hb;replace BK766:=bK BK766 hb;replace HK:=mA (KeepBut.trans (pH HK) (KeepBut.of_below hb g none) (.inl rfl));replace HB:=mA (below_step (pQ HB (IsS110.ge HI0.out)) hb);replace HI0:=mA (IsS110.below (IsS110.p HI0) hb);(try clear hb);(try clear ho0)))
   replace HO_767000:=rD HO_767000;replace HO_767001:=rD HO_767001;replace HO789:=rD HO789;replace BK759:=mA (blk_drew BK759.out);replace BK766:=mA (blk_drew BK766.out);replace HI0:=mA (IsS110.drew HI0.out);replace HK:=mA (keep_drew HK.out);replace HB:=mA (below_drew1 HB.out);obtain ⟨Ao49,co49,eo49⟩:=Kd.R_slice HO789.out
   (first|subst eo49|(injection eo49 with f1_ f2_ f3_;have f4_:=f1_.symm;have f5_:=f3_.symm;clear f1_ f2_ f3_;subst f4_;subst f5_))
   refine start_ (n:=10) (S:=fun w'=>w'.cell? ⟨gb766,0,none⟩=some (.slice Ao45 x767000_3.length co45)∧w'.cell? ⟨gb766,1,none⟩=some (.slice Ao46 x767001_3.length co46)) (ds:=[]) _ aK rfl rfl ⟨eC BK766 0,eC BK766 1⟩ (fun hHeld=>?_);refine with_tabW spec_l72Wal.tab9 spec_l72Wal.bits9 (fun HT_ HW_=>?_)
   generalize w47.drew=w48 at HO_767000 HO_767001 HO789 BK759 BK766 HI0 HK HB hHeld ⊢
   refine pu_ 1 (some 45) (aT HT_) ?_
   refine pu_ 2 (some 46) (aT HT_) ?_
   refine ta2_ 0 (some 44) (tT HT_ HW_) hHeld ?_
   refine on_ 3 (some 47) (oT HT_) ?_;intro K hK
   refine gS Try.func74 #[.pointer (some ⟨g,0,none⟩),.slice Ao49 t787.length co49] ?_
   with_reducible refine (spec_l72Homes.calls kj3 g s0_0 x1001_3 _ _ t787 t791 t794 w0 _ ?s1 ?s2 ?s3 ?s4 ?s5 A38.out).mono ?_
   (case s1=>exact IsS110.p HI0)
   (case s2=>exact pQ HB (IsS110.ge HI0.out))
   (case s3=>exact cR HO789)
   (case s4=>exact cL HO789)
   (case s5=>exact far_slice (IsS110.own_ne HI0.out HO789.out aD))
   rintro e w50 ⟨v792,rfl,ho0,hi,hb,hk⟩;refine ⟨_,rfl,?_⟩
   replace HO_767001:=mA (rK (IsS110.apart (IsS110.p HI0) (pR HO_767001.out) aD) hk);have HO793:=mA (Kd.R_lower (Kd.R_new' (Kd.R_new' ho0 (rL HO_767000)) (rL HO789)) (kS HK));replace HO_767000:=mA (Kd.R_mono (Kd.R_told (Kd.R_oldK (IsS110.apart (IsS110.p HI0) (pR HO_767000.out) aD) hk) (Kd.R_base ho0)) (fun _ h_=>h_.1));replace HO789:=mA (Kd.R_mono (Kd.R_told (Kd.R_oldK (IsS110.apart (IsS110.p HI0) (pR HO789.out) aD) hk) (Kd.R_base ho0)) (fun _ h_=>h_.1));replace BK759:=mA (kB hk (pK BK759.out) NB759_0);replace BK766:=mA (kB hk (pK BK766.out) NB766_0);replace HK:=mA (KeepBut.trans (pH HK) hk (.inl rfl));replace HB:=mA hb;replace HI0:=mA hi
   (try clear hb);(try clear hk);(try clear hi);(try clear ho0)
   obtain ⟨Ao51,co51,eo51⟩:=Kd.R_slice HO793.out
   (first|subst eo51|(injection eo51 with f1_ f2_ f3_;have f4_:=f1_.symm;have f5_:=f3_.symm;clear f1_ f2_ f3_;subst f4_;subst f5_))
   refine hK.out _ _ ⟨eC BK766 0,eC BK766 1⟩ (fun hHeld=>?_);clear hK K;refine no_ (some 47) ?_
   refine on_ 4 (some 48) (oT HT_) ?_;intro K hK
   refine gS Try.func26 #[.agg #[.slice Ao45 x767000_3.length co45,.slice Ao46 x767001_3.length co46],.slice Ao51 t791.length co51] ?_
   with_reducible refine (spec_WalSteps.calls kj3 _ _ x767000_3 _ _ x767001_3 _ _ t791 t795 t798 _ ?s1 ?s2 ?s3 ?s4 ?s5 ?s6 A39.out).mono ?_
   (case s1=>exact cR HO_767000)
   (case s2=>exact cL HO_767000)
   (case s3=>exact cR HO_767001)
   (case s4=>exact cL HO_767001)
   (case s5=>exact cR HO793)
   (case s6=>exact cL HO793)
   rintro e w52 ⟨v796,rfl,ho0,hb⟩;refine ⟨_,rfl,?_⟩;replace HO_767000:=rB HO_767000 hb;replace HO_767001:=rB HO_767001 hb;replace HO789:=rB HO789 hb;replace HO793:=rB HO793 hb;have HO797:=mA (Kd.R_lower ho0 (kS HK));replace BK759:=bK BK759 hb;replace BK766:=bK BK766 hb;replace HK:=mA (KeepBut.trans (pH HK) (KeepBut.of_below hb g none) (.inl rfl));replace HB:=mA (below_step (pQ HB (IsS110.ge HI0.out)) hb);replace HI0:=mA (IsS110.below (IsS110.p HI0) hb)
   (try clear hb);(try clear ho0)
   refine hK.out _ _ ⟨eC BK766 0,eC BK766 1⟩ (fun hHeld=>?_);clear hK K;refine no_ (some 48) ?_
   refine pu_ 5 (some 43) (aT HT_) ?_
   refine pu_ 6 (some 49) (aT HT_) ?_
   refine pu_ 7 (some 50) (aT HT_) ?_
   refine pu_ 8 (some 11) (aT HT_) ?_
   refine pu_ 9 (some 12) (aT HT_) ?_
   refine done_ (done_of HT_.out aK) ?_
   go_upto_block 2 with (first|(refine gL (some 52) Try.func75 #[.pointer (some ⟨g,0,none⟩),.int .i64 4] ?_;(with_reducible refine (spec_l6Rd_pick.calls kj3 g s0_0 t794 4 t799 t800 w0 _ ?s1 ?s2 A40.out).mono ?_);(case s1=>exact IsS110.p HI0);(case s2=>exact pQ HB (IsS110.ge HI0.out));rintro e w53 ⟨rfl,hi,hb,hk⟩;refine ⟨_,rfl,?_⟩;replace HO_767000:=mA (rK (IsS110.apart (IsS110.p HI0) (pR HO_767000.out) aD) hk);replace HO_767001:=mA (rK (IsS110.apart (IsS110.p HI0) (pR HO_767001.out) aD) hk);replace HO789:=mA (rK (IsS110.apart (IsS110.p HI0) (pR HO789.out) aD) hk);replace HO793:=mA (rK (IsS110.apart (IsS110.p HI0) (pR HO793.out) aD) hk);replace HO797:=mA (rK (IsS110.apart (IsS110.p HI0) (pR HO797.out) aD) hk);replace BK759:=mA (kB hk (pK BK759.out) NB759_0);replace BK766:=mA (kB hk (pK BK766.out) NB766_0);replace HK:=mA (KeepBut.trans (pH HK) hk (.inl rfl));replace HB:=mA hb;replace HI0:=mA hi;(try clear hb);(try clear hk);(try clear hi)))
   (try simp only [Act.put,List.setIfInBounds_toArray,List.set_cons_zero,List.set_cons_succ])
   go_cut [] (fun wc=>∃ (kq:Nat) (x1001_40:Int),Aside0 (spec_l72Wal.j3 kq t795 s0_0 x1001_40 x767000_3 x767001_3=some (r1,r2,r3))∧Aside0 (kq≤kj3)∧Aside0 (Kd.R k61 61 wc w.heap.size (fun _=>True) v796 t795)∧Aside0 (Kd.R Kd.string 9 wc w.heap.size (fun _=>True) (.slice Ao45 x767000_3.length co45) x767000_3)∧Aside0 (Kd.R k75 75 wc w.heap.size (fun _=>True) (.slice Ao46 x767001_3.length co46) x767001_3)∧Aside0 (wc.heap[gb759]?=some (.cells #[(.slice none 0 0),(.slice none 0 0)] 31 (0,0)))∧Aside0 (wc.heap[gb766]?=some (.cells #[(.slice Ao45 x767000_3.length co45),(.slice Ao46 x767001_3.length co46)] 31 (0,0)))∧Aside0 (IsS110 w0 wc g s0_0 x1001_40)∧Aside0 (KeepBut w wc g none)∧Aside0 (Below w0.heap.size w0 wc))
   case first =>
    have H:=HC41.out;clear HC41
    by_cases c54:t799=0
    ·rw [if_pos c54] at H;obtain ⟨c54b0,c54b1⟩:=eqB c54;clear c54
     (first|rw [c54b0]|(simp only [i64_w,i32_w];rw [c54b0])|skip)
     simp only [Option.some.injEq,Prod.mk.injEq] at H;obtain ⟨rfl,rfl,rfl⟩:=H;have hnb55:=NB766_759.out;have hnc55:=NB759_766.out;have hnb56:=NB766_0.out;have hnc56:=NB0_766.out;obtain ⟨hcz57_0,hcz57_1,hfz57_0,hfz57_1⟩:=box2 BK766.out;have hnb58:=NB759_0.out;have hnc58:=NB0_759.out;obtain ⟨hcz59_0,hcz59_1,hfz59_0,hfz59_1⟩:=box2 BK759.out
     go_wp2
     refine bodyPost_ret (results_cell_row rfl _ _ gb759 31 #[.slice Ao45 x767000_3.length co45,.slice Ao46 x767001_3.length co46] (0,0) _ rfl (pP BK759) Try.underlying31 rfl aK) rfl ?_
     exact ⟨_,_,by first|rfl|(simp [errW_none,errW_some]<;>rfl)|(simp [*,errW_none,errW_some]<;>rfl),pU HO_767000 BK759,pU HO_767001 BK759,IsS110.p HI0,pQ HB (IsS110.ge HI0.out),pH HK⟩
    ·rw [if_neg c54] at H;have c54b0:(t799 == 0)=false:=beq_eq_false_iff_ne.mpr c54;have c54b1:(t799 != 0)=true:=bne_iff_ne.mpr c54
     (first|rw [c54b0]|(simp only [i64_w,i32_w];rw [c54b0])|skip)
     by_cases c60:t799=1
     ·rw [if_pos c60] at H;obtain ⟨c60b0,c60b1⟩:=eqB c60;clear c60;obtain ⟨⟨t801,t802⟩,A61,H⟩:=bI H;(try dsimp only at H);obtain ⟨⟨t803,t806⟩,A62,H⟩:=bI H;(try dsimp only at H);obtain ⟨⟨t807,t810⟩,A63,H⟩:=bI H;(try dsimp only at H);simp only [Option.some.injEq,Prod.mk.injEq] at H;obtain ⟨rfl,rfl,rfl⟩:=H
      try go_wp2
      replace HO_767000:=rD HO_767000;replace HO_767001:=rD HO_767001;replace HO789:=rD HO789;replace HO793:=rD HO793;replace HO797:=rD HO797;replace BK759:=mA (blk_drew BK759.out);replace BK766:=mA (blk_drew BK766.out);replace HI0:=mA (IsS110.drew HI0.out);replace HK:=mA (keep_drew HK.out);replace HB:=mA (below_drew1 HB.out);obtain ⟨Ao65,co65,eo65⟩:=Kd.R_slice HO797.out
      (first|subst eo65|(injection eo65 with f1_ f2_ f3_;have f4_:=f1_.symm;have f5_:=f3_.symm;clear f1_ f2_ f3_;subst f4_;subst f5_))
      refine start_ (n:=11) (S:=fun w'=>w'.cell? ⟨gb766,0,none⟩=some (.slice Ao45 x767000_3.length co45)∧w'.cell? ⟨gb766,1,none⟩=some (.slice Ao46 x767001_3.length co46)) (ds:=[]) _ aK rfl rfl ⟨eC BK766 0,eC BK766 1⟩ (fun hHeld=>?_);refine with_tabW spec_l72Wal.tab14 spec_l72Wal.bits14 (fun HT_ HW_=>?_)
      generalize w53.drew=w64 at HO_767000 HO_767001 HO789 HO793 HO797 BK759 BK766 HI0 HK HB hHeld ⊢
      refine pu_ 1 (some 59) (aT HT_) ?_
      refine pu_ 2 (some 60) (aT HT_) ?_
      refine pu_ 3 (some 61) (aT HT_) ?_
      refine pu_ 4 (some 62) (aT HT_) ?_
      refine pu_ 5 (some 63) (aT HT_) ?_
      refine pu_ 7 (some 65) (aT HT_) ?_
      refine ta2_ 0 (some 58) (tT HT_ HW_) hHeld ?_
      refine on_ 6 (some 64) (oT HT_) ?_;intro K hK
      refine gS Try.func75 #[.pointer (some ⟨g,0,none⟩),.int .i64 (wrap64 ((t795.length:Int)+1))] ?_
      with_reducible refine (spec_l6Rd_pick.calls kj3 g s0_0 t800 (wrap64 ((t795.length:Int)+1)) t801 t802 w0 _ ?s1 ?s2 A61.out).mono ?_
      (case s1=>exact IsS110.p HI0)
      (case s2=>exact pQ HB (IsS110.ge HI0.out))
      rintro e w66 ⟨rfl,hi,hb,hk⟩;refine ⟨_,rfl,?_⟩
      replace HO_767000:=mA (rK (IsS110.apart (IsS110.p HI0) (pR HO_767000.out) aD) hk);replace HO_767001:=mA (rK (IsS110.apart (IsS110.p HI0) (pR HO_767001.out) aD) hk);replace HO789:=mA (rK (IsS110.apart (IsS110.p HI0) (pR HO789.out) aD) hk);replace HO793:=mA (rK (IsS110.apart (IsS110.p HI0) (pR HO793.out) aD) hk);replace HO797:=mA (rK (IsS110.apart (IsS110.p HI0) (pR HO797.out) aD) hk);replace BK759:=mA (kB hk (pK BK759.out) NB759_0);replace BK766:=mA (kB hk (pK BK766.out) NB766_0);replace HK:=mA (KeepBut.trans (pH HK) hk (.inl rfl));replace HB:=mA hb;replace HI0:=mA hi
      (try clear hb);(try clear hk);(try clear hi)
      refine hK.out _ _ ⟨eC BK766 0,eC BK766 1⟩ (fun hHeld=>?_);clear hK K;refine no_ (some 64) ?_
      refine on_ 8 (some 66) (oT HT_) ?_;intro K hK
      refine gS Try.func79 #[.pointer (some ⟨g,0,none⟩),.int .i64 8] ?_
      with_reducible refine (spec_l72Bits.calls kj3 g s0_0 t802 8 t803 t806 w0 _ ?s1 ?s2 A62.out).mono ?_
      (case s1=>exact IsS110.p HI0)
      (case s2=>exact pQ HB (IsS110.ge HI0.out))
      rintro e w67 ⟨v804,rfl,ho0,hi,hb,hk⟩;refine ⟨_,rfl,?_⟩
      replace HO_767000:=mA (rK (IsS110.apart (IsS110.p HI0) (pR HO_767000.out) aD) hk);replace HO_767001:=mA (rK (IsS110.apart (IsS110.p HI0) (pR HO_767001.out) aD) hk);replace HO789:=mA (rK (IsS110.apart (IsS110.p HI0) (pR HO789.out) aD) hk);replace HO793:=mA (rK (IsS110.apart (IsS110.p HI0) (pR HO793.out) aD) hk);replace HO797:=mA (rK (IsS110.apart (IsS110.p HI0) (pR HO797.out) aD) hk);have HO805:=mA (Kd.R_lower ho0 (kS HK));replace BK759:=mA (kB hk (pK BK759.out) NB759_0);replace BK766:=mA (kB hk (pK BK766.out) NB766_0);replace HK:=mA (KeepBut.trans (pH HK) hk (.inl rfl));replace HB:=mA hb;replace HI0:=mA hi
      (try clear hb);(try clear hk);(try clear hi);(try clear ho0)
      obtain ⟨Ao68,co68,eo68⟩:=Kd.R_slice HO805.out
      (first|subst eo68|(injection eo68 with f1_ f2_ f3_;have f4_:=f1_.symm;have f5_:=f3_.symm;clear f1_ f2_ f3_;subst f4_;subst f5_))
      refine hK.out _ _ ⟨eC BK766 0,eC BK766 1⟩ (fun hHeld=>?_);clear hK K;refine no_ (some 66) ?_
      refine on_ 9 (some 67) (oT HT_) ?_;intro K hK
      refine gS Try.func33 #[.agg #[.slice Ao45 x767000_3.length co45,.slice Ao46 x767001_3.length co46],.slice Ao65 t795.length co65,.bool true,.int .i64 t801,.slice Ao68 t803.length co68] ?_
      with_reducible refine (spec_WalDo.calls kj3 _ _ x767000_3 _ _ x767001_3 _ _ t795 true t801 _ _ t803 t807 t810 _ ?s1 ?s2 ?s3 ?s4 ?s5 ?s6 ?s7 ?s8 A63.out).mono ?_
      (case s1=>exact cR HO_767000)
      (case s2=>exact cL HO_767000)
      (case s3=>exact cR HO_767001)
      (case s4=>exact cL HO_767001)
      (case s5=>exact cR HO797)
      (case s6=>exact cL HO797)
      (case s7=>exact cR HO805)
      (case s8=>exact cL HO805)
      rintro e w69 ⟨v808,v811,rfl,ho0,ho1,hb⟩;refine ⟨_,rfl,?_⟩;replace HO797:=rB HO797 hb;replace HO805:=rB HO805 hb;have HO809:=mA (Kd.R_lower (Kd.R_new' (Kd.R_new' (Kd.R_new' ho0 (rL HO_767000)) (rL HO789)) (rL HO793)) (kS HK));replace HO_767000:=rE HO_767000 ho0 hb;replace HO789:=rE HO789 ho0 hb;replace HO793:=rE HO793 ho0 hb;have HO812:=mA (Kd.R_lower (Kd.R_new' ho1 (rL HO_767001)) (kS HK));replace HO_767001:=rE HO_767001 ho1 hb;replace BK759:=bK BK759 hb;replace BK766:=bK BK766 hb;replace HK:=mA (KeepBut.trans (pH HK) (KeepBut.of_below hb g none) (.inl rfl));replace HB:=mA (below_step (pQ HB (IsS110.ge HI0.out)) hb);replace HI0:=mA (IsS110.below (IsS110.p HI0) hb)
      (try clear hb);(try clear ho0);(try clear ho1)
      obtain ⟨Ao70,co70,eo70⟩:=Kd.R_slice HO809.out
      (first|subst eo70|(injection eo70 with f1_ f2_ f3_;have f4_:=f1_.symm;have f5_:=f3_.symm;clear f1_ f2_ f3_;subst f4_;subst f5_))
      obtain ⟨Ao72,co72,eo72⟩:=Kd.R_slice HO812.out
      (first|subst eo72|(injection eo72 with f1_ f2_ f3_;have f4_:=f1_.symm;have f5_:=f3_.symm;clear f1_ f2_ f3_;subst f4_;subst f5_))
      refine hK.out _ _ ⟨eC BK766 0,eC BK766 1⟩ (fun hHeld=>?_);clear hK K;refine no_ (some 67) ?_
      refine on_ 10 (none) (oT HT_) ?_;intro K hK
      have hs71:w69.cell? ⟨gb759,0,none⟩=some (.slice none 0 0):=eC BK759 0;have hfs71:=blk_frozen BK759.out 0;have hns71_1:=NB766_759.out;have hms71_1:=NB759_766.out;have hs73:w69.cell? ⟨gb759,1,none⟩=some (.slice none 0 0):=eC BK759 1;have hfs73:=blk_frozen BK759.out 1;have hns73_1:=NB766_759.out;have hms73_1:=NB759_766.out
      refine skip_ (w1:=?_) (by rfl) rfl ?_ ?_
      rotate_left
      ·go_simp;rfl
      refine hK.out _ _ ⟨((cell_far (p:=⟨gb759,_,none⟩) NB766_759.out _).trans (((cell_far (p:=⟨gb759,_,none⟩) NB766_759.out _).trans (hHeld.1)))),((cell_far (p:=⟨gb759,_,none⟩) NB766_759.out _).trans (((cell_far (p:=⟨gb759,_,none⟩) NB766_759.out _).trans (hHeld.2))))⟩ (fun hHeld=>?_);clear hK K
      refine done_ (done_of HT_.out aK) ?_
      try go_wp2
      refine bodyPost_ret (results_cell_row rfl _ _ gb759 31 #[.slice Ao70 t807.length co70,.slice Ao72 t810.length co72] (0,0) _ rfl (pP BK759) Try.underlying31 rfl aK) rfl ?_
      exact ⟨_,_,by first|rfl|(simp [errW_none,errW_some]<;>rfl)|(simp [*,errW_none,errW_some]<;>rfl),pU HO809 BK759,pU HO812 BK759,IsS110.p HI0,pQ HB (IsS110.ge HI0.out),pH HK⟩
     ·rw [if_neg c60] at H;have c60b0:(t799 == 1)=false:=beq_eq_false_iff_ne.mpr c60;have c60b1:(t799 != 1)=true:=bne_iff_ne.mpr c60
      by_cases c74:t799=2
      ·rw [if_pos c74] at H;obtain ⟨c74b0,c74b1⟩:=eqB c74;clear c74;obtain ⟨⟨t813,t814⟩,A75,H⟩:=bI H;(try dsimp only at H)
       by_cases c76:0≤t813
       ·rw [if_pos c76] at H;have c76b0:=eq_true c76;have c76b1:decide (0≤t813)=true:=decide_eq_true c76;clear c76
        by_cases c77:t813≤(t795.length:Int)
        ·rw [if_pos c77] at H;have c77b0:=eq_true c77;have c77b1:decide (t813≤(t795.length:Int))=true:=decide_eq_true c77;clear c77;obtain ⟨y815,hy815⟩:∃ y_:List (S61),y_=(t795.take (t813:Int).toNat):=⟨_,rfl⟩
         replace H:((spec_WalDo.f kj3 x767000_3 x767001_3 y815 false 0 ([]:List Int)).bind fun bt819=>(some (bt819.1,bt819.2,t814)))=some (r1,r2,r3):=qH hy815 H
         have Ny815:=mA hy815;clear hy815;obtain ⟨⟨t819,t822⟩,A78,H⟩:=bI H;(try dsimp only at H);simp only [Option.some.injEq,Prod.mk.injEq] at H;obtain ⟨rfl,rfl,rfl⟩:=H;obtain ⟨Ao79,co79,rfl⟩:=Kd.R_slice HO797.out
         try go_wp2_with (first|(refine gL (some 74) Try.func75 #[.pointer (some ⟨g,0,none⟩),.int .i64 (wrap64 ((t795.length:Int)+1))] ?_;(with_reducible refine (spec_l6Rd_pick.calls kj3 g s0_0 t800 (wrap64 ((t795.length:Int)+1)) t813 t814 w0 _ ?s1 ?s2 A75.out).mono ?_);(case s1=>exact IsS110.p HI0);(case s2=>exact pQ HB (IsS110.ge HI0.out));rintro e w80 ⟨rfl,hi,hb,hk⟩;refine ⟨_,rfl,?_⟩;replace HO_767000:=mA (rK (IsS110.apart (IsS110.p HI0) (pR HO_767000.out) aD) hk);replace HO_767001:=mA (rK (IsS110.apart (IsS110.p HI0) (pR HO_767001.out) aD) hk);replace HO789:=mA (rK (IsS110.apart (IsS110.p HI0) (pR HO789.out) aD) hk);replace HO793:=mA (rK (IsS110.apart (IsS110.p HI0) (pR HO793.out) aD) hk);replace HO797:=mA (rK (IsS110.apart (IsS110.p HI0) (pR HO797.out) aD) hk);replace BK759:=mA (kB hk (pK BK759.out) NB759_0);replace BK766:=mA (kB hk (pK BK766.out) NB766_0);replace HK:=mA (KeepBut.trans (pH HK) hk (.inl rfl));replace HB:=mA hb;replace HI0:=mA hi;(try clear hb);(try clear hk);(try clear hi)))
         replace HO_767000:=rD HO_767000;replace HO_767001:=rD HO_767001;replace HO789:=rD HO789;replace HO793:=rD HO793;replace HO797:=rD HO797;replace BK759:=mA (blk_drew BK759.out);replace BK766:=mA (blk_drew BK766.out);replace HI0:=mA (IsS110.drew HI0.out);replace HK:=mA (keep_drew HK.out);replace HB:=mA (below_drew1 HB.out);have q82:(t813:Int)≤((t795.length:Int):Int):=of_decide_eq_true bA;obtain ⟨i082,hi082,_,hsz82,_⟩:=info_parts info61;have hroom82:t795.length≤co79:=cL HO797;have hC82:Kd.C k61 _ Ao79 t795.length t795:=(Kd.R_reads' HO797.out).2.2;have hcut82:=cut_to (P:=Try.prog) 38 61 .i64 Try.underlying38 hi082 Ao79 t795.length co79 t813 (of_decide_eq_true bA) q82 hroom82
         have hr82:=Kd.C_take (m:=(t813:Int).toNat) hC82 (by omega)
         have hy82:y815.length=(t813:Int).toNat:=(by rw [Ny815.out,List.length_take];omega)
         rw [← Ny815.out] at hr82;rw [← hy82] at hcut82;have HR818:=mA hr82
         have HC818:=mA (show y815.length≤co79 from by omega)
         clear hr82 hC82 hroom82 hi082 hsz82;have KY82:=mA hy82;clear hy82
         have KL82:=mA (show (t813:Int).toNat≤t795.length from by omega)
         replace q82:=eq_true q82
         refine start_ (n:=6) (S:=fun w'=>w'.cell? ⟨gb766,0,none⟩=some (.slice Ao45 x767000_3.length co45)∧w'.cell? ⟨gb766,1,none⟩=some (.slice Ao46 x767001_3.length co46)) (ds:=[]) _ aK rfl rfl ⟨eC BK766 0,eC BK766 1⟩ (fun hHeld=>?_)
         generalize w80.drew=w81 at HO_767000 HO_767001 HO789 HO793 HO797 BK759 BK766 HI0 HK HB HR818 hHeld ⊢
         refine pu_ 1 (some 76) aK ?_
         refine pu_ 2 (some 77) aK ?_
         refine pu_ 3 (some 78) aK ?_
         refine ta2_ 0 (some 75) aK hHeld ?_
         refine on_ 4 (some 79) aK ?_;intro K hK
         refine gS Try.func33 #[.agg #[.slice Ao45 x767000_3.length co45,.slice Ao46 x767001_3.length co46],.slice Ao79 y815.length co79,.bool false,.int .i64 0,.slice none 0 0] ?_
         refine (spec_WalDo.calls kj3 _ _ x767000_3 _ _ x767001_3 _ _ y815 false 0 _ _ ([]:List Int) t819 t822 _ ?s1 ?s2 ?s3 ?s4 ?s5 ?s6 ?s7 ?s8 A78.out).mono ?_
         (case s1=>exact cR HO_767000)
         (case s2=>exact cL HO_767000)
         (case s3=>exact cR HO_767001)
         (case s4=>exact cL HO_767001)
         (case s5=>repeat (first|exact (by repeat (first|(with_reducible exact HR818.out)|(with_reducible refine Kd.C_alloc ?_ _)|(with_reducible refine Kd.C_drewN ?_ _)|(with_reducible refine Kd.C_drew ?_)|exact HR818.out))|(with_reducible refine Kd.C_alloc ?_ _)|(with_reducible refine Kd.C_drewN ?_ _)|(with_reducible refine Kd.C_drew ?_)))
         (case s6=>exact HC818.out)
         (case s7=>exact Kd.C_nil _ _)
         (case s8=>exact Nat.le_refl _)
         rintro e w83 ⟨v820,v823,rfl,ho0,ho1,hb⟩;refine ⟨_,rfl,?_⟩;replace HO797:=rB HO797 hb;have HO821:=mA (Kd.R_lower (Kd.R_new' (Kd.R_new' (Kd.R_new' ho0 (rL HO_767000)) (rL HO789)) (rL HO793)) (kS HK));replace HO_767000:=rE HO_767000 ho0 hb;replace HO789:=rE HO789 ho0 hb;replace HO793:=rE HO793 ho0 hb;have HO824:=mA (Kd.R_lower (Kd.R_new' ho1 (rL HO_767001)) (kS HK));replace HO_767001:=rE HO_767001 ho1 hb;replace BK759:=bK BK759 hb;replace BK766:=bK BK766 hb;replace HR818:=mA (Kd.C_below (by repeat (first|(with_reducible exact HR818.out)|(with_reducible refine Kd.C_alloc ?_ _)|(with_reducible refine Kd.C_drewN ?_ _)|(with_reducible refine Kd.C_drew ?_)|exact HR818.out)) hb);replace HK:=mA (KeepBut.trans (pH HK) (KeepBut.of_below hb g none) (.inl rfl));replace HB:=mA (below_step (pQ HB (IsS110.ge HI0.out)) hb);replace HI0:=mA (IsS110.below (IsS110.p HI0) hb)
         (try clear hb);(try clear ho0);(try clear ho1)
         obtain ⟨Ao84,co84,eo84⟩:=Kd.R_slice HO821.out
         (first|subst eo84|(injection eo84 with f1_ f2_ f3_;have f4_:=f1_.symm;have f5_:=f3_.symm;clear f1_ f2_ f3_;subst f4_;subst f5_))
         obtain ⟨Ao86,co86,eo86⟩:=Kd.R_slice HO824.out
         (first|subst eo86|(injection eo86 with f1_ f2_ f3_;have f4_:=f1_.symm;have f5_:=f3_.symm;clear f1_ f2_ f3_;subst f4_;subst f5_))
         refine hK.out _ _ ⟨eC BK766 0,eC BK766 1⟩ (fun hHeld=>?_);clear hK K;refine no_ (some 79) ?_
         refine on_ 5 (none) aK ?_;intro K hK
         have hs85:w83.cell? ⟨gb759,0,none⟩=some (.slice none 0 0):=eC BK759 0;have hfs85:=blk_frozen BK759.out 0;have hns85_1:=NB766_759.out;have hms85_1:=NB759_766.out;have hs87:w83.cell? ⟨gb759,1,none⟩=some (.slice none 0 0):=eC BK759 1;have hfs87:=blk_frozen BK759.out 1;have hns87_1:=NB766_759.out;have hms87_1:=NB759_766.out
         refine skip_ (w1:=?_) (by rfl) rfl ?_ ?_
         rotate_left
         ·go_simp;rfl
         refine hK.out _ _ ⟨((cell_far (p:=⟨gb759,_,none⟩) NB766_759.out _).trans (((cell_far (p:=⟨gb759,_,none⟩) NB766_759.out _).trans (hHeld.1)))),((cell_far (p:=⟨gb759,_,none⟩) NB766_759.out _).trans (((cell_far (p:=⟨gb759,_,none⟩) NB766_759.out _).trans (hHeld.2))))⟩ (fun hHeld=>?_);clear hK K
         refine done_ aK ?_
         try go_wp2
         refine bodyPost_ret (results_cell_row rfl _ _ gb759 31 #[.slice Ao84 t819.length co84,.slice Ao86 t822.length co86] (0,0) _ rfl (pP BK759) Try.underlying31 rfl aK) rfl ?_
         exact ⟨_,_,by first|rfl|(simp [errW_none,errW_some]<;>rfl)|(simp [*,errW_none,errW_some]<;>rfl),pU HO821 BK759,pU HO824 BK759,IsS110.p HI0,pQ HB (IsS110.ge HI0.out),pH HK⟩
        ·rw [if_neg c77] at H
         exact absurd H (by simp)
       ·rw [if_neg c76] at H
        exact absurd H (by simp)
      ·rw [if_neg c74] at H;have c74b0:(t799 == 2)=false:=beq_eq_false_iff_ne.mpr c74;have c74b1:(t799 != 2)=true:=bne_iff_ne.mpr c74;have H':=mA H;clear H
       go_wp2
       go_meet
       case rel=>exact ⟨_,(t800),H',⟨by have:=HJ3.out;first|omega|exact Nat.le_refl _⟩,⟨pR HO797.out⟩,⟨pR (Kd.R_mono HO_767000.out (fun _ hk=>trivial))⟩,⟨pR HO_767001.out⟩,⟨pK BK759.out⟩,⟨pK BK766.out⟩,⟨IsS110.p HI0⟩,⟨pH HK⟩,⟨pQ HB (IsS110.ge HI0.out)⟩⟩
   case rest =>
    clear HC41
    obtain ⟨kq,x1001_40,HA,HJ40,HO_11,HO_767000,HO_767001,BK759,BK766,HI0,HK,HB⟩:=hcut
    cases kq with
    | zero=>exact absurd HA.out (by simp [spec_l72Wal.j3])
    | succ kj40 =>
     have H:=HA.out;clear HA;simp only [spec_l72Wal.j3] at H;obtain ⟨⟨t825,t826⟩,A88,H⟩:=bI H;(try dsimp only at H);obtain ⟨⟨t827,t830⟩,A89,H⟩:=bI H;(try dsimp only at H);obtain ⟨⟨t831,t834⟩,A90,H⟩:=bI H;(try dsimp only at H);simp only [Option.some.injEq,Prod.mk.injEq] at H;obtain ⟨rfl,rfl,rfl⟩:=H
     try go_wp2
     replace HO_11:=rD HO_11;replace HO_767000:=rD HO_767000;replace HO_767001:=rD HO_767001;replace BK759:=mA (blk_drew BK759.out);replace BK766:=mA (blk_drew BK766.out);replace HI0:=mA (IsS110.drew HI0.out);replace HK:=mA (keep_drew HK.out);replace HB:=mA (below_drew1 HB.out);obtain ⟨Ao92,co92,eo92⟩:=Kd.R_slice HO_11.out
     (first|subst eo92|(injection eo92 with f1_ f2_ f3_;have f4_:=f1_.symm;have f5_:=f3_.symm;clear f1_ f2_ f3_;subst f4_;subst f5_))
     refine start_ (n:=12) (S:=fun w'=>w'.cell? ⟨gb766,0,none⟩=some (.slice Ao45 x767000_3.length co45)∧w'.cell? ⟨gb766,1,none⟩=some (.slice Ao46 x767001_3.length co46)) (ds:=[]) _ aK rfl rfl ⟨eC BK766 0,eC BK766 1⟩ (fun hHeld=>?_);refine with_tabW spec_l72Wal.tab18 spec_l72Wal.bits18 (fun HT_ HW_=>?_)
     generalize wc.drew=w91 at HO_11 HO_767000 HO_767001 BK759 BK766 HI0 HK HB hHeld ⊢
     refine pu_ 1 (some 81) (aT HT_) ?_
     refine pu_ 2 (some 82) (aT HT_) ?_
     refine pu_ 3 (some 83) (aT HT_) ?_
     refine pu_ 4 (some 84) (aT HT_) ?_
     refine pu_ 5 (some 85) (aT HT_) ?_
     refine pu_ 8 (some 88) (aT HT_) ?_
     refine ta2_ 0 (some 80) (tT HT_ HW_) hHeld ?_
     refine on_ 6 (some 86) (oT HT_) ?_;intro K hK
     refine gS Try.func75 #[.pointer (some ⟨g,0,none⟩),.int .i64 4] ?_
     with_reducible refine (spec_l6Rd_pick.calls kj40 g s0_0 x1001_40 4 t825 t826 w0 _ ?s1 ?s2 A88.out).mono ?_
     (case s1=>exact IsS110.p HI0)
     (case s2=>exact pQ HB (IsS110.ge HI0.out))
     rintro e w93 ⟨rfl,hi,hb,hk⟩;refine ⟨_,rfl,?_⟩
     replace HO_11:=mA (rK (IsS110.apart (IsS110.p HI0) (pR HO_11.out) aD) hk);replace HO_767000:=mA (rK (IsS110.apart (IsS110.p HI0) (pR HO_767000.out) aD) hk);replace HO_767001:=mA (rK (IsS110.apart (IsS110.p HI0) (pR HO_767001.out) aD) hk);replace BK759:=mA (kB hk (pK BK759.out) NB759_0);replace BK766:=mA (kB hk (pK BK766.out) NB766_0);replace HK:=mA (KeepBut.trans (pH HK) hk (.inl rfl));replace HB:=mA hb;replace HI0:=mA hi
     (try clear hb);(try clear hk);(try clear hi)
     refine hK.out _ _ ⟨eC BK766 0,eC BK766 1⟩ (fun hHeld=>?_);clear hK K;refine no_ (some 86) ?_
     refine pu_ 7 (some 87) (aT HT_) ?_
     refine on_ 9 (some 89) (oT HT_) ?_;intro K hK
     refine gS Try.func79 #[.pointer (some ⟨g,0,none⟩),.int .i64 8] ?_
     with_reducible refine (spec_l72Bits.calls kj40 g s0_0 t826 8 t827 t830 w0 _ ?s1 ?s2 A89.out).mono ?_
     (case s1=>exact IsS110.p HI0)
     (case s2=>exact pQ HB (IsS110.ge HI0.out))
     rintro e w94 ⟨v828,rfl,ho0,hi,hb,hk⟩;refine ⟨_,rfl,?_⟩
     replace HO_11:=mA (rK (IsS110.apart (IsS110.p HI0) (pR HO_11.out) aD) hk);replace HO_767000:=mA (rK (IsS110.apart (IsS110.p HI0) (pR HO_767000.out) aD) hk);replace HO_767001:=mA (rK (IsS110.apart (IsS110.p HI0) (pR HO_767001.out) aD) hk);have HO829:=mA (Kd.R_lower ho0 (kS HK));replace BK759:=mA (kB hk (pK BK759.out) NB759_0);replace BK766:=mA (kB hk (pK BK766.out) NB766_0);replace HK:=mA (KeepBut.trans (pH HK) hk (.inl rfl));replace HB:=mA hb;replace HI0:=mA hi
     (try clear hb);(try clear hk);(try clear hi);(try clear ho0)
     obtain ⟨Ao95,co95,eo95⟩:=Kd.R_slice HO829.out
     (first|subst eo95|(injection eo95 with f1_ f2_ f3_;have f4_:=f1_.symm;have f5_:=f3_.symm;clear f1_ f2_ f3_;subst f4_;subst f5_))
     refine hK.out _ _ ⟨eC BK766 0,eC BK766 1⟩ (fun hHeld=>?_);clear hK K;refine no_ (some 89) ?_
     refine on_ 10 (some 90) (oT HT_) ?_;intro K hK
     refine gS Try.func33 #[.agg #[.slice Ao45 x767000_3.length co45,.slice Ao46 x767001_3.length co46],.slice Ao92 t795.length co92,.bool true,.int .i64 (wrap64 ((wrap64 ((t795.length:Int) - 1)) - t825)),.slice Ao95 t827.length co95] ?_
     with_reducible refine (spec_WalDo.calls kj40 _ _ x767000_3 _ _ x767001_3 _ _ t795 true (wrap64 ((wrap64 ((t795.length:Int) - 1)) - t825)) _ _ t827 t831 t834 _ ?s1 ?s2 ?s3 ?s4 ?s5 ?s6 ?s7 ?s8 A90.out).mono ?_
     (case s1=>exact cR HO_767000)
     (case s2=>exact cL HO_767000)
     (case s3=>exact cR HO_767001)
     (case s4=>exact cL HO_767001)
     (case s5=>exact cR HO_11)
     (case s6=>exact cL HO_11)
     (case s7=>exact cR HO829)
     (case s8=>exact cL HO829)
     rintro e w96 ⟨v832,v835,rfl,ho0,ho1,hb⟩;refine ⟨_,rfl,?_⟩;replace HO_11:=rB HO_11 hb;replace HO829:=rB HO829 hb;have HO833:=mA (Kd.R_lower (Kd.R_new' ho0 (rL HO_767000)) (kS HK));replace HO_767000:=rE HO_767000 ho0 hb;have HO836:=mA (Kd.R_lower (Kd.R_new' ho1 (rL HO_767001)) (kS HK));replace HO_767001:=rE HO_767001 ho1 hb;replace BK759:=bK BK759 hb;replace BK766:=bK BK766 hb;replace HK:=mA (KeepBut.trans (pH HK) (KeepBut.of_below hb g none) (.inl rfl));replace HB:=mA (below_step (pQ HB (IsS110.ge HI0.out)) hb);replace HI0:=mA (IsS110.below (IsS110.p HI0) hb)
     (try clear hb);(try clear ho0);(try clear ho1)
     obtain ⟨Ao97,co97,eo97⟩:=Kd.R_slice HO833.out
     (first|subst eo97|(injection eo97 with f1_ f2_ f3_;have f4_:=f1_.symm;have f5_:=f3_.symm;clear f1_ f2_ f3_;subst f4_;subst f5_))
     obtain ⟨Ao99,co99,eo99⟩:=Kd.R_slice HO836.out
     (first|subst eo99|(injection eo99 with f1_ f2_ f3_;have f4_:=f1_.symm;have f5_:=f3_.symm;clear f1_ f2_ f3_;subst f4_;subst f5_))
     refine hK.out _ _ ⟨eC BK766 0,eC BK766 1⟩ (fun hHeld=>?_);clear hK K;refine no_ (some 90) ?_
     refine on_ 11 (none) (oT HT_) ?_;intro K hK
     have hs98:w96.cell? ⟨gb759,0,none⟩=some (.slice none 0 0):=eC BK759 0;have hfs98:=blk_frozen BK759.out 0;have hns98_1:=NB766_759.out;have hms98_1:=NB759_766.out;have hs100:w96.cell? ⟨gb759,1,none⟩=some (.slice none 0 0):=eC BK759 1;have hfs100:=blk_frozen BK759.out 1;have hns100_1:=NB766_759.out;have hms100_1:=NB759_766.out
     refine skip_ (w1:=?_) (by rfl) rfl ?_ ?_
     rotate_left
     ·go_simp;rfl
     refine hK.out _ _ ⟨((cell_far (p:=⟨gb759,_,none⟩) NB766_759.out _).trans (((cell_far (p:=⟨gb759,_,none⟩) NB766_759.out _).trans (hHeld.1)))),((cell_far (p:=⟨gb759,_,none⟩) NB766_759.out _).trans (((cell_far (p:=⟨gb759,_,none⟩) NB766_759.out _).trans (hHeld.2))))⟩ (fun hHeld=>?_);clear hK K
     refine done_ (done_of HT_.out aK) ?_
     try go_wp2
     refine bodyPost_ret (results_cell_row rfl _ _ gb759 31 #[.slice Ao97 t831.length co97,.slice Ao99 t834.length co99] (0,0) _ rfl (pP BK759) Try.underlying31 rfl aK) rfl ?_
     exact ⟨_,_,by first|rfl|(simp [errW_none,errW_some]<;>rfl)|(simp [*,errW_none,errW_some]<;>rfl),pU HO833 BK759,pU HO836 BK759,IsS110.p HI0,pQ HB (IsS110.ge HI0.out),pH HK⟩

end Go.Proofs.Ythjocaegapchaaa.P
